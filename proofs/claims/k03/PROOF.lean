import PyProof.Rows.All
import PyProof.ReprReads
import PyProof.EqLayable
import HandS.List
import HandS.ForMost
import HandS.ForExc
import HandS.CallSlots
import HandS.TupAny
import HandS.TupMul
import HandS.Deep
import HandS.Style
import HandS.SortInts
import HandS.IsInst
import KE.KSortedM
import HandS.Strs
import HandS.HeadEnd
import HandS.SortOrd
import HandS.Conv
import HandS.More
import HandS.ExcInit
import HandS.TryOnly
import HandS.ExcField
import HandS.ExcIs
import HandS.Defaults
import HandS.HeadHook2
import KE.GoesEnum
import HandS.Zip
import HandS.Head2
import PyProof.ReprLen
import PyProof.Rows.ReprOcc
import PyProof.Ascii
import PySem.Challenge.RW_handnames_k03_whole_weavings_of_deciders
set_option Elab.async false
set_option linter.all false
/-! MI0: the mini interpreter's values, syntax and meaning. Plain Lean. -/
namespace MI
open PySem

abbrev D := PyData

/-- the classes of exceptions that the program knows -/
inductive Cl where
  | handError | noStep | noPaper | noStand | tooMany | noType | noRow | valueError
  deriving DecidableEq, Repr
/-- is the first one the second one, or under it -/
def Cl.sub : Cl → Cl → Bool
  | _, .valueError => true
  | .valueError, _ => false
  | _, .handError => true
  | a, b => decide (a = b)

/-- a value: data that nobody changes; an own list, dict, list of own lists; the script; an exception -/
inductive O where
  | d (x : D)
  | l (xs : List D)
  | k (kvs : List (D × D))
  | ll (xss : List (List D))
  | s (ns : List Int)
  | x (c : Cl) (fs : List (Str × D))
abbrev Env := List (Option O)

inductive R (α : Type) where
  | ok (a : α) (Γ : Env)
  | exc (c : Cl) (fs : List (Str × D)) (Γ : Env)
  | bad
def R.bind {α β : Type} : R α → (α → Env → R β) → R β
  | .ok a Γ, f => f a Γ
  | .exc c fs Γ, _ => .exc c fs Γ
  | .bad, _ => .bad
@[simp] theorem R.bind_ok {α β : Type} (a : α) (Γ : Env) (f : α → Env → R β) : (R.ok a Γ).bind f = f a Γ := rfl
@[simp] theorem R.bind_exc {α β : Type} (c : Cl) (fs : List (Str × D)) (Γ : Env) (f : α → Env → R β) : (R.exc c fs Γ : R α).bind f = .exc c fs Γ := rfl
@[simp] theorem R.bind_bad {α β : Type} (f : α → Env → R β) : (R.bad : R α).bind f = .bad := rfl

inductive Bop where | add | sub | mul | fdiv | mod | pow
  deriving DecidableEq, Repr
inductive Cop where | eq | ne | lt | le | gt | ge | isin | notin | is | isnt
  deriving DecidableEq, Repr
/-- built-in functions of one or two values -/
inductive Blt where
  | len | all | any | tuple | list | sorted | lenset | sortset | repr | str | int | max1 | max2 | min1 | min2 | sum | dict | lrange1 | lrange2 | dictzip
  deriving DecidableEq, Repr
/-- methods that change nothing -/
inductive Mth where | count | index | get1 | get2 | join | split | upper | values | items
  deriving DecidableEq, Repr
/-- what isinstance asks of -/
inductive Ty where
  | int | bool | str | tuple | list | dict
  deriving DecidableEq, Repr
/-- a target: a slot, or a tuple of targets -/
inductive T where
  | nm (i : Nat)
  | tp (is : List Nat)
  deriving DecidableEq, Repr

mutual
inductive E where
  | var (i : Nat)
  | cst (x : D)
  | glob (g : Nat)
  | bin (op : Bop) (a b : E)
  | not (a : E) | neg (a : E)
  | and (a b : E) | or (a b : E)
  | cmp (op : Cop) (a b : E)
  | chain (op op' : Cop) (a b c : E)
  | ite (c a b : E)
  | tup (es : Es) | lst (es : Es) | lls (es : Es)
  | dct (es : Es)
  | lc (own : List Nat) (t : T) (it : I) (c : E) (e : E)
  | idx (a i : E)
  | slh (a hi : E) | sll (a lo : E) | slb (a lo hi : E)
  | scut (i : Nat) (n : Int)
  | rev (a : E)
  | call (f : Nat) (args : Es)
  | blt (b : Blt) (a : E)
  | blts (b : Blt) (args : Es)
  | mth (m : Mth) (a : E) (args : Es)
  | pop (i : Nat) | popat (i : Nat) (e : E)
  | att (i : Nat) (f : Str)
  | isi (a : E) (ty : Ty)
  | isx (i : Nat) (cs : List Cl)
  | llnil (i : Nat)
inductive Es where
  | nil
  | cons (e : E) (es : Es)
/-- what is walked -/
inductive I where
  | seq (e : E) | chars (e : E) | keys (e : E)
  | rng1 (a : E) | rng2 (a b : E) | rng3 (a b c : E)
  | enum (e : E)
  | zip (a b : E)
  | items (e : E)
end
/-- does it serve tuples just made -/
def I.lo : I → Bool
  | .enum _ => true
  | .zip _ _ => true
  | .items _ => true
  | _ => false

mutual
inductive S where
  | expr (e : E)
  | asg (i : Nat) (e : E)
  | tasg (is : List Nat) (e : E)
  | par (is : List Nat) (es : Es)
  | set (i : Nat) (k v : E)
  | app (i : Nat) (e : E) | appl (i : Nat) (e : E) | ext (i : Nat) (e : E)
  | app2 (i : Nat) (j e : E)
  | ins (i : Nat) (j e : E)
  | clr (i : Nat) | revs (i : Nat) | upd (i : Nat) (e : E)
  | ife (c : E) (t e : Ss)
  | for (t : T) (it : I) (b : Ss)
  | whl (c : E) (b : Ss)
  | ret (e : E) | retv (i : Nat) | retn
  | pass | brk | cont
  | raise (c : Cl) (es : Es)
  | dead
  | try (b : Ss) (c : Cl) (n : Option Nat) (h : Ss)
inductive Ss where
  | nil
  | cons (s : S) (ss : Ss)
end

/-! ### reading -/
def fz : O → Option D
  | .d x => some x
  | .l xs => some (.list xs)
  | .k kvs => some (.dict kvs)
  | .ll xss => some (.list (xss.map .list))
  | .s _ => none
  | .x _ _ => none
/-- a name read as a value -/
def rdV (i : Nat) (Γ : Env) : R O :=
  match Γ[i]? with
  | some (some (.d x)) => .ok (.d x) Γ
  | some (some (.l xs)) => .ok (.d (.list xs)) (Γ.set i (some (.d (.list xs))))
  | some (some (.k kvs)) => .ok (.d (.dict kvs)) (Γ.set i (some (.d (.dict kvs))))
  | some (some (.ll xss)) => .ok (.d (.list (xss.map .list))) (Γ.set i (some (.d (.list (xss.map .list)))))
  | some (some (.s ns)) => .ok (.s ns) Γ
  | some (some (.x c fs)) => .ok (.x c fs) Γ
  | _ => .bad
/-- an operand that is only looked at: a slot (read late), or data -/
inductive B where | sl (i : Nat) | v (x : D)
def rdB (b : B) (Γ : Env) : R D :=
  match b with
  | .v x => .ok x Γ
  | .sl i => match Γ[i]? with
    | some (some (.d x)) => .ok x Γ
    | some (some (.l xs)) => .ok (.list xs) Γ
    | some (some (.k kvs)) => .ok (.dict kvs) Γ
    | some (some (.ll xss)) => .ok (.list (xss.map .list)) (Γ.set i (some (.d (.list (xss.map .list)))))
    | _ => .bad
def lim : Nat := 16777216
/-- the kinds that have methods -/
inductive Kd where | lst | tup | dct | str | other
  deriving DecidableEq, Repr
def kdOf : D → Kd
  | .list _ => .lst | .tuple _ => .tup | .dict _ => .dct | .str _ => .str | _ => .other
def kdB (b : B) (Γ : Env) : Kd := match b with
  | .v x => kdOf x
  | .sl i => match Γ[i]? with
    | some (some (.d x)) => kdOf x
    | some (some (.l _)) => .lst
    | some (some (.k _)) => .dct
    | some (some (.ll _)) => .lst
    | _ => .other
def Mth.on : Mth → Kd → Bool
  | .count, .lst | .count, .tup | .index, .lst | .index, .tup | .get1, .dct | .get2, .dct | .join, .str | .split, .str | .upper, .str | .values, .dct | .items, .dct => true
  | _, _ => false

/-! ### operations on data -/
def tru : D → Option Bool
  | .bool b => some b
  | _ => none
/-- a number within a bound (told by naturals: a comparison of whole numbers with a great one is peeled one by one by the kernel) -/
def small (b : Nat) (i : Int) : Bool := Nat.blt i.natAbs b
theorem small_iff {b : Nat} {i : Int} : small b i = true ↔ i.natAbs < b := by
  unfold small
  rw [Nat.blt_eq]
def i64 (i : Int) : Bool := small 18446744073709551616 i
def rep {α : Type} (k : Int) (xs : List α) : List α := (List.replicate k.toNat xs).flatten
def bop : Bop → D → D → Option O
  | .add, .int i, .int j => some (.d (.int (i + j)))
  | .add, .str x, .str y => if x.length + y.length ≤ lim then some (.d (.str (x ++ y))) else none
  | .add, .tuple xs, .tuple ys => if xs.length + ys.length ≤ lim then some (.d (.tuple (xs ++ ys))) else none
  | .add, .list xs, .list ys => if xs.length + ys.length ≤ lim then some (.l (xs ++ ys)) else none
  | .sub, .int i, .int j => some (.d (.int (i - j)))
  | .mul, .int i, .int j => if i64 i || i64 j then some (.d (.int (i * j))) else none
  | .mul, .tuple xs, .int k => if !xs.isEmpty && decide (1 ≤ k) && decide (k ≤ 1000) && decide (xs.length ≤ 1000) then some (.d (.tuple (rep k xs))) else none
  | .mul, .list xs, .int k => if small 1000000 k && decide (xs.length * k.toNat ≤ lim) then some (.l (rep k xs)) else none
  | .fdiv, .int i, .int j => if decide (0 < j) && small 1073741824 j then some (.d (.int (i / j))) else none
  | .mod, .int i, .int j => if decide (0 < j) then some (.d (.int (i % j))) else none
  | .pow, .int i, .int j => if decide (0 ≤ j) && small 1000001 j && small 18446744073709551616 i then some (.d (.int (i ^ j.toNat))) else none
  | _, _, _ => none
/-- one thing == another one; none where the kit has no word for it -/
def bothStr : D → D → Option (Str × Str)
  | .str x, .str y => some (x, y)
  | _, _ => none
def eqD (a b : D) : Option Bool := match bothStr a b with
  | some (x, y) => some (x.cps.toList == y.cps.toList)
  | none => if SeqAt.shaped a && SeqAt.shaped b then some (PyData.eqv a b) else none
def isin (a : D) (xs : List D) : Option Bool := if SeqAt.shaped a && SeqAt.shaped (.list xs) then some (xs.any fun z => PyData.eqv z a) else none
/-- a key of a dict: numbers and texts; tuples -/
def keyOk : D → Bool
  | .int _ | .str _ => true
  | _ => false
mutual
def nkOk : D → Bool
  | .bool _ | .int _ | .str _ | .none => true
  | .tuple xs => nkOks xs
  | _ => false
def nkOks : List D → Bool
  | [] => true
  | x :: xs => nkOk x && nkOks xs
end
def tkeyOk : D → Bool
  | .tuple xs => nkOks xs && decide (PyData.depth (.tuple xs) ≤ 40)
  | _ => false
def kvGet (kvs : List (D × D)) (k : D) : Option D := (kvs.find? fun kv => PyData.eqv kv.1 k).map (·.2)
def kvPut (kvs : List (D × D)) (k v : D) : List (D × D) :=
  if kvs.any fun kv => PyData.eqv kv.1 k then kvs.map fun kv => if PyData.eqv kv.1 k then (kv.1, v) else kv else kvs ++ [(k, v)]
/-- may k be looked for in a dict with these entries -/
def kindOk (kvs : List (D × D)) (k : D) : Bool := keyOk k && kvs.all fun kv => keyOk kv.1
def occ (x y : Str) : Bool := !(Builtin.Str.occurrences y x 0 y.length 1).isEmpty
def cmpInt : Cop → Int → Int → Option Bool
  | .lt, i, j => some (decide (i < j))
  | .le, i, j => some (decide (i ≤ j))
  | .gt, i, j => some (decide (j < i))
  | .ge, i, j => some (decide (j ≤ i))
  | _, _, _ => none
def cop : Cop → D → D → Option Bool
  | .eq, a, b => eqD a b
  | .ne, a, b => (eqD a b).map (!·)
  | .isin, a, .tuple xs => isin a xs
  | .isin, a, .list xs => isin a xs
  | .isin, a, .dict kvs => if kindOk kvs a then some (kvGet kvs a).isSome else none
  | .isin, .str x, .str y => some (occ x y)
  | .notin, a, .tuple xs => (isin a xs).map (!·)
  | .notin, a, .list xs => (isin a xs).map (!·)
  | .notin, a, .dict kvs => if kindOk kvs a then some (!(kvGet kvs a).isSome) else none
  | .notin, .str x, .str y => some (!occ x y)
  | .is, a, .none => some (match a with | .none => true | _ => false)
  | .is, a, .bool b => some (match a with | .bool c => b == c | _ => false)
  | .isnt, a, .none => some (match a with | .none => false | _ => true)
  | .isnt, a, .bool b => some (match a with | .bool c => !(b == c) | _ => true)
  | op, .int i, .int j => cmpInt op i j
  | _, _, _ => none
def nix (n : Nat) (i : Int) : Option Nat := if 0 ≤ i then (if i < n then some i.toNat else none) else if -(n : Int) ≤ i then some (i + n).toNat else none
def at? {α : Type} (xs : List α) (i : Int) : Option α := (nix xs.length i).bind fun j => xs[j]?
def idxD : D → D → Option D
  | .list xs, .int i => at? xs i
  | .tuple xs, .int i => at? xs i
  | .str z, .int i => if z.length ≤ lim then (at? z.cps.toList i).map fun c => .str ⟨#[c]⟩ else none
  | .dict kvs, k => if kindOk kvs k then kvGet kvs k else none
  | _, _ => none
def six (n d : Nat) : Option Int → Nat
  | none => d
  | some v => (if v < 0 then max (v + (n : Int)) 0 else min v (n : Int)).toNat
def cut {α : Type} (xs : List α) (lo hi : Option Int) : List α := (xs.drop (six xs.length 0 lo)).take (six xs.length xs.length hi - six xs.length 0 lo)
def asInt : D → Option Int
  | .int i => some i
  | _ => none
def slD (x : D) (lo hi : Option Int) : Option O :=
  match x with
  | .list xs => some (.l (cut xs lo hi))
  | .tuple xs => some (.d (.tuple (cut xs lo hi)))
  | _ => none
def revD : D → Option O
  | .list xs => some (.l xs.reverse)
  | .tuple xs => some (.d (.tuple xs.reverse))
  | _ => none
def bools : List D → Option (List Bool)
  | [] => some []
  | .bool b :: r => (bools r).map (b :: ·)
  | _ :: _ => none
def intsD : List D → Option (List Int)
  | [] => some []
  | .int i :: r => (intsD r).map (i :: ·)
  | _ :: _ => none
def items : D → Option (List D)
  | .list xs => some xs
  | .tuple xs => some xs
  | _ => none
/-- the size of what repr tells, at most -/
def showOk (x : D) : Bool := x.showable && decide (x.shown.length ≤ lim) && SeqAt.shaped x
def leI (i j : Int) : Bool := decide (i ≤ j)
/-- data in order: whole numbers, tuples that begin with unlike whole numbers -/
def sortD (xs : List D) : Option (List D) :=
  match intsD xs with
  | some ns => some ((ns.mergeSort leI).map .int)
  | none => none
def firsts : List D → Option (List (Int × List D))
  | [] => some []
  | .tuple (.int i :: r) :: t => (firsts t).map ((i, r) :: ·)
  | _ :: _ => none
def sortT (xs : List D) : Option (List D) :=
  match firsts xs with
  | some ps => if (ps.map (·.1)).Nodup then some ((ps.mergeSort fun a b => leI a.1 b.1).map fun p => .tuple (.int p.1 :: p.2)) else none
  | none => none
def sortAny (xs : List D) : Option (List D) :=
  match sortD xs with
  | some ys => some ys
  | none => sortT xs
/-- the unlike ones, each once -/
def uniq (xs : List D) : List D := xs.foldl (fun acc x => if acc.any fun y => PyData.eqv y x then acc else acc ++ [x]) []
def setOk (xs : List D) : Bool := xs.all keyOk || xs.all tkeyOk
def pairD : D → Option (D × D)
  | .tuple [a, b] => some (a, b)
  | _ => none
def pairsD : List D → Option (List (D × D))
  | [] => some []
  | x :: r => match pairD x, pairsD r with
    | some p, some ps => some (p :: ps)
    | _, _ => none
def putAll (kvs : List (D × D)) : List (D × D) → List (D × D)
  | [] => kvs
  | (k, v) :: r => putAll (kvPut kvs k v) r
def keysOk (ps : List (D × D)) : Bool := ps.all fun kv => keyOk kv.1
def iRange (lo hi c : Int) : List Int :=
  if 0 < c then (List.range ((hi - lo + c - 1) / c).toNat).map fun (i : Nat) => lo + i * c
  else if c < 0 then (List.range ((lo - hi - c - 1) / (-c)).toNat).map fun (i : Nat) => lo + i * c
  else []
def rngOk (i : Int) : Bool := small 1000000 i
/-- what a range walks -/
def rngD : List D → Option (List D)
  | [.int j] => if rngOk j then some ((List.range j.toNat).map fun (k : Nat) => .int k) else none
  | [.int i, .int j] => if rngOk i && rngOk j then some ((List.range (j - i).toNat).map fun (k : Nat) => .int (i + k)) else none
  | [.int i, .int j, .int c] => if rngOk i && rngOk j && rngOk c && decide (c ≠ 0) then some ((iRange i j c).map .int) else none
  | _ => none
def maxI (ns : List Int) : Option Int := ns.max?
def blt : Blt → List D → Option O
  | .len, [.list xs] => some (.d (.int xs.length))
  | .len, [.tuple xs] => some (.d (.int xs.length))
  | .len, [.str x] => if x.length ≤ lim then some (.d (.int x.length)) else none
  | .len, [.dict kvs] => if kvs.all fun kv => keyOk kv.1 then some (.d (.int kvs.length)) else none
  | .all, [.list xs] => (bools xs).map fun bs => .d (.bool (bs.all id))
  | .any, [.list xs] => (bools xs).map fun bs => .d (.bool (bs.any id))
  | .tuple, [x] => (items x).map fun xs => .d (.tuple xs)
  | .list, [x] => (items x).map fun xs => .l xs
  | .sorted, [x] => ((items x).bind intsD).map fun ns => .l ((ns.mergeSort leI).map .int)
  | .lenset, [x] => (items x).bind fun xs => if setOk xs then some (.d (.int (uniq xs).length)) else none
  | .sortset, [x] => (items x).bind fun xs => (intsD xs).bind fun _ => (sortD (uniq xs)).map .l
  | .repr, [x] => if showOk x then some (.d (.str x.shown)) else none
  | .str, [.str x] => some (.d (.str x))
  | .str, [.int i] => if i.natAbs.log2 < 1920 then some (.d (.str (toString i))) else none
  | .int, [.bool b] => some (.d (.int (if b then 1 else 0)))
  | .int, [.int i] => some (.d (.int i))
  | .max2, [.int i, .int j] => some (.d (.int (if j > i then j else i)))
  | .min2, [.int i, .int j] => some (.d (.int (if j < i then j else i)))
  | .max1, [.list xs] => (intsD xs).bind fun ns => ns.max?.map fun m => .d (.int m)
  | .min1, [.list xs] => (intsD xs).bind fun ns => ns.min?.map fun m => .d (.int m)
  | .sum, [.list xs] => (intsD xs).map fun ns => .d (.int ns.sum)
  | .dict, [.list xs] => (pairsD xs).bind fun ps => if keysOk ps then some (.k (putAll [] ps)) else none
  | .dict, [.dict kvs] => if keysOk kvs then some (.k kvs) else none
  | .lrange1, xs => (rngD xs).map .l
  | .lrange2, xs => (rngD xs).map .l
  | _, _ => none
def cntD (a : D) (xs : List D) : Option Nat := if SeqAt.shaped a && SeqAt.shaped (.list xs) then some (xs.countP fun z => PyData.eqv z a) else none
def ixD (a : D) (xs : List D) : Option Nat := if SeqAt.shaped a && SeqAt.shaped (.list xs) then xs.findIdx? fun z => PyData.eqv z a else none
def strsD : List D → Option (List Str)
  | [] => some []
  | .str x :: r => (strsD r).map (x :: ·)
  | _ :: _ => none
def mth : Mth → D → List D → Option O
  | .count, .list xs, [a] => (cntD a xs).map fun (n : Nat) => .d (.int (n : Int))
  | .count, .tuple xs, [a] => (cntD a xs).map fun (n : Nat) => .d (.int (n : Int))
  | .index, .list xs, [a] => (ixD a xs).map fun (n : Nat) => .d (.int (n : Int))
  | .index, .tuple xs, [a] => (ixD a xs).map fun (n : Nat) => .d (.int (n : Int))
  | .get1, .dict kvs, [k] => if kindOk kvs k then some (.d ((kvGet kvs k).getD .none)) else none
  | .get2, .dict kvs, [k, x] => if kindOk kvs k then some (.d ((kvGet kvs k).getD x)) else none
  | .values, .dict kvs, [] => some (.l (kvs.map (·.2)))
  | .items, .dict kvs, [] => some (.l (kvs.map fun kv => .tuple [kv.1, kv.2]))
  | .join, .str x, [.list ys] => (strsD ys).bind fun ts => if (Str.join x ts).length ≤ lim then some (.d (.str (Str.join x ts))) else none
  | .upper, .str x, [] => if x.cps.toList.all (fun c => decide (c < 128)) && decide (x.length ≤ 1000000) then some (.d (.str ⟨x.cps.map fun c => if 97 ≤ c ∧ c ≤ 122 then c - 32 else c⟩)) else none
  | _, _, _ => none
def isTy : Ty → D → Option Bool
  | .int, .int _ => some true
  | .int, .bool _ => some true
  | .int, _ => some false
  | .bool, .bool _ => some true
  | .bool, _ => some false
  | .str, .str _ => some true
  | .str, _ => some false
  | .tuple, .tuple _ => some true
  | .tuple, _ => some false
  | .list, .list _ => some true
  | .list, _ => some false
  | .dict, .dict _ => some true
  | .dict, _ => some false

/-! ### the program -/
structure Fn where
  np : Nat
  io : List Bool
  ns : Nat
  body : Ss
inductive CR where
  | ok (v : O) (outs : Env)
  | exc (c : Cl) (fs : List (Str × D))
  | bad
/-- the surrounding: the defs by number, constants of the module, the flags of the defs, fuel for whiles -/
structure Ctx where
  cf : Nat → List O → CR
  gl : Nat → Option D
  io : Nat → List Bool
  fu : Nat

def optR {α : Type} (o : Option α) (Γ : Env) : R α := match o with
  | some a => .ok a Γ
  | none => .bad
@[simp] theorem optR_some {α : Type} (a : α) (Γ : Env) : optR (some a) Γ = .ok a Γ := rfl
@[simp] theorem optR_none {α : Type} (Γ : Env) : optR (none : Option α) Γ = .bad := rfl

/-! ### targets -/
def setAll : List Nat → List D → Env → Option Env
  | [], [], Γ => some Γ
  | i :: is, x :: xs, Γ => setAll is xs (Γ.set i (some (.d x)))
  | _, _, _ => none
def asgT : T → D → Env → Option Env
  | .nm i, x, Γ => some (Γ.set i (some (.d x)))
  | .tp is, .tuple xs, Γ => setAll is xs Γ
  | _, _, _ => none
def wipe (Γ : Env) : List Nat → Env
  | [] => Γ
  | i :: is => (wipe Γ is).set i none
/-- data only -/
def keepD : Option O → Option O
  | some (.d x) => some (.d x)
  | _ => none
def restore (Γ₀ Γ : Env) : List Nat → Env
  | [] => Γ
  | i :: is => (restore Γ₀ Γ is).set i (keepD (Γ₀[i]?.getD none))
/-- the turns of a list comprehension -/
def lcLoop (own : List Nat) (t : T) (c : Env → R Bool) (f : Env → R D) : List D → Env → R (List D)
  | [], Γ => .ok [] Γ
  | x :: xs, Γ => match asgT t x (wipe Γ own) with
    | none => .bad
    | some Γ1 => match c Γ1 with
      | .ok true Γ2 => (f Γ2).bind fun y Γ3 => (lcLoop own t c f xs Γ3).bind fun ys Γ4 => .ok (y :: ys) Γ4
      | .ok false Γ2 => lcLoop own t c f xs Γ2
      | _ => .bad
def toD (o : O) (Γ : Env) : R D := optR (fz o) Γ
def slot (Γ : Env) (i : Nat) : Option O := (Γ[i]?).bind id
/-- an argument that a def may change: its slot -/
def giveS (e : E) (Γ : Env) : Option Nat := match e with
  | .var i => if (slot Γ i).isSome then some i else none
  | _ => none
/-- what stands in a slot at the call is handed over -/
def gvO (o : Option O) (i : Nat) (os : List O) (Γ : Env) : R (List O) := match o with
  | some o => .ok (o :: os) (Γ.set i none)
  | none => .bad
def takeBack : List Bool → Es → Env → Env → Env
  | true :: fl, .cons (.var i) es, o :: outs, Γ => takeBack fl es outs (Γ.set i o)
  | _ :: fl, .cons _ es, _ :: outs, Γ => takeBack fl es outs Γ
  | _, _, _, Γ => Γ
/-- a value handed to a def that doesn't change it -/
def pass1 (o : O) (Γ : Env) : R O := match o with
  | .x c fs => .ok (.x c fs) Γ
  | .s ns => .ok (.s ns) Γ
  | o => (toD o Γ).bind fun x Γ => .ok (.d x) Γ
def nextS : Env → R Unit := fun Γ => .ok () Γ

def pairUp : List D → Option (List (D × D))
  | [] => some []
  | a :: b :: r => (pairUp r).map ((a, b) :: ·)
  | _ => none
def R.toD (r : R O) : R D := r.bind fun o Γ => MI.toD o Γ
/-- an operand that is only looked at -/
def opB (e : E) (Γ : Env) (r : R O) : R B := match e with
  | .var i => match Γ[i]? with
    | some (some _) => .ok (.sl i) Γ
    | _ => .bad
  | _ => r.toD.bind fun x Γ => .ok (.v x) Γ
/-- as a test -/
def R.toB (r : R O) : R Bool := r.bind fun o Γ => match o with
  | .d (.bool b) => .ok b Γ
  | _ => .bad
/-- is it an own list -/
def isL : Option O → Bool
  | some (.l _) => true
  | _ => false
def isLL : Option O → Bool
  | some (.l _) => true
  | some (.ll _) => true
  | _ => false
def popEnd : Option O → Option (D × List D)
  | some (.l xs) => xs[xs.length - 1]?.map fun y => (y, xs.dropLast)
  | _ => none
def popAt : Option O → D → Option (D × List D)
  | some (.l xs), .int j => if rngOk j then (nix xs.length j).bind fun n => xs[n]?.map fun y => (y, xs.eraseIdx n) else none
  | _, _ => none
mutual
def evE (X : Ctx) : E → Env → R O
  | .var i, Γ => rdV i Γ
  | .cst x, Γ => .ok (.d x) Γ
  | .glob g, Γ => match X.gl g with
    | some x => .ok (.d x) Γ
    | none => .bad
  | .bin op a b, Γ => (opB a Γ (evE X a Γ)).bind fun p Γ => (opB b Γ (evE X b Γ)).bind fun q Γ => (rdB p Γ).bind fun x Γ => (rdB q Γ).bind fun y Γ => optR (bop op x y) Γ
  | .not a, Γ => (evE X a Γ).toB.bind fun b Γ => .ok (.d (.bool (!b))) Γ
  | .neg a, Γ => (evE X a Γ).toD.bind fun x Γ => match x with
    | .int i => .ok (.d (.int (-i))) Γ
    | _ => .bad
  | .and a b, Γ => (evE X a Γ).toD.bind fun x Γ => match x with
    | .bool true => evE X b Γ
    | .bool false => .ok (.d (.bool false)) Γ
    | _ => .bad
  | .or a b, Γ => (evE X a Γ).toD.bind fun x Γ => match x with
    | .bool true => .ok (.d (.bool true)) Γ
    | .bool false => evE X b Γ
    | _ => .bad
  | .cmp op a b, Γ => (opB a Γ (evE X a Γ)).bind fun p Γ => (opB b Γ (evE X b Γ)).bind fun q Γ => (rdB p Γ).bind fun x Γ => (rdB q Γ).bind fun y Γ =>
    (optR (cop op x y) Γ).bind fun r Γ => .ok (.d (.bool r)) Γ
  | .chain op op' a b c, Γ => (evE X a Γ).toD.bind fun x Γ => (evE X b Γ).toD.bind fun y Γ => (optR (cop op x y) Γ).bind fun r Γ => match r with
    | false => .ok (.d (.bool false)) Γ
    | true => (evE X c Γ).toD.bind fun z Γ => (optR (cop op' y z) Γ).bind fun r Γ => .ok (.d (.bool r)) Γ
  | .ite c a b, Γ => (evE X c Γ).toB.bind fun t Γ => match t with
    | true => evE X a Γ
    | false => evE X b Γ
  | .tup es, Γ => (evDs X es Γ).bind fun xs Γ => .ok (.d (.tuple xs)) Γ
  | .lst es, Γ => (evDs X es Γ).bind fun xs Γ => .ok (.l xs) Γ
  | .lls es, Γ => (evLs X es Γ).bind fun xss Γ => .ok (.ll xss) Γ
  | .dct es, Γ => (evDs X es Γ).bind fun xs Γ => (optR (pairUp xs) Γ).bind fun ps Γ => match keysOk ps with
    | true => .ok (.k (putAll [] ps)) Γ
    | false => .bad
  | .lc own t it c e, Γ => (evI X it Γ).bind fun xs Γ1 =>
    match lcLoop own t (fun Γ => (evE X c Γ).toB) (fun Γ => (evE X e Γ).toD) xs Γ1 with
    | .ok ys Γ2 => .ok (.l ys) (restore Γ1 Γ2 own)
    | _ => .bad
  | .idx a i, Γ => (opB a Γ (evE X a Γ)).bind fun p Γ => (evE X i Γ).toD.bind fun j Γ => (rdB p Γ).bind fun x Γ => (optR (idxD x j) Γ).bind fun y Γ => .ok (.d y) Γ
  | .slh a hi, Γ => (opB a Γ (evE X a Γ)).bind fun p Γ => (evE X hi Γ).toD.bind fun h Γ => (optR (asInt h) Γ).bind fun h Γ => (rdB p Γ).bind fun x Γ => optR (slD x none (some h)) Γ
  | .sll a lo, Γ => (opB a Γ (evE X a Γ)).bind fun p Γ => (evE X lo Γ).toD.bind fun l Γ => (optR (asInt l) Γ).bind fun l Γ => (rdB p Γ).bind fun x Γ => optR (slD x (some l) none) Γ
  | .slb a lo hi, Γ => (opB a Γ (evE X a Γ)).bind fun p Γ => (evE X lo Γ).toD.bind fun l Γ => (optR (asInt l) Γ).bind fun l Γ => (evE X hi Γ).toD.bind fun h Γ => (optR (asInt h) Γ).bind fun h Γ =>
    (rdB p Γ).bind fun x Γ => optR (slD x (some l) (some h)) Γ
  | .scut i n, Γ => match Γ[i]? with
    | some (some (.s ns)) => .ok (.l ((cut ns none (some n)).map .int)) Γ
    | _ => .bad
  | .rev a, Γ => (opB a Γ (evE X a Γ)).bind fun p Γ => (rdB p Γ).bind fun x Γ => optR (revD x) Γ
  | .call f args, Γ => (evAs X (X.io f) args Γ).bind fun os Γ => match X.cf f os with
    | .ok v outs => .ok v (takeBack (X.io f) args outs Γ)
    | .exc c fs => .exc c fs Γ
    | .bad => .bad
  | .blt b a, Γ => (opB a Γ (evE X a Γ)).bind fun p Γ => (rdB p Γ).bind fun x Γ => optR (MI.blt b [x]) Γ
  | .blts b args, Γ => (evDs X args Γ).bind fun xs Γ => optR (MI.blt b xs) Γ
  | .mth m a args, Γ => (opB a Γ (evE X a Γ)).bind fun p Γ1 => match m.on (kdB p Γ1) with
    | false => .bad
    | true => (evDs X args Γ1).bind fun xs Γ => (rdB p Γ).bind fun x Γ => match decide (kdOf x = kdB p Γ1) with
      | true => optR (MI.mth m x xs) Γ
      | false => .bad
  | .pop i, Γ => (optR (popEnd (slot Γ i)) Γ).bind fun p Γ => .ok (.d p.1) (Γ.set i (some (.l p.2)))
  | .popat i e, Γ => match isL (slot Γ i) with
    | false => .bad
    | true => (evE X e Γ).toD.bind fun j Γ => (optR (popAt (slot Γ i) j) Γ).bind fun p Γ => .ok (.d p.1) (Γ.set i (some (.l p.2)))
  | .att i f, Γ => match Γ[i]? with
    | some (some (.x c fs)) => match fs.lookup f with
      | some v => .ok (.d v) Γ
      | none => .bad
    | _ => .bad
  | .isi a ty, Γ => (opB a Γ (evE X a Γ)).bind fun p Γ => (rdB p Γ).bind fun x Γ => (optR (isTy ty x) Γ).bind fun r Γ => .ok (.d (.bool r)) Γ
  | .isx i cs, Γ => match Γ[i]? with
    | some (some (.x c _)) => .ok (.d (.bool (cs.any fun c' => c.sub c'))) Γ
    | _ => .bad
  | .llnil i, Γ => match slot Γ i with
    | some (.ll xss) => if SeqAt.shaped (.list (xss.map .list)) then .ok (.d (.bool xss.isEmpty)) Γ else .bad
    | _ => .bad
def evDs (X : Ctx) : Es → Env → R (List D)
  | .nil, Γ => .ok [] Γ
  | .cons e es, Γ => (evE X e Γ).toD.bind fun x Γ => (evDs X es Γ).bind fun xs Γ => .ok (x :: xs) Γ
def evLs (X : Ctx) : Es → Env → R (List (List D))
  | .nil, Γ => .ok [] Γ
  | .cons e es, Γ => (evE X e Γ).bind fun o Γ => match o with
    | .l ys => (evLs X es Γ).bind fun xs Γ => .ok (ys :: xs) Γ
    | _ => .bad
def evAs (X : Ctx) (io : List Bool) : Es → Env → R (List O)
  | .nil, Γ => .ok [] Γ
  | .cons e es, Γ => match io.headD false, giveS e Γ with
    | true, some i => (evAs X io.tail es Γ).bind fun os Γ => gvO (slot Γ i) i os Γ
    | _, _ => (evE X e Γ).bind fun o Γ => (pass1 o Γ).bind fun o Γ => (evAs X io.tail es Γ).bind fun os Γ => .ok (o :: os) Γ
def evI (X : Ctx) : I → Env → R (List D)
  | .seq e, Γ => (evE X e Γ).toD.bind fun x Γ => optR (items x) Γ
  | .chars e, Γ => (evE X e Γ).toD.bind fun x Γ => match x with
    | .str z => .ok (z.cps.toList.map fun c => .str ⟨#[c]⟩) Γ
    | _ => .bad
  | .keys e, Γ => (evE X e Γ).toD.bind fun x Γ => match x with
    | .dict kvs => .ok (kvs.map (·.1)) Γ
    | _ => .bad
  | .rng1 a, Γ => (evE X a Γ).toD.bind fun x Γ => optR (rngD [x]) Γ
  | .rng2 a b, Γ => (evE X a Γ).toD.bind fun x Γ => (evE X b Γ).toD.bind fun y Γ => optR (rngD [x, y]) Γ
  | .rng3 a b c, Γ => (evE X a Γ).toD.bind fun x Γ => (evE X b Γ).toD.bind fun y Γ => (evE X c Γ).toD.bind fun z Γ => optR (rngD [x, y, z]) Γ
  | .enum e, Γ => (evE X e Γ).toD.bind fun x Γ => match items x with
    | some xs => .ok (xs.zipIdx.map fun p => .tuple [.int p.2, p.1]) Γ
    | none => .bad
  | .zip a b, Γ => (evE X a Γ).toD.bind fun x Γ => (evE X b Γ).toD.bind fun y Γ => match x, y with
    | .list xs, .list ys => .ok ((xs.zip ys).map fun p => .tuple [p.1, p.2]) Γ
    | .tuple xs, .tuple ys => .ok ((xs.zip ys).map fun p => .tuple [p.1, p.2]) Γ
    | _, _ => .bad
  | .items e, Γ => (evE X e Γ).toD.bind fun x Γ => match x with
    | .dict kvs => .ok (kvs.map fun kv => .tuple [kv.1, kv.2]) Γ
    | _ => .bad
end

/-- as data, as a test -/
abbrev evD (X : Ctx) (e : E) (Γ : Env) : R D := (evE X e Γ).toD
abbrev evT (X : Ctx) (e : E) (Γ : Env) : R Bool := (evE X e Γ).toB

/-! ### statements -/
inductive SR where
  | nx (Γ : Env) | rt (o : O) (Γ : Env) | bk (Γ : Env) | ct (Γ : Env)
  | exc (c : Cl) (fs : List (Str × D)) (Γ : Env)
  | bad
def R.st {α : Type} : R α → (α → Env → SR) → SR
  | .ok a Γ, f => f a Γ
  | .exc c fs Γ, _ => .exc c fs Γ
  | .bad, _ => .bad
@[simp] theorem R.st_ok {α : Type} (a : α) (Γ : Env) (f : α → Env → SR) : (R.ok a Γ).st f = f a Γ := rfl
@[simp] theorem R.st_exc {α : Type} (c : Cl) (fs : List (Str × D)) (Γ : Env) (f : α → Env → SR) : (R.exc c fs Γ : R α).st f = .exc c fs Γ := rfl
@[simp] theorem R.st_bad {α : Type} (f : α → Env → SR) : (R.bad : R α).st f = .bad := rfl
def SR.seq : SR → (Env → SR) → SR
  | .nx Γ, f => f Γ
  | r, _ => r
def optS (o : Option Env) : SR := match o with
  | some Γ => .nx Γ
  | none => .bad
/-- the turns of a for -/
def forLoop (t : T) (b : Env → SR) : List D → Env → SR
  | [], Γ => .nx Γ
  | x :: xs, Γ => match asgT t x Γ with
    | none => .bad
    | some Γ1 => match b Γ1 with
      | .nx Γ2 => forLoop t b xs Γ2
      | .ct Γ2 => forLoop t b xs Γ2
      | .bk Γ2 => .nx Γ2
      | r => r
def whlLoop (c : Env → R Bool) (b : Env → SR) : Nat → Env → SR
  | 0, _ => .bad
  | n + 1, Γ => (c Γ).st fun t Γ => match t with
    | false => .nx Γ
    | true => match b Γ with
      | .nx Γ2 => whlLoop c b n Γ2
      | .ct Γ2 => whlLoop c b n Γ2
      | .bk Γ2 => .nx Γ2
      | r => r
def setIt (o : Option O) (k v : D) : Option O := match o with
  | some (.k kvs) => if kindOk kvs k && decide (kvs.length < lim) then some (.k (kvPut kvs k v)) else none
  | some (.l xs) => match k with
    | .int i => (nix xs.length i).map fun j => .l (xs.set j v)
    | _ => none
  | _ => none
def appIt : Option O → D → Option O
  | some (.l xs), x => if xs.length < lim then some (.l (xs ++ [x])) else none
  | _, _ => none
def extIt : Option O → D → Option O
  | some (.l xs), .list ys => if xs.length + ys.length ≤ lim then some (.l (xs ++ ys)) else none
  | some (.l xs), .tuple ys => if xs.length + ys.length ≤ lim then some (.l (xs ++ ys)) else none
  | _, _ => none
def insIt : Option O → D → D → Option O
  | some (.l xs), .int j, x => if decide (0 ≤ j) && decide (j ≤ xs.length) && decide (xs.length < lim) then some (.l (xs.insertIdx j.toNat x)) else none
  | _, _, _ => none
/-- an own list that stands in an own list grows -/
def app2It : Option O → D → Option O → Option O
  | some (.ll xss), .int j, some (.d x) => (nix xss.length j).bind fun n => xss[n]?.bind fun ys => if ys.length < lim then some (.ll (xss.set n (ys ++ [x]))) else none
  | _, _, _ => none
def applIt : Option O → O → Option O
  | some (.ll xss), .l ys => if xss.length < lim then some (.ll (xss ++ [ys])) else none
  | _, _ => none
def putSlot (Γ : Env) (i : Nat) (o : Option O) : SR := match o with
  | some o => .nx (Γ.set i (some o))
  | none => .bad

/-- what a raised refusal holds -/
def raiseC (c : Cl) (xs : List D) (Γ : Env) : SR := match c, xs with
  | .noStep, [a] => .exc .noStep [("hand", a)] Γ
  | .noPaper, [a, b] => .exc .noPaper [("at", b), ("word", a)] Γ
  | .noStand, [a, b] => .exc .noStand [("at", b), ("word", a)] Γ
  | .tooMany, [a] => .exc .tooMany [("word", a)] Γ
  | .noType, [a] => .exc .noType [("type_here", a)] Γ
  | _, _ => .bad
/-! what stands in an except clause: of the refusal of class c with the fields fs -/
def hAtom (fs : List (Str × D)) : E → Option D
  | .cst x => some x
  | .att _ f => fs.lookup f
  | _ => none
def hAtoms (fs : List (Str × D)) : Es → Option (List D)
  | .nil => some []
  | .cons e es => match hAtom fs e, hAtoms fs es with
    | some x, some xs => some (x :: xs)
    | _, _ => none
def hE (fs : List (Str × D)) : E → Option D
  | .tup es => (hAtoms fs es).map .tuple
  | e => hAtom fs e
def hT (c : Cl) : E → Option Bool
  | .isx _ cs => some (cs.any fun d => c.sub d)
  | .not a => match hT c a with
    | some b => some (!b)
    | none => none
  | .and a b => match hT c a with
    | some true => hT c b
    | some false => some false
    | none => none
  | _ => none
mutual
def hS (c : Cl) (fs : List (Str × D)) : S → Env → SR
  | .asg i e, Γ => match hE fs e with
    | some x => .nx (Γ.set i (some (.d x)))
    | none => .bad
  | .ret e, Γ => match hE fs e with
    | some x => .rt (.d x) Γ
    | none => .bad
  | .ife t a b, Γ => match hT c t with
    | some true => hSs c fs a Γ
    | some false => hSs c fs b Γ
    | none => .bad
  | .retn, Γ => .rt (.d .none) Γ
  | .pass, Γ => .nx Γ
  | _, _ => .bad
def hSs (c : Cl) (fs : List (Str × D)) : Ss → Env → SR
  | .nil, Γ => .nx Γ
  | .cons s ss, Γ => (hS c fs s Γ).seq (hSs c fs ss)
end
/-- the clause's name goes -/
def dropE (i : Nat) : SR → SR
  | .nx Γ => .nx (Γ.set i none)
  | .rt o Γ => .rt o Γ
  | _ => .bad
/-- try .. except c (as n): h -/
def tryE (c : Cl) (n : Option Nat) (h : Ss) : SR → SR
  | .exc c' fs Γ => if c'.sub c then (match n with
      | none => hSs c' fs h Γ
      | some i => match slot Γ i with
        | none => if i < Γ.length then dropE i (hSs c' fs h Γ) else .bad
        | some _ => .bad)
    else .exc c' fs Γ
  | r => r
mutual
def evS (X : Ctx) : S → Env → SR
  | .expr e, Γ => (evE X e Γ).st fun _ Γ => .nx Γ
  | .asg i e, Γ => (evE X e Γ).st fun o Γ => .nx (Γ.set i (some o))
  | .tasg is e, Γ => (evD X e Γ).st fun x Γ => optS (asgT (.tp is) x Γ)
  | .par is es, Γ => (evDs X es Γ).st fun xs Γ => optS (setAll is xs Γ)
  | .set i k v, Γ => (evD X v Γ).st fun y Γ => match (slot Γ i).isSome with
    | false => .bad
    | true => (evD X k Γ).st fun x Γ => putSlot Γ i (setIt (slot Γ i) x y)
  | .app i e, Γ => match isL (slot Γ i) with
    | false => .bad
    | true => (evD X e Γ).st fun x Γ => putSlot Γ i (appIt (slot Γ i) x)
  | .appl i e, Γ => match isLL (slot Γ i) with
    | false => .bad
    | true => (evE X e Γ).st fun o Γ => putSlot Γ i (applIt (slot Γ i) o)
  | .ext i e, Γ => match isL (slot Γ i) with
    | false => .bad
    | true => (evD X e Γ).st fun x Γ => putSlot Γ i (extIt (slot Γ i) x)
  | .app2 i j e, Γ => match isLL (slot Γ i) with
    | false => .bad
    | true => (evD X j Γ).st fun j Γ => putSlot Γ i (app2It (slot Γ i) j (match e with
      | .var h => slot Γ h
      | _ => none))
  | .ins i j e, Γ => match isL (slot Γ i) with
    | false => .bad
    | true => (evD X j Γ).st fun j Γ => (evD X e Γ).st fun x Γ => putSlot Γ i (insIt (slot Γ i) j x)
  | .clr i, Γ => match slot Γ i with
    | some (.l _) => .nx (Γ.set i (some (.l [])))
    | some (.k _) => .nx (Γ.set i (some (.k [])))
    | _ => .bad
  | .revs i, Γ => match slot Γ i with
    | some (.l xs) => .nx (Γ.set i (some (.l xs.reverse)))
    | _ => .bad
  | .upd i e, Γ => (evD X e Γ).st fun x Γ => match slot Γ i, x with
    | some (.k kvs), .dict more => if keysOk (kvs ++ more) then .nx (Γ.set i (some (.k (putAll kvs more)))) else .bad
    | _, _ => .bad
  | .ife c t e, Γ => (evT X c Γ).st fun b Γ => match b with
    | true => evSs X t Γ
    | false => evSs X e Γ
  | .for t it b, Γ => (evI X it Γ).st fun xs Γ => forLoop t (evSs X b) xs Γ
  | .whl c b, Γ => whlLoop (evT X c) (evSs X b) X.fu Γ
  | .ret e, Γ => (evE X e Γ).st fun o Γ => .rt o Γ
  | .retv i, Γ => match slot Γ i with
    | some o => .rt o (Γ.set i none)
    | none => .bad
  | .retn, Γ => .rt (.d .none) Γ
  | .pass, Γ => .nx Γ
  | .brk, Γ => .bk Γ
  | .cont, Γ => .ct Γ
  | .dead, _ => .bad
  | .raise c es, Γ => (evDs X es Γ).st (raiseC c)
  | .try b c n h, Γ => tryE c n h (evSs X b Γ)
def evSs (X : Ctx) : Ss → Env → SR
  | .nil, Γ => .nx Γ
  | .cons s ss, Γ => (evS X s Γ).seq (evSs X ss)
end

/-- a def's end -/
def fin (np : Nat) : SR → CR
  | .nx Γ => .ok (.d .none) (Γ.take np)
  | .rt o Γ => .ok o (Γ.take np)
  | .exc c fs _ => .exc c fs
  | _ => .bad
/-- a table by numbers -/
structure Tab (α : Type) where
  l : List (Nat × α)
def lookN {α : Type} : List (Nat × α) → Nat → Option α
  | [], _ => none
  | (j, a) :: r, i => match Nat.beq j i with
    | true => some a
    | false => lookN r i
instance {α : Type} : GetElem? (Tab α) Nat α (fun t i => (lookN t.l i).isSome = true) where
  getElem t i h := (lookN t.l i).get h
  getElem? t i := lookN t.l i
theorem lookN_mem {α : Type} : ∀ {l : List (Nat × α)} {i : Nat} {a : α}, lookN l i = some a → (i, a) ∈ l
  | (j, b) :: r, i, a, h => by
    cases e : Nat.beq j i with
    | true =>
      have h : (match Nat.beq j i with | true => some b | false => lookN r i) = some a := h
      rw [e] at h
      cases h
      rw [Nat.eq_of_beq_eq_true e]
      exact List.mem_cons_self
    | false =>
      have h : (match Nat.beq j i with | true => some b | false => lookN r i) = some a := h
      rw [e] at h
      exact List.mem_cons_of_mem _ (lookN_mem h)
theorem Tab.mem {α : Type} {t : Tab α} {i : Nat} {a : α} (h : t[i]? = some a) : (i, a) ∈ t.l := lookN_mem h
theorem all_nil {α : Type} {p : α → Prop} : ∀ x ∈ ([] : List α), p x := fun _ h => absurd h List.not_mem_nil
theorem all_cons {α : Type} {p : α → Prop} {a : α} {l : List α} (h : p a) (h2 : ∀ x ∈ l, p x) : ∀ x ∈ a :: l, p x := List.forall_mem_cons.mpr ⟨h, h2⟩
structure Prog where
  fns : Tab Fn
  gls : Tab D
def Prog.ctx (P : Prog) (fu : Nat) (cf : Nat → List O → CR) : Ctx := ⟨cf, fun g => P.gls[g]?, fun f => match P.fns[f]? with | some fn => fn.io | none => [], fu⟩
def runFn (X : Ctx) (fn : Fn) (args : List O) : CR :=
  if args.length = fn.np then fin fn.np (evSs X fn.body (args.map some ++ List.replicate (fn.ns - fn.np) none)) else .bad
def callF (P : Prog) (fu : Nat) : Nat → Nat → List O → CR
  | 0, _, _ => .bad
  | n + 1, f, args => match P.fns[f]? with
    | none => .bad
    | some fn => runFn (P.ctx fu (callF P fu n)) fn args
end MI

set_option maxRecDepth 100000
/-! MI1: how the mini interpreter's values stand in the hand layer's heap; steps; readings. -/
namespace MI
open L2 PySem PyProof.Rows PySem.Spec
abbrev St := L2.St
abbrev V := L2.V

def kD : Key → D
  | .inl i => .int i
  | .inr x => .str x

/-- a tuple's object as it stands: known to have no dict -/
def NT (u : HO) (vs : List V) : Prop := ∃ o : Obj, u = .frz o (.tup vs) ∧ o.cls = .type "tuple" ∧ o.dict = none
def SqN (K : PySem.W.Frag) (F : Hp) (a : Addr) (vs : List V) : Prop :=
  (∃ u, F a = some u ∧ NT u vs) ∨ ∃ (o : Obj) (its : Array Value) (n : Nat), K.lookup a = some o ∧ o.cls = .type "tuple" ∧ o.dict = none ∧ o.data = .seq its n ∧ its.size ≤ sizeLine ∧ Vals vs its.toList
theorem SqN.sq {K : PySem.W.Frag} {F : Hp} {a : Addr} {vs : List V} (h : SqN K F a vs) : SqT K F a vs := by
  rcases h with ⟨u, h, o, rfl, _⟩ | ⟨o, its, n, h1, h2, _, h3, h4, h5⟩
  · exact .inl (.inr ⟨o, h⟩)
  · exact .inr ⟨o, its, n, h1, h2, h3, h4, h5⟩
theorem SqN.at {K : PySem.W.Frag} {F : Hp} {a : Addr} {vs : List V} {u : HO} (h : F a = some u) (n : NT u vs) : SqN K F a vs := .inl ⟨u, h, n⟩
/-- it is a tuple without a dict -/
theorem SqN.obj {X : Cx} {pn : List (Addr × Obj)} {σ : St} {H : Hp} {s : Shared} {a : Addr} {vs : List V} (I : Inv X pn σ H s) (h : SqN X.K H a vs) : ∃ o, s.heap.get? a = some o ∧ o.cls = .type "tuple" ∧ o.dict = none := by
  rcases h with ⟨u, h, o, rfl, h1, h2⟩ | ⟨o, its, n, h1, h2, h3, _⟩
  · exact ⟨o, (I.hok a _ h).1, h1, h2⟩
  · exact ⟨o, I.kIn a o h1, h2, h3⟩
/-- a new tuple laid -/
theorem laidN {X : Cx} {pn : List (Addr × Obj)} {σ : St} {H : Hp} {s : Shared} {vs : List V} {its : List Value} (I : Inv X pn σ H s) (r : Vals vs its) (z : vs.length ≤ sizeLine) :
    ∃ u, NT u vs ∧ Inv X pn σ (upd H s.heap.objs.size u) { s with heap := s.heap.push { cls := .type "tuple", data := .seq its.toArray } } :=
  ⟨.frz { cls := .type "tuple", data := .seq its.toArray } (.tup vs), ⟨_, rfl, rfl, rfl⟩, I.laid (t' := s.toks) (fun b ob q => Heap.get?_push_of_some _ q) (Nat.le_refl _)
    ⟨Heap.get?_push_size _ rfl, z, its, r, IsTup.new _ _⟩⟩

mutual
/-- v reads as x, by what is frozen -/
inductive RD (K : PySem.W.Frag) (F : Hp) : V → D → Prop
  | non : RD K F .non .none
  | bl (b : Bool) : RD K F (.bl b) (.bool b)
  | int (i : Int) : RD K F (.int i) (.int i)
  | str (x : Str) : RD K F (.str x) (.str x)
  | lst {a : Addr} {vs : List V} {ds : List D} : F a = some (.lst vs) → vs.length ≤ sizeLine → RDs K F vs ds → RD K F (.ref a) (.list ds)
  | tup {a : Addr} {vs : List V} {ds : List D} : SqN K F a vs → vs.length ≤ sizeLine → RDs K F vs ds → RD K F (.ref a) (.tuple ds)
  | dct {a : Addr} {kvs : List (Key × V)} {ds : List (D × D)} : F a = some (.dK kvs) → kvs.length ≤ sizeLine → RKs K F kvs ds → RD K F (.ref a) (.dict ds)
inductive RDs (K : PySem.W.Frag) (F : Hp) : List V → List D → Prop
  | nil : RDs K F [] []
  | cons {v : V} {vs : List V} {d : D} {ds : List D} : RD K F v d → RDs K F vs ds → RDs K F (v :: vs) (d :: ds)
inductive RKs (K : PySem.W.Frag) (F : Hp) : List (Key × V) → List (D × D) → Prop
  | nil : RKs K F [] []
  | cons {k : Key} {v : V} {kvs : List (Key × V)} {x : D} {d : D} {ds : List (D × D)} : x = kD k → RD K F v d → RKs K F kvs ds → RKs K F ((k, v) :: kvs) ((x, d) :: ds)
end

/-- all that stands in F stands in F' -/
def Sub (F F' : Hp) : Prop := ∀ a u, F a = some u → F' a = some u
theorem Sub.refl (F : Hp) : Sub F F := fun _ _ h => h
theorem Sub.trans {F F' F2 : Hp} (a : Sub F F') (b : Sub F' F2) : Sub F F2 := fun c u h => b c u (a c u h)
theorem Sub.sqT {K : PySem.W.Frag} {F F' : Hp} {a : Addr} {vs : List V} (s : Sub F F') (h : SqT K F a vs) : SqT K F' a vs := by
  obtain (h | ⟨o, h⟩) | h := h
  · exact .inl (.inl (s _ _ h))
  · exact .inl (.inr ⟨o, s _ _ h⟩)
  · exact .inr h
theorem Sub.sqN {K : PySem.W.Frag} {F F' : Hp} {a : Addr} {vs : List V} (s : Sub F F') (h : SqN K F a vs) : SqN K F' a vs := by
  rcases h with ⟨u, h, n⟩ | h
  · exact .inl ⟨u, s _ _ h, n⟩
  · exact .inr h
theorem Sub.sqL {K : PySem.W.Frag} {F F' : Hp} {a : Addr} {vs : List V} (s : Sub F F') (h : SqL K F a vs) : SqL K F' a vs := by
  obtain (h | ⟨o, h⟩) | h := h
  · exact .inl (.inl (s _ _ h))
  · exact .inl (.inr ⟨o, s _ _ h⟩)
  · exact .inr h

section
variable {K : PySem.W.Frag} {F F' H H' : Hp}
mutual
theorem RD.mono (s : Sub F F') : ∀ {v : V} {x : D}, RD K F v x → RD K F' v x
  | _, _, .non => .non
  | _, _, .bl b => .bl b
  | _, _, .int i => .int i
  | _, _, .str x => .str x
  | _, _, .lst h l r => .lst (s _ _ h) l (RDs.mono s r)
  | _, _, .tup h l r => .tup (s.sqN h) l (RDs.mono s r)
  | _, _, .dct h l r => .dct (s _ _ h) l (RKs.mono s r)
theorem RDs.mono (s : Sub F F') : ∀ {vs : List V} {xs : List D}, RDs K F vs xs → RDs K F' vs xs
  | _, _, .nil => .nil
  | _, _, .cons h r => .cons (RD.mono s h) (RDs.mono s r)
theorem RKs.mono (s : Sub F F') : ∀ {vs : List (Key × V)} {xs : List (D × D)}, RKs K F vs xs → RKs K F' vs xs
  | _, _, .nil => .nil
  | _, _, .cons e h r => .cons e (RD.mono s h) (RKs.mono s r)
end
theorem RDs.length : ∀ {vs : List V} {xs : List D}, RDs K F vs xs → vs.length = xs.length
  | _, _, .nil => rfl
  | _, _, .cons _ r => by simp [RDs.length r]
theorem RKs.length : ∀ {vs : List (Key × V)} {xs : List (D × D)}, RKs K F vs xs → vs.length = xs.length
  | _, _, .nil => rfl
  | _, _, .cons _ _ r => by simp [RKs.length r]
theorem RDs.append : ∀ {vs ws : List V} {xs ys : List D}, RDs K F vs xs → RDs K F ws ys → RDs K F (vs ++ ws) (xs ++ ys)
  | _, _, _, _, .nil, s => s
  | _, _, _, _, .cons h r, s => .cons h (RDs.append r s)
theorem RDs.get : ∀ {vs : List V} {xs : List D} {i : Nat} {x : D}, RDs K F vs xs → xs[i]? = some x → ∃ v, vs[i]? = some v ∧ RD K F v x
  | _, _, _, _, .nil, e => False.elim (by simp at e)
  | _, _, 0, _, .cons h _, e => by simp at e; subst e; exact ⟨_, rfl, h⟩
  | _, _, i + 1, x, .cons _ r, e => by
    obtain ⟨v, e1, h⟩ := RDs.get (i := i) r (by simpa using e)
    exact ⟨v, by simpa using e1, h⟩
theorem RDs.getV : ∀ {vs : List V} {xs : List D} {i : Nat} {v : V}, RDs K F vs xs → vs[i]? = some v → ∃ x, xs[i]? = some x ∧ RD K F v x
  | _, _, _, _, .nil, e => False.elim (by simp at e)
  | _, _, 0, _, .cons h _, e => by simp at e; subst e; exact ⟨_, rfl, h⟩
  | _, _, i + 1, x, .cons _ r, e => by
    obtain ⟨v, e1, h⟩ := RDs.getV (i := i) r (by simpa using e)
    exact ⟨v, by simpa using e1, h⟩
theorem RDs.take : ∀ {vs : List V} {xs : List D} (n : Nat), RDs K F vs xs → RDs K F (vs.take n) (xs.take n)
  | _, _, 0, _ => .nil
  | _, _, _ + 1, .nil => .nil
  | _, _, n + 1, .cons h r => .cons h (RDs.take n r)
theorem RDs.drop : ∀ {vs : List V} {xs : List D} (n : Nat), RDs K F vs xs → RDs K F (vs.drop n) (xs.drop n)
  | _, _, 0, r => r
  | _, _, _ + 1, .nil => .nil
  | _, _, n + 1, .cons _ r => RDs.drop n r
theorem RDs.set {v : V} {x : D} (h : RD K F v x) : ∀ {vs : List V} {xs : List D} (n : Nat), RDs K F vs xs → RDs K F (vs.set n v) (xs.set n x)
  | _, _, _, .nil => .nil
  | _, _, 0, .cons _ r => .cons h r
  | _, _, n + 1, .cons q r => .cons q (RDs.set h n r)
theorem RDs.eraseIdx : ∀ {vs : List V} {xs : List D} (n : Nat), RDs K F vs xs → RDs K F (vs.eraseIdx n) (xs.eraseIdx n)
  | _, _, _, .nil => .nil
  | _, _, 0, .cons _ r => r
  | _, _, n + 1, .cons q r => .cons q (RDs.eraseIdx n r)
theorem RDs.reverse : ∀ {vs : List V} {xs : List D}, RDs K F vs xs → RDs K F vs.reverse xs.reverse
  | _, _, .nil => .nil
  | _, _, .cons h r => by
    rw [List.reverse_cons]
    rw [List.reverse_cons]
    exact (RDs.reverse r).append (.cons h .nil)
theorem RDs.dropLast {vs : List V} {xs : List D} (h : RDs K F vs xs) : RDs K F vs.dropLast xs.dropLast := by
  rw [List.dropLast_eq_take, List.dropLast_eq_take, h.length]
  exact h.take _
theorem RDs.rep {vs : List V} {xs : List D} (h : RDs K F vs xs) : ∀ n : Nat, RDs K F (List.replicate n vs).flatten (List.replicate n xs).flatten
  | 0 => .nil
  | n + 1 => by
    rw [List.replicate_succ, List.replicate_succ]
    rw [List.flatten_cons, List.flatten_cons]
    exact h.append (RDs.rep h n)
theorem RDs.intsOf : ∀ {vs : List V} {xs : List D} {ns : List Int}, RDs K F vs xs → intsD xs = some ns → vs = ns.map V.int ∧ xs = ns.map PyData.int
  | _, _, _, .nil, e => by cases e; exact ⟨rfl, rfl⟩
  | _, _, ns, .cons h r, e => by
    cases h <;> simp only [intsD] at e <;> try cases e
    rename_i i
    cases e2 : intsD _ with
    | none => rw [e2] at e; cases e
    | some ms =>
      rw [e2] at e
      cases e
      obtain ⟨e3, e4⟩ := RDs.intsOf r e2
      exact ⟨by rw [e3]; rfl, by rw [e4]; rfl⟩
theorem RDs.ofInts : ∀ ns : List Int, RDs K F (ns.map V.int) (ns.map PyData.int)
  | [] => .nil
  | n :: ns => .cons (.int n) (RDs.ofInts ns)
theorem RDs.boolsOf : ∀ {vs : List V} {xs : List D} {bs : List Bool}, RDs K F vs xs → bools xs = some bs → vs = bs.map V.bl
  | _, _, _, .nil, e => by cases e; rfl
  | _, _, ns, .cons h r, e => by
    cases h <;> simp only [bools] at e <;> try cases e
    rename_i i
    cases e2 : bools _ with
    | none => rw [e2] at e; cases e
    | some ms =>
      rw [e2] at e
      cases e
      rw [RDs.boolsOf r e2]; rfl
theorem RDs.strsOf : ∀ {vs : List V} {xs : List D} {bs : List Str}, RDs K F vs xs → strsD xs = some bs → vs = bs.map V.str
  | _, _, _, .nil, e => by cases e; rfl
  | _, _, ns, .cons h r, e => by
    cases h <;> simp only [strsD] at e <;> try cases e
    rename_i i
    cases e2 : strsD _ with
    | none => rw [e2] at e; cases e
    | some ms =>
      rw [e2] at e
      cases e
      rw [RDs.strsOf r e2]; rfl
mutual
theorem RD.dp (s : Sub F H) : ∀ {v : V} {x : D}, RD K F v x → x.canLay0 = true → Dp K H v x
  | _, _, .non, _ => .non
  | _, _, .bl b, _ => .bl b
  | _, _, .int i, _ => .int i
  | _, _, .str x, _ => .str x
  | _, _, .lst h l r, c => .lst (.inl (.inl (s _ _ h))) (RDs.dp s r (by simpa [PyData.canLay0] using c))
  | _, _, .tup h l r, c => .tup (s.sqT h.sq) (RDs.dp s r (by simpa [PyData.canLay0] using c))
  | _, _, .dct h l r, c => by simp [PyData.canLay0] at c
theorem RDs.dp (s : Sub F H) : ∀ {vs : List V} {xs : List D}, RDs K F vs xs → PyData.canLayAll0 xs = true → DpAll K H vs xs
  | _, _, .nil, _ => .nil
  | _, _, .cons h r, c => by
    simp only [PyData.canLayAll0, Bool.and_eq_true] at c
    exact .cons (RD.dp s h c.1) (RDs.dp s r c.2)
end

/-- v reads as x at the moment: its own object may be one that somebody may change -/
inductive RV (K : PySem.W.Frag) (F H : Hp) : V → D → Prop
  | non : RV K F H .non .none
  | bl (b : Bool) : RV K F H (.bl b) (.bool b)
  | int (i : Int) : RV K F H (.int i) (.int i)
  | str (x : Str) : RV K F H (.str x) (.str x)
  | lst {a : Addr} {vs : List V} {ds : List D} : H a = some (.lst vs) → vs.length ≤ sizeLine → RDs K F vs ds → RV K F H (.ref a) (.list ds)
  | tup {a : Addr} {vs : List V} {ds : List D} : SqN K F a vs → vs.length ≤ sizeLine → RDs K F vs ds → RV K F H (.ref a) (.tuple ds)
  | dct {a : Addr} {kvs : List (Key × V)} {ds : List (D × D)} : H a = some (.dK kvs) → kvs.length ≤ sizeLine → RKs K F kvs ds → RV K F H (.ref a) (.dict ds)
theorem RD.rv (s : Sub F H) {v : V} {x : D} (h : RD K F v x) : RV K F H v x := by
  cases h with
  | non => exact .non
  | bl b => exact .bl b
  | int i => exact .int i
  | str x => exact .str x
  | lst h l r => exact .lst (s _ _ h) l r
  | tup h l r => exact .tup h l r
  | dct h l r => exact .dct (s _ _ h) l r
theorem RV.mono (s : Sub F F') {v : V} {x : D} (h : RV K F H v x) : RV K F' H v x := by
  cases h with
  | non => exact .non
  | bl b => exact .bl b
  | int i => exact .int i
  | str x => exact .str x
  | lst h l r => exact .lst h l (r.mono s)
  | tup h l r => exact .tup (s.sqN h) l (r.mono s)
  | dct h l r => exact .dct h l (r.mono s)
theorem RV.dp (s : Sub F H) {v : V} {x : D} (h : RV K F H v x) (c : x.canLay0 = true) : Dp K H v x := by
  cases h with
  | non => exact .non
  | bl b => exact .bl b
  | int i => exact .int i
  | str x => exact .str x
  | lst h l r => exact .lst (.inl (.inl h)) (RDs.dp s r (by simpa [PyData.canLay0] using c))
  | tup h l r => exact .tup (s.sqT h.sq) (RDs.dp s r (by simpa [PyData.canLay0] using c))
  | dct h l r => simp [PyData.canLay0] at c

/-- a list of own lists -/
inductive RLs (K : PySem.W.Frag) (F H : Hp) : List Addr → List (List D) → Prop
  | nil : RLs K F H [] []
  | cons {b : Addr} {bs : List Addr} {vs : List V} {xs : List D} {xss : List (List D)} : H b = some (.lst vs) → vs.length ≤ sizeLine → RDs K F vs xs → RLs K F H bs xss → RLs K F H (b :: bs) (xs :: xss)
/-- v is o, its own objects at fp -/
inductive RO (K : PySem.W.Frag) (F H : Hp) : V → O → List Addr → Prop
  | d {v : V} {x : D} : RD K F v x → RO K F H v (.d x) []
  | l {a : Addr} {vs : List V} {xs : List D} : H a = some (.lst vs) → vs.length ≤ sizeLine → RDs K F vs xs → RO K F H (.ref a) (.l xs) [a]
  | k {a : Addr} {kvs : List (Key × V)} {ds : List (D × D)} : H a = some (.dK kvs) → kvs.length ≤ sizeLine → RKs K F kvs ds → RO K F H (.ref a) (.k ds) [a]
  | ll {a : Addr} {bs : List Addr} {xss : List (List D)} : H a = some (.lst (bs.map V.ref)) → bs.length ≤ sizeLine → RLs K F H bs xss → RO K F H (.ref a) (.ll xss) (a :: bs)
  | s {a : Addr} {ns : List Int} : SqL K F a (ns.map V.int) → ns.length ≤ sizeLine → RO K F H (.ref a) (.s ns) []
theorem RLs.step (s : Sub F F') : ∀ {bs : List Addr} {xss : List (List D)}, RLs K F H bs xss → (∀ b ∈ bs, ∀ u, H b = some u → H' b = some u) → RLs K F' H' bs xss
  | _, _, .nil, _ => .nil
  | _, _, .cons h l r t, k => .cons (k _ (by simp) _ h) l (r.mono s) (RLs.step s t fun b hb => k b (by simp [hb]))
theorem RO.step (s : Sub F F') {v : V} {o : O} {fp : List Addr} (h : RO K F H v o fp) (k : ∀ b ∈ fp, ∀ u, H b = some u → H' b = some u) : RO K F' H' v o fp := by
  cases h with
  | d h => exact .d (h.mono s)
  | l h l r => exact .l (k _ (by simp) _ h) l (r.mono s)
  | k h l r => exact .k (k _ (by simp) _ h) l (r.mono s)
  | ll h l r => exact .ll (k _ (by simp) _ h) l (r.step s fun b hb => k b (by simp [hb]))
  | s h l => exact .s (s.sqL h) l
theorem RLs.there : ∀ {bs : List Addr} {xss : List (List D)}, RLs K F H bs xss → ∀ b ∈ bs, H b ≠ none
  | _, _, .nil, _, hb => by cases hb
  | _, _, .cons h _ _ t, b, hb => by
    obtain rfl | hb := List.mem_cons.mp hb
    · rw [h]; simp
    · exact RLs.there t b hb
theorem RO.there {v : V} {o : O} {fp : List Addr} (h : RO K F H v o fp) : ∀ b ∈ fp, H b ≠ none := by
  intro b hb
  cases h with
  | d h => cases hb
  | l h l r => simp at hb; subst hb; rw [h]; simp
  | k h l r => simp at hb; subst hb; rw [h]; simp
  | ll h l r =>
    obtain rfl | hb := List.mem_cons.mp hb
    · rw [h]; simp
    · exact r.there b hb
  | s h l => cases hb
end

section
variable {K : PySem.W.Frag} {F H : Hp} {v : V} {fp : List Addr}
theorem RO.inv_d {x : D} (h : RO K F H v (.d x) fp) : fp = [] ∧ RD K F v x := by
  cases h with
  | d h => exact ⟨rfl, h⟩
theorem RO.inv_l {xs : List D} (h : RO K F H v (.l xs) fp) : ∃ a vs, v = .ref a ∧ fp = [a] ∧ H a = some (.lst vs) ∧ vs.length ≤ sizeLine ∧ RDs K F vs xs := by
  cases h with
  | l h1 h2 h3 => exact ⟨_, _, rfl, rfl, h1, h2, h3⟩
theorem RO.inv_k {ds : List (D × D)} (h : RO K F H v (.k ds) fp) : ∃ a kvs, v = .ref a ∧ fp = [a] ∧ H a = some (.dK kvs) ∧ kvs.length ≤ sizeLine ∧ RKs K F kvs ds := by
  cases h with
  | k h1 h2 h3 => exact ⟨_, _, rfl, rfl, h1, h2, h3⟩
theorem RO.inv_ll {xss : List (List D)} (h : RO K F H v (.ll xss) fp) : ∃ a bs, v = .ref a ∧ fp = a :: bs ∧ H a = some (.lst (bs.map V.ref)) ∧ bs.length ≤ sizeLine ∧ RLs K F H bs xss := by
  cases h with
  | ll h1 h2 h3 => exact ⟨_, _, rfl, rfl, h1, h2, h3⟩
theorem RO.inv_s {ns : List Int} (h : RO K F H v (.s ns) fp) : ∃ a, v = .ref a ∧ fp = [] ∧ SqL K F a (ns.map V.int) ∧ ns.length ≤ sizeLine := by
  cases h with
  | s h l => exact ⟨_, rfl, rfl, h, l⟩
theorem RO.inv_x {c : Cl} {fs : List (Str × D)} (h : RO K F H v (.x c fs) fp) : False := by cases h
end
/-! ### the state's reading -/
structure Good (K : PySem.W.Frag) (F H : Hp) (σ : St) (Γ : Env) (fps : Nat → List Addr) : Prop where
  sub : Sub F H
  len : Γ.length = σ.length
  env : ∀ i o, Γ[i]? = some (some o) → ∃ v, σ[i]? = some (some v) ∧ RO K F H v o (fps i)
  nil : ∀ i, (∀ o, Γ[i]? ≠ some (some o)) → fps i = []
  own : ∀ i a, a ∈ fps i → F a = none ∧ H a ≠ none
  dis : ∀ i j a, a ∈ fps i → a ∈ fps j → i = j
  nd : ∀ i, (fps i).Nodup
/-- from one state to a later one -/
structure Step (F H : Hp) (fps : Nat → List Addr) (F' H' : Hp) (fps' : Nat → List Addr) : Prop where
  sub : Sub F F'
  keep : ∀ a u, H a = some u → (∀ i, a ∉ fps i) → H' a = some u
  frz : ∀ a u, F' a = some u → H a ≠ none → (∀ i, a ∉ fps i) → F a = some u
  own : ∀ i a, a ∈ fps' i → H a ≠ none → ∃ j, a ∈ fps j
theorem Step.refl {F H : Hp} {fps : Nat → List Addr} : Step F H fps F H fps := ⟨Sub.refl F, fun _ _ h _ => h, fun _ _ h _ _ => h, fun i a h _ => ⟨i, h⟩⟩
theorem Step.trans {F H F1 H1 F2 H2 : Hp} {fps fps1 fps2 : Nat → List Addr} (s : Step F H fps F1 H1 fps1) (t : Step F1 H1 fps1 F2 H2 fps2) : Step F H fps F2 H2 fps2 := by
  have out : ∀ a u, H a = some u → (∀ i, a ∉ fps i) → H1 a = some u ∧ ∀ i, a ∉ fps1 i := fun a u h n => ⟨s.keep a u h n, fun i hi => by
    obtain ⟨j, hj⟩ := s.own i a hi (by rw [h]; simp)
    exact n j hj⟩
  refine ⟨s.sub.trans t.sub, fun a u h n => ?_, fun a u h hn n => ?_, fun i a hi hn => ?_⟩
  · obtain ⟨h1, n1⟩ := out a u h n
    exact t.keep a u h1 n1
  · cases e : H a with
    | none => exact absurd e hn
    | some w =>
      obtain ⟨h1, n1⟩ := out a w e n
      exact s.frz a u (t.frz a u h (by rw [h1]; simp) n1) hn n
  · cases e : H a with
    | none => exact absurd e hn
    | some w =>
      apply Classical.byContradiction
      intro hx
      have n : ∀ j, a ∉ fps j := fun j hj => hx ⟨j, hj⟩
      obtain ⟨h1, n1⟩ := out a w e n
      obtain ⟨j, hj⟩ := t.own i a hi (by rw [h1]; simp)
      exact n1 j hj
/-- a value just made, not yet stored -/
structure Tmp (K : PySem.W.Frag) (F0 H0 : Hp) (fps0 : Nat → List Addr) (F H : Hp) (fps : Nat → List Addr) (v : V) (o : O) (fp : List Addr) : Prop where
  rep : RO K F H v o fp
  own : ∀ a ∈ fp, F a = none ∧ (∀ i, a ∉ fps i) ∧ (H0 a ≠ none → ∃ j, a ∈ fps0 j)
  nd : fp.Nodup
section
variable {K : PySem.W.Frag} {F0 H0 F H F' H' F1 H1 : Hp} {σ : St} {Γ : Env} {fps0 fps fps1 fps' : Nat → List Addr} {v : V} {o : O} {fp : List Addr}
theorem Tmp.data {x : D} (h : RD K F v x) : Tmp K F0 H0 fps0 F H fps v (.d x) [] := ⟨.d h, (fun _ h => by cases h), List.nodup_nil⟩
/-- held over a further step -/
theorem Tmp.held (t : Tmp K F0 H0 fps0 F H fps v o fp) (s : Step F H fps F' H' fps') : Tmp K F0 H0 fps0 F' H' fps' v o fp := by
  have th := t.rep.there
  refine ⟨t.rep.step s.sub fun b hb u hu => s.keep b u hu (t.own b hb).2.1, fun a ha => ⟨?_, fun i hi => ?_, (t.own a ha).2.2⟩, t.nd⟩
  · cases e : F' a with
    | none => rfl
    | some u =>
      have q := s.frz a u e (th a ha) (t.own a ha).2.1
      rw [(t.own a ha).1] at q
      cases q
  · obtain ⟨j, hj⟩ := s.own i a hi (th a ha)
    exact (t.own a ha).2.1 j hj
/-- seen from further back -/
theorem Tmp.back (s : Step F0 H0 fps0 F1 H1 fps1) (t : Tmp K F1 H1 fps1 F H fps v o fp) : Tmp K F0 H0 fps0 F H fps v o fp := by
  refine ⟨t.rep, fun a ha => ⟨(t.own a ha).1, (t.own a ha).2.1, fun hn => ?_⟩, t.nd⟩
  cases e : H0 a with
  | none => exact absurd e hn
  | some w =>
    apply Classical.byContradiction
    intro hx
    have n : ∀ j, a ∉ fps0 j := fun j hj => hx ⟨j, hj⟩
    obtain ⟨j, hj⟩ := (t.own a ha).2.2 (by rw [s.keep a w e n]; simp)
    obtain ⟨j', hj'⟩ := s.own j a hj hn
    exact n j' hj'
/-- a frozen heap with the objects at fp too -/
def frzH (F H : Hp) (fp : List Addr) : Hp := fun a => if a ∈ fp then H a else F a
theorem frz_sub (sub : Sub F H) : Sub F (frzH F H fp) := fun a u h => by
  unfold frzH
  split
  · exact sub a u h
  · exact h
theorem frz_in {a : Addr} (h : a ∈ fp) : frzH F H fp a = H a := by unfold frzH; rw [if_pos h]
theorem frz_out {a : Addr} (h : a ∉ fp) : frzH F H fp a = F a := by unfold frzH; rw [if_neg h]
theorem frz_le (sub : Sub F H) : Sub (frzH F H fp) H := fun a u h => by
  unfold frzH at h
  split at h
  · exact h
  · exact sub a u h
theorem RLs.frozen {G : Hp} (s : Sub F G) : ∀ {bs : List Addr} {xss : List (List D)}, RLs K F H bs xss → (∀ b ∈ bs, G b = H b) → RDs K G (bs.map V.ref) (xss.map PyData.list)
  | _, _, .nil, _ => .nil
  | _, _, .cons h l r t, k => .cons (.lst (by rw [k _ (by simp)]; exact h) l (r.mono s)) (RLs.frozen s t fun b hb => k b (by simp [hb]))
theorem RO.frozen (sub : Sub F H) {x : D} (h : RO K F H v o fp) (e : fz o = some x) : RD K (frzH F H fp) v x := by
  cases h with
  | d h => cases e; exact h.mono (frz_sub sub)
  | l h l r => cases e; exact .lst (by rw [frz_in (by simp)]; exact h) l (r.mono (frz_sub sub))
  | k h l r => cases e; exact .dct (by rw [frz_in (by simp)]; exact h) l (r.mono (frz_sub sub))
  | ll h l r => cases e; exact .lst (by rw [frz_in (by simp)]; exact h) (by simpa using l) (r.frozen (frz_sub sub) fun b hb => frz_in (by simp [hb]))
  | s h l => cases e
/-- objects that no slot has are frozen -/
theorem Good.freeze (G : Good K F H σ Γ fps) (n : ∀ a ∈ fp, ∀ i, a ∉ fps i) : Good K (frzH F H fp) H σ Γ fps :=
  ⟨frz_le G.sub, G.len, fun i o e => let ⟨v, e1, r⟩ := G.env i o e; ⟨v, e1, r.step (frz_sub G.sub) fun _ _ _ h => h⟩, G.nil,
    fun i a ha => ⟨by rw [frz_out fun hm => n a hm i ha]; exact (G.own i a ha).1, (G.own i a ha).2⟩, G.dis, G.nd⟩
theorem Step.freeze (s : Step F0 H0 fps0 F H fps) (sub : Sub F H) (n : ∀ a ∈ fp, H0 a ≠ none → ∃ j, a ∈ fps0 j) : Step F0 H0 fps0 (frzH F H fp) H fps :=
  ⟨s.sub.trans (frz_sub sub), s.keep, fun a u h hn hi => by
    by_cases hm : a ∈ fp
    · obtain ⟨j, hj⟩ := n a hm hn
      exact absurd hj (hi j)
    · rw [frz_out hm] at h
      exact s.frz a u h hn hi, s.own⟩
/-- a new frozen object -/
theorem Good.newF {p : Addr} {u : HO} (G : Good K F H σ Γ fps) (hp : H p = none) : Good K (upd F p u) (upd H p u) σ Γ fps := by
  have np : ∀ i, p ∉ fps i := fun i hi => (G.own i p hi).2 hp
  have fn : F p = none := by
    cases e : F p with
    | none => rfl
    | some w => rw [G.sub p w e] at hp; cases hp
  have s1 : Sub F (upd F p u) := fun a w h => by rw [upd_ne (ne_of_none h fn)]; exact h
  refine ⟨fun a w h => ?_, G.len, fun i o e => ?_, G.nil, fun i a ha => ?_, G.dis, G.nd⟩
  · by_cases e : a = p
    · subst e; rw [upd_same] at h ⊢; exact h
    · rw [upd_ne e] at h ⊢; exact G.sub a w h
  · obtain ⟨v, e1, r⟩ := G.env i o e
    exact ⟨v, e1, r.step s1 fun b hb w hw => by rw [upd_ne (ne_of_none hw hp)]; exact hw⟩
  · have e : a ≠ p := fun e => np i (e ▸ ha)
    rw [upd_ne e, upd_ne e]
    exact G.own i a ha
theorem Step.newF {p : Addr} {u : HO} (hp : H p = none) (sub : Sub F H) : Step F H fps (upd F p u) (upd H p u) fps := by
  have fn : F p = none := by
    cases e : F p with
    | none => rfl
    | some w => rw [sub p w e] at hp; cases hp
  refine ⟨fun a w h => by rw [upd_ne (ne_of_none h fn)]; exact h, fun a w h _ => by rw [upd_ne (ne_of_none h hp)]; exact h, fun a w h hn _ => ?_, fun i a h _ => ⟨i, h⟩⟩
  have e : a ≠ p := fun e => hn (e ▸ hp)
  rw [upd_ne e] at h
  exact h
/-- a new object of one's own, not yet stored -/
theorem Good.newO {p : Addr} {u : HO} (G : Good K F H σ Γ fps) (hp : H p = none) : Good K F (upd H p u) σ Γ fps := by
  refine ⟨fun a w h => ?_, G.len, fun i o e => ?_, G.nil, fun i a ha => ?_, G.dis, G.nd⟩
  · rw [upd_ne (ne_of_none (G.sub a w h) hp)]; exact G.sub a w h
  · obtain ⟨v, e1, r⟩ := G.env i o e
    exact ⟨v, e1, r.step (Sub.refl F) fun b hb w hw => by rw [upd_ne (ne_of_none hw hp)]; exact hw⟩
  · have e : a ≠ p := fun e => (G.own i a ha).2 (e ▸ hp)
    rw [upd_ne e]
    exact G.own i a ha
theorem Step.newO {p : Addr} {u : HO} (hp : H p = none) : Step F H fps F (upd H p u) fps :=
  ⟨Sub.refl F, fun a w h _ => by rw [upd_ne (ne_of_none h hp)]; exact h, fun _ _ h _ _ => h, fun i a h _ => ⟨i, h⟩⟩
theorem Good.freeF (G : Good K F H σ Γ fps) {p : Addr} (hp : H p = none) : F p = none := by
  cases e : F p with
  | none => rfl
  | some w => rw [G.sub p w e] at hp; cases hp
theorem Good.notIn (G : Good K F H σ Γ fps) {p : Addr} (hp : H p = none) : ∀ i, p ∉ fps i := fun i hi => (G.own i p hi).2 hp
/-- a value is stored in slot i -/
theorem Good.store (G : Good K F H σ Γ fps) (t : Tmp K F0 H0 fps0 F H fps v o fp) {i : Nat} (hi : i < σ.length) :
    Good K F H (σ.set i (some v)) (Γ.set i (some o)) (fun j => if j = i then fp else fps j) := by
  refine ⟨G.sub, by simpa using G.len, fun j o' e => ?_, fun j hn => ?_, fun j a ha => ?_, fun j k a hj hk => ?_, fun j => ?_⟩
  · by_cases h : j = i
    · subst h
      rw [List.getElem?_set_self (by rw [G.len]; exact hi)] at e
      cases e
      exact ⟨v, by rw [List.getElem?_set_self hi], by simpa using t.rep⟩
    · rw [List.getElem?_set_ne (Ne.symm h)] at e
      obtain ⟨w, e1, r⟩ := G.env j o' e
      exact ⟨w, by rw [List.getElem?_set_ne (Ne.symm h)]; exact e1, by simpa [h] using r⟩
  · by_cases h : j = i
    · subst h
      exact absurd (List.getElem?_set_self (by rw [G.len]; exact hi)) (hn o)
    · simp only [h, if_false]
      exact G.nil j fun o' e => hn o' (by rw [List.getElem?_set_ne (Ne.symm h)]; exact e)
  · by_cases h : j = i
    · simp only [h, if_true] at ha
      exact ⟨(t.own a ha).1, t.rep.there a ha⟩
    · simp only [h, if_false] at ha
      exact G.own j a ha
  · by_cases h : j = i
    · by_cases h' : k = i
      · rw [h, h']
      · simp only [h, if_true] at hj
        simp only [h', if_false] at hk
        exact absurd hk ((t.own a hj).2.1 k)
    · by_cases h' : k = i
      · simp only [h', if_true] at hk
        simp only [h, if_false] at hj
        exact absurd hj ((t.own a hk).2.1 j)
      · simp only [h, if_false] at hj
        simp only [h', if_false] at hk
        exact G.dis j k a hj hk
  · by_cases h : j = i
    · simp only [h, if_true]; exact t.nd
    · simp only [h, if_false]; exact G.nd j
theorem Step.store (s : Step F0 H0 fps0 F H fps) (t : Tmp K F0 H0 fps0 F H fps v o fp) {i : Nat} : Step F0 H0 fps0 F H (fun j => if j = i then fp else fps j) :=
  ⟨s.sub, s.keep, s.frz, fun j a ha hn => by
    by_cases h : j = i
    · simp only [h, if_true] at ha
      exact (t.own a ha).2.2 hn
    · simp only [h, if_false] at ha
      exact s.own j a ha hn⟩
/-- slot i is emptied -/
theorem Good.drop (G : Good K F H σ Γ fps) (i : Nat) : Good K F H σ (Γ.set i none) (fun j => if j = i then [] else fps j) := by
  refine ⟨G.sub, by simpa using G.len, fun j o' e => ?_, fun j hn => ?_, fun j a ha => ?_, fun j k a hj hk => ?_, fun j => ?_⟩
  · by_cases h : j = i
    · subst h
      by_cases hl : j < Γ.length
      · rw [List.getElem?_set_self hl] at e; cases e
      · rw [List.getElem?_eq_none (by simpa using hl)] at e; cases e
    · rw [List.getElem?_set_ne (Ne.symm h)] at e
      obtain ⟨w, e1, r⟩ := G.env j o' e
      exact ⟨w, e1, by simpa [h] using r⟩
  · by_cases h : j = i
    · simp [h]
    · simp only [h, if_false]
      exact G.nil j fun o' e => hn o' (by rw [List.getElem?_set_ne (Ne.symm h)]; exact e)
  · by_cases h : j = i
    · simp [h] at ha
    · simp only [h, if_false] at ha
      exact G.own j a ha
  · by_cases h : j = i
    · simp [h] at hj
    · by_cases h' : k = i
      · simp [h'] at hk
      · simp only [h, if_false] at hj
        simp only [h', if_false] at hk
        exact G.dis j k a hj hk
  · by_cases h : j = i
    · simp [h]
    · simp only [h, if_false]; exact G.nd j
theorem Step.drop (s : Step F0 H0 fps0 F H fps) (i : Nat) : Step F0 H0 fps0 F H (fun j => if j = i then [] else fps j) :=
  ⟨s.sub, s.keep, s.frz, fun j a ha hn => by
    by_cases h : j = i
    · simp [h] at ha
    · simp only [h, if_false] at ha
      exact s.own j a ha hn⟩
/-- slots may be forgotten on the other side too -/
theorem Good.forget (G : Good K F H σ Γ fps) {i : Nat} (e : ∀ o, Γ[i]? ≠ some (some o)) (x : Option V) : Good K F H (σ.set i x) Γ fps := by
  refine ⟨G.sub, by simpa using G.len, fun j o' e' => ?_, G.nil, G.own, G.dis, G.nd⟩
  have h : j ≠ i := fun h => e o' (h ▸ e')
  obtain ⟨w, e1, r⟩ := G.env j o' e'
  exact ⟨w, by rw [List.getElem?_set_ne (Ne.symm h)]; exact e1, r⟩
end
end MI

set_option maxRecDepth 100000
/-! MI2: readings of the mini interpreter's answers; names, constants, tests, displays. -/
namespace MI
open L2 PySem PyProof.Rows PySem.Spec

end MI
namespace L2
open PySem PyProof.Rows PySem.Spec
theorem PE.imp {X : Cx} {e : Expr} {t t' : TE} (h : PE X e t) (k : ∀ σ H Q, t' σ H Q → t σ H Q) : PE X e t' := ⟨fun pn s σ H Q I q => h.run pn s σ H Q I (k σ H Q q)⟩
theorem PT.imp {X : Cx} {e : Expr} {t t' : TT} (h : PT X e t) (k : ∀ σ H Q, t' σ H Q → t σ H Q) : PT X e t' := ⟨fun pn s σ H Q I q => h.run pn s σ H Q I (k σ H Q q)⟩
theorem PW.imp {X : Cx} {e : Expr} {t t' : TT} (h : PW X e t) (k : ∀ σ H Q, t' σ H Q → t σ H Q) : PW X e t' := ⟨fun w pn s σ H Q I q => h.run w pn s σ H Q I (k σ H Q q)⟩
theorem PA.imp {X : Cx} {e : List Expr} {t t' : TA} (h : PA X e t) (k : ∀ σ H Q, t' σ H Q → t σ H Q) : PA X e t' := ⟨fun p pn s σ H Q I q => h.run p pn s σ H Q I (k σ H Q q)⟩
theorem PS.imp {X : Cx} {e : Stmt} {t t' : TS} (h : PS X e t) (k : ∀ D σ H, t' D σ H → t D σ H) : PS X e t' := ⟨fun pn s σ H D I q => h.run pn s σ H D I (k D σ H q)⟩
theorem PSs.imp {X : Cx} {e : List Stmt} {t t' : TS} (h : PSs X e t) (k : ∀ D σ H, t' D σ H → t D σ H) : PSs X e t' := ⟨fun pn s σ H D I q => h.run pn s σ H D I (k D σ H q)⟩
theorem PI.imp {X : Cx} {tg e : Expr} {t t' : TI} (h : PI X tg e t) (k : ∀ σ H Q, t' σ H Q → t σ H Q) : PI X tg e t' := ⟨fun pn s σ H Q I q => h.run pn s σ H Q I (k σ H Q q)⟩

end L2
namespace MI
open L2 PySem PyProof.Rows PySem.Spec
/-- how an exception's class and dict stand for c and its fields -/
abbrev XRel := Cl → List (Str × D) → Value → Option Addr → Hp → Hp → Prop
/-- what readings lean on: the written part; what is wished of exceptions; how these stand -/
structure Rd where
  K : PySem.W.Frag
  W : WX
  X : XRel

section
variable (r : Rd) (F H : Hp) (fps : Nat → List Addr) (σ : St) {α β : Type}
abbrev Pst (α : Type) := α → Env → Hp → Hp → (Nat → List Addr) → Prop
/-- from here an answer's ends hold P -/
def Ev (a : R α) (P : Pst α) : Prop := match a with
  | .ok x Γ' => ∀ F' H' fps', Step F H fps F' H' fps' → Good r.K F' H' σ Γ' fps' → P x Γ' F' H' fps'
  | .exc c fs Γ' => ∀ F' H' fps' cls d, Step F H fps F' H' fps' → Good r.K F' H' σ Γ' fps' → r.X c fs cls d F' H' → r.W cls d σ H'
  | .bad => False
end
section
variable {r : Rd} {F H F' H' : Hp} {fps fps' : Nat → List Addr} {σ : St} {α β : Type} {Γ : Env}
theorem Ev.imp {a : R α} {P P' : Pst α} (h : Ev r F H fps σ a P) (k : ∀ x Γ' F' H' fps', Step F H fps F' H' fps' → Good r.K F' H' σ Γ' fps' → P x Γ' F' H' fps' → P' x Γ' F' H' fps') : Ev r F H fps σ a P' := by
  cases a with
  | ok x Γ' => exact fun F' H' fps' s g => k _ _ _ _ _ s g (h F' H' fps' s g)
  | exc c fs Γ' => exact h
  | bad => exact h
/-- from a later place -/
theorem Ev.step {a : R α} {P : Pst α} (h : Ev r F H fps σ a P) (s : Step F H fps F' H' fps') : Ev r F' H' fps' σ a P := by
  cases a with
  | ok x Γ' => exact fun F2 H2 fps2 s2 g => h F2 H2 fps2 (s.trans s2) g
  | exc c fs Γ' => exact fun F2 H2 fps2 cls d s2 g => h F2 H2 fps2 cls d (s.trans s2) g
  | bad => exact h
theorem Ev.bind {a : R α} {f : α → Env → R β} {P : Pst β} (h : Ev r F H fps σ (a.bind f) P) : Ev r F H fps σ a fun x Γ1 F1 H1 fps1 => Ev r F1 H1 fps1 σ (f x Γ1) P := by
  cases a with
  | ok x Γ' => exact fun F' H' fps' s _ => Ev.step (a := f x Γ') h s
  | exc c fs Γ' => exact h
  | bad => exact h
theorem Ev.ok {x : α} {P : Pst α} (h : Ev r F H fps σ (.ok x Γ) P) (g : Good r.K F H σ Γ fps) : P x Γ F H fps := h F H fps Step.refl g
theorem Ev.opt {o : Option α} {P : Pst α} (h : Ev r F H fps σ (optR o Γ) P) (g : Good r.K F H σ Γ fps) : ∃ x, o = some x ∧ P x Γ F H fps := by
  cases o with
  | none => exact h.elim
  | some x => exact ⟨x, rfl, h F H fps Step.refl g⟩
/-- frozen as data -/
theorem Ev.toD {a : R O} {P : Pst D} (h : Ev r F H fps σ a.toD P) : Ev r F H fps σ a fun o Γ1 F1 H1 fps1 => ∀ v fp, Tmp r.K F H fps F1 H1 fps1 v o fp →
    ∃ x F2, Step F H fps F2 H1 fps1 ∧ Good r.K F2 H1 σ Γ1 fps1 ∧ RD r.K F2 v x ∧ P x Γ1 F2 H1 fps1 := by
  cases a with
  | ok o Γ1 =>
    intro F1 H1 fps1 s g v fp t
    have h : Ev r F H fps σ (optR (fz o) Γ1) P := h
    cases e : fz o with
    | none => rw [e] at h; exact h.elim
    | some x =>
      rw [e] at h
      have s2 : Step F H fps (frzH F1 H1 fp) H1 fps1 := s.freeze g.sub fun a ha hn => (t.own a ha).2.2 hn
      have g2 : Good r.K (frzH F1 H1 fp) H1 σ Γ1 fps1 := g.freeze fun a ha => (t.own a ha).2.1
      exact ⟨x, _, s2, g2, t.rep.frozen g.sub e, h _ _ _ s2 g2⟩
  | exc c fs Γ' => exact h
  | bad => exact h
end

/-! ### readings -/
section
variable (r : Rd) (X : Ctx)
def tE (m : E) : TE := fun σ H Q => ∃ F Γ fps, Good r.K F H σ Γ fps ∧ Ev r F H fps σ (evE X m Γ) fun o _ F' H' fps' => ∀ v fp, Tmp r.K F H fps F' H' fps' v o fp → Q v H'
def tD (m : E) : TE := fun σ H Q => ∃ F Γ fps, Good r.K F H σ Γ fps ∧ Ev r F H fps σ (evE X m Γ).toD fun x _ F' H' _ => ∀ v, RD r.K F' v x → Q v H'
/-- an operand: data, or what stands in a slot -/
def BR (K : PySem.W.Frag) (F : Hp) (σ : St) (b : B) (v : V) : Prop := match b with
  | .v x => RD K F v x
  | .sl i => σ[i]? = some (some v)
def tB (m : E) : TE := fun σ H Q => ∃ F Γ fps, Good r.K F H σ Γ fps ∧ Ev r F H fps σ (opB m Γ (evE X m Γ)) fun b _ F' H' _ => ∀ v, BR r.K F' σ b v → Q v H'
def tT (m : E) : TT := fun σ H Q => ∃ F Γ fps, Good r.K F H σ Γ fps ∧ Ev r F H fps σ (evE X m Γ).toB fun b _ _ H' _ => Q b H'
def tDs (es : Es) : TA := fun σ H Q => ∃ F Γ fps, Good r.K F H σ Γ fps ∧ Ev r F H fps σ (evDs X es Γ) fun xs _ F' H' _ => ∀ vs, RDs r.K F' vs xs → Q vs H'
end

section
variable {r : Rd} {X : Ctx} {Y : Cx} {e : Expr} {m : E}
theorem pe_D (h : PE Y e (tE r X m)) : PE Y e (tD r X m) := h.imp fun σ H Q ⟨F, Γ, fps, g, q⟩ => ⟨F, Γ, fps, g, q.toD.imp fun o Γ1 F1 H1 fps1 s g1 k v fp t => by
  obtain ⟨x, F2, _, _, rd, q⟩ := k v fp t
  exact q v rd⟩
theorem pe_B (h : PE Y e (tE r X m)) (hv : ∀ i, m = .var i → ∃ x pos, e = .Name x pos ∧ PE Y e (tVar i)) : PE Y e (tB r X m) := by
  by_cases hm : ∃ i, m = .var i
  · obtain ⟨i, rfl⟩ := hm
    obtain ⟨x, pos, rfl, pv⟩ := hv i rfl
    refine pv.imp fun σ H Q ⟨F, Γ, fps, g, q⟩ => ?_
    simp only [opB] at q
    split at q
    · rename_i o eo
      obtain ⟨v, ev, _⟩ := g.env i o eo
      exact ⟨v, ev, q.ok g v ev⟩
    · exact q.elim
  · refine h.imp fun σ H Q ⟨F, Γ, fps, g, q⟩ => ⟨F, Γ, fps, g, ?_⟩
    have e1 : opB m Γ (evE X m Γ) = (evE X m Γ).toD.bind fun x Γ => .ok (.v x) Γ := by
      cases m <;> first | rfl | exact absurd ⟨_, rfl⟩ hm
    rw [e1] at q
    refine Ev.imp q.bind.toD fun o Γ1 F1 H1 fps1 s g1 k v fp t => ?_
    obtain ⟨x, F2, _, g2, rd, q⟩ := k v fp t
    exact q.ok g2 v rd
theorem pt_T (h : PE Y e (tE r X m)) (he : ∀ whole, isTrue e Y.env whole = (do let v ← whole; standAt e.pos; holding [v] (truthy v))) : PT Y e (tT r X m) := by
  refine (pt_val h he).imp fun σ H Q ⟨F, Γ, fps, g, q⟩ => ⟨F, Γ, fps, g, ?_⟩
  refine Ev.imp q.bind fun o Γ1 F1 H1 fps1 s g1 k v fp t => ?_
  split at k
  · rename_i b
    have hv := t.rep
    cases hv with
    | d h =>
      cases h
      exact ⟨b, rfl, k.ok g1⟩
  · exact k.elim
/-- an operand looked at -/
theorem rdB_ok {F H : Hp} {σ : St} {Γ : Env} {fps : Nat → List Addr} {b : B} {v : V} {P : Pst D} (g : Good r.K F H σ Γ fps) (hb : BR r.K F σ b v) (h : Ev r F H fps σ (rdB b Γ) P) :
    ∃ x Γ2 F2 fps2, Step F H fps F2 H fps2 ∧ Good r.K F2 H σ Γ2 fps2 ∧ RV r.K F2 H v x ∧ P x Γ2 F2 H fps2 := by
  cases b with
  | v x => exact ⟨x, Γ, F, fps, Step.refl, g, RD.rv g.sub hb, h.ok g⟩
  | sl i =>
    have hb : σ[i]? = some (some v) := hb
    simp only [rdB] at h
    split at h
    all_goals try exact h.elim
    all_goals rename_i eo; obtain ⟨v', ev, ro⟩ := g.env i _ eo; rw [hb] at ev; cases ev
    · exact ⟨_, Γ, F, fps, Step.refl, g, RD.rv g.sub ro.inv_d.2, h.ok g⟩
    · obtain ⟨a, vs, rfl, _, h1, l1, r1⟩ := ro.inv_l
      exact ⟨_, Γ, F, fps, Step.refl, g, .lst h1 l1 r1, h.ok g⟩
    · obtain ⟨a, vs, rfl, _, h1, l1, r1⟩ := ro.inv_k
      exact ⟨_, Γ, F, fps, Step.refl, g, .dct h1 l1 r1, h.ok g⟩
    · have si : i < σ.length := (List.getElem?_eq_some_iff.mp hb).1
      have es : σ.set i (some v) = σ := by
        rw [List.getElem?_eq_some_iff] at hb
        obtain ⟨h1, h2⟩ := hb
        rw [← h2]; exact List.set_getElem_self h1
      -- the slot's own lists are frozen
      have gd := g.drop i
      have own : ∀ a ∈ fps i, F a = none ∧ (∀ j, a ∉ (fun j => if j = i then [] else fps j) j) ∧ (H a ≠ none → ∃ j, a ∈ fps j) := fun a ha => ⟨(g.own i a ha).1, fun j hj => by
        by_cases e : j = i
        · simp [e] at hj
        · simp only [e, if_false] at hj
          exact e (g.dis j i a hj ha), fun _ => ⟨i, ha⟩⟩
      have t : Tmp r.K F H fps F H (fun j => if j = i then [] else fps j) v (.ll _) (fps i) := ⟨ro, own, g.nd i⟩
      have s2 : Step F H fps (frzH F H (fps i)) H (fun j => if j = i then [] else fps j) := (Step.refl.drop i).freeze g.sub fun a ha _ => ⟨i, ha⟩
      have g2 := gd.freeze (fp := fps i) fun a ha => (own a ha).2.1
      have rd := ro.frozen (x := .list _) g.sub rfl
      have g3 := g2.store (F0 := F) (H0 := H) (fps0 := fps) (Tmp.data rd) si
      rw [es, List.set_set] at g3
      have e2 : (fun j => if j = i then ([] : List Addr) else (fun j => if j = i then [] else fps j) j) = fun j => if j = i then [] else fps j := by
        funext j; by_cases e : j = i <;> simp [e]
      rw [e2] at g3
      exact ⟨_, _, _, _, s2, g3, RD.rv g3.sub rd, h _ _ _ s2 g3⟩

/-! ### names, constants -/
theorem pe_varE {i : Nat} {x : Str} {pos : Pos} (h : PE Y (.Name x pos) (tVar i)) : PE Y (.Name x pos) (tE r X (.var i)) := by
  refine h.imp fun σ H Q ⟨F, Γ, fps, g, q⟩ => ?_
  have q : Ev r F H fps σ (rdV i Γ) _ := q
  simp only [rdV] at q
  have go : ∀ (o : O) (x : D), Γ[i]? = some (some o) → fz o = some x → Ev r F H fps σ (.ok (.d x) (Γ.set i (some (.d x)))) (fun o x F' H' fps' => ∀ (v : V) (fp : List Addr), Tmp r.K F H fps F' H' fps' v o fp → Q v H') → ∃ v, σ[i]? = some (some v) ∧ Q v H := by
    intro o x eo ef q
    obtain ⟨v, ev, ro⟩ := g.env i o eo
    have si : i < σ.length := (List.getElem?_eq_some_iff.mp ev).1
    have es : σ.set i (some v) = σ := by
      rw [List.getElem?_eq_some_iff] at ev
      obtain ⟨h1, h2⟩ := ev
      rw [← h2]; exact List.set_getElem_self h1
    have gd := g.drop i
    have own : ∀ a ∈ fps i, ∀ j, a ∉ (fun j => if j = i then [] else fps j) j := fun a ha j hj => by
      by_cases e : j = i
      · simp [e] at hj
      · simp only [e, if_false] at hj
        exact e (g.dis j i a hj ha)
    have s2 : Step F H fps (frzH F H (fps i)) H (fun j => if j = i then [] else fps j) := (Step.refl.drop i).freeze g.sub fun a ha _ => ⟨i, ha⟩
    have g2 := gd.freeze (fp := fps i) own
    have rd := ro.frozen g.sub ef
    have g3 := g2.store (F0 := F) (H0 := H) (fps0 := fps) (Tmp.data rd) si
    rw [es, List.set_set] at g3
    have e2 : (fun j => if j = i then ([] : List Addr) else (fun j => if j = i then [] else fps j) j) = fun j => if j = i then [] else fps j := by
      funext j; by_cases e : j = i <;> simp [e]
    rw [e2] at g3
    exact ⟨v, ev, q _ _ _ s2 g3 v [] (Tmp.data rd)⟩
  split at q
  · rename_i x eo
    obtain ⟨v, ev, ro⟩ := g.env i _ eo
    have h0 : fps i = [] := ro.inv_d.1
    exact ⟨v, ev, q.ok g v [] ⟨by rw [h0] at ro; exact ro, (fun _ h => by cases h), List.nodup_nil⟩⟩
  · exact go _ _ (by assumption) rfl q
  · exact go _ _ (by assumption) rfl q
  · exact go _ _ (by assumption) rfl q
  · rename_i ns eo
    obtain ⟨v, ev, ro⟩ := g.env i _ eo
    have h0 : fps i = [] := let ⟨_, _, e, _⟩ := ro.inv_s; e
    exact ⟨v, ev, q.ok g v [] ⟨by rw [h0] at ro; exact ro, (fun _ h => by cases h), List.nodup_nil⟩⟩
  · rename_i c fs eo
    obtain ⟨v, ev, ro⟩ := g.env i _ eo
    exact ro.inv_x.elim
  · exact q.elim
/-- a value that stands in every heap -/
theorem pe_cE {v : V} {x : D} (h : PE Y e (tC v)) (k : ∀ F, RD r.K F v x) (hm : ∀ Γ, evE X m Γ = .ok (.d x) Γ) : PE Y e (tE r X m) :=
  h.imp fun σ H Q ⟨F, Γ, fps, g, q⟩ => by
    rw [hm] at q
    exact q.ok g v [] (Tmp.data (k F))

/-! ### conditional values, tests -/
variable {a b c : Expr} {ma mb mc : E} {pos : Pos}
theorem pe_iteE (hc : PT Y c (tT r X mc)) (ha : PE Y a (tE r X ma)) (hb : PE Y b (tE r X mb)) : PE Y (.IfExp c a b pos) (tE r X (.ite mc ma mb)) :=
  (pe_ifExp hc ha hb).imp fun σ H Q ⟨F, Γ, fps, g, q⟩ => ⟨F, Γ, fps, g, by
    have q : Ev r F H fps σ ((evE X mc Γ).toB.bind _) _ := q
    refine Ev.imp q.bind fun t Γ1 F1 H1 fps1 s g1 k => ?_
    cases t with
    | true => exact iteT ⟨F1, Γ1, fps1, g1, k.imp fun o Γ2 F2 H2 fps2 s2 g2 k v fp t => k v fp (t.back s)⟩
    | false => exact iteF ⟨F1, Γ1, fps1, g1, k.imp fun o Γ2 F2 H2 fps2 s2 g2 k v fp t => k v fp (t.back s)⟩⟩
theorem pt_notT (ha : PT Y a (tT r X ma)) : PT Y (.UnaryOp .Not a pos) (tT r X (.not ma)) :=
  (pt_not ha).imp fun σ H Q ⟨F, Γ, fps, g, q⟩ => ⟨F, Γ, fps, g, by
    have q : Ev r F H fps σ (((evE X ma Γ).toB.bind _).toB) _ := q
    refine Ev.imp q.bind.bind fun t Γ1 F1 H1 fps1 s g1 k => ?_
    exact (k.ok g1).ok g1⟩
theorem Tmp.bool {K : PySem.W.Frag} {F0 H0 F H : Hp} {fps0 fps : Nat → List Addr} {v : V} {b : Bool} {fp : List Addr} (t : Tmp K F0 H0 fps0 F H fps v (.d (.bool b)) fp) : v = .bl b := by
  have h := t.rep
  cases h with
  | d h => cases h; rfl
theorem pe_notE (ha : PE Y a (tE r X ma)) : PE Y (.UnaryOp .Not a pos) (tE r X (.not ma)) :=
  (pe_not ha).imp fun σ H Q ⟨F, Γ, fps, g, q⟩ => ⟨F, Γ, fps, g, by
    have q : Ev r F H fps σ ((evE X ma Γ).toB.bind _) _ := q
    refine Ev.imp q.bind.bind fun o Γ1 F1 H1 fps1 s g1 k v fp t => ?_
    split at k
    · rename_i b
      refine ⟨b, t.bool, ?_⟩
      exact (k.ok g1).ok g1 _ [] (Tmp.data (.bl _))
    · exact k.elim⟩
variable {rest : List Expr}
theorem pe_andE (ha : PE Y a (tE r X ma)) (hb : PE Y (.BoolOp .And (b :: rest) pos) (tE r X mb)) : PE Y (.BoolOp .And (a :: b :: rest) pos) (tE r X (.and ma mb)) :=
  (pe_and ha hb).imp fun σ H Q ⟨F, Γ, fps, g, q⟩ => ⟨F, Γ, fps, g, by
    have q : Ev r F H fps σ ((evE X ma Γ).toD.bind _) _ := q
    refine Ev.imp q.bind.toD fun o Γ1 F1 H1 fps1 s g1 k v fp t => ?_
    obtain ⟨x, F2, s2, g2, rd, k⟩ := k v fp t
    split at k
    · cases rd
      exact ⟨true, rfl, iteT ⟨F2, Γ1, fps1, g2, k.imp fun o Γ2 F3 H2 fps2 s3 g3 k v fp t => k v fp (t.back s2)⟩⟩
    · cases rd
      exact ⟨false, rfl, iteF (k.ok g2 _ [] (Tmp.data (.bl _)))⟩
    · exact k.elim⟩
theorem pe_orE (ha : PE Y a (tE r X ma)) (hb : PE Y (.BoolOp .Or (b :: rest) pos) (tE r X mb)) : PE Y (.BoolOp .Or (a :: b :: rest) pos) (tE r X (.or ma mb)) :=
  (pe_or ha hb).imp fun σ H Q ⟨F, Γ, fps, g, q⟩ => ⟨F, Γ, fps, g, by
    have q : Ev r F H fps σ ((evE X ma Γ).toD.bind _) _ := q
    refine Ev.imp q.bind.toD fun o Γ1 F1 H1 fps1 s g1 k v fp t => ?_
    obtain ⟨x, F2, s2, g2, rd, k⟩ := k v fp t
    split at k
    · cases rd
      exact ⟨true, rfl, iteT (k.ok g2 _ [] (Tmp.data (.bl _)))⟩
    · cases rd
      exact ⟨false, rfl, iteF ⟨F2, Γ1, fps1, g2, k.imp fun o Γ2 F3 H2 fps2 s3 g3 k v fp t => k v fp (t.back s2)⟩⟩
    · exact k.elim⟩
theorem and_toB {Γ : Env} : (evE X (.and ma mb) Γ).toB = (evE X ma Γ).toB.bind fun b Γ => match b with | true => (evE X mb Γ).toB | false => .ok false Γ := by
  show ((evE X ma Γ).toD.bind _).toB = _
  cases evE X ma Γ with
  | ok o Γ1 => cases o with
    | d x => cases x with
      | bool b => cases b <;> rfl
      | _ => rfl
    | _ => rfl
  | _ => rfl
theorem or_toB {Γ : Env} : (evE X (.or ma mb) Γ).toB = (evE X ma Γ).toB.bind fun b Γ => match b with | true => .ok true Γ | false => (evE X mb Γ).toB := by
  show ((evE X ma Γ).toD.bind _).toB = _
  cases evE X ma Γ with
  | ok o Γ1 => cases o with
    | d x => cases x with
      | bool b => cases b <;> rfl
      | _ => rfl
    | _ => rfl
  | _ => rfl
theorem pw_andT (ha : PT Y a (tT r X ma)) (hb : PW Y (.BoolOp .And (b :: rest) pos) (tT r X mb)) : PW Y (.BoolOp .And (a :: b :: rest) pos) (tT r X (.and ma mb)) :=
  (pw_and ha hb).imp fun σ H Q ⟨F, Γ, fps, g, q⟩ => ⟨F, Γ, fps, g, by
    rw [and_toB] at q
    refine Ev.imp q.bind fun t Γ1 F1 H1 fps1 s g1 k => ?_
    cases t with
    | true => exact iteT ⟨F1, Γ1, fps1, g1, k⟩
    | false => exact iteF (k.ok g1)⟩
theorem pw_orT (ha : PT Y a (tT r X ma)) (hb : PW Y (.BoolOp .Or (b :: rest) pos) (tT r X mb)) : PW Y (.BoolOp .Or (a :: b :: rest) pos) (tT r X (.or ma mb)) :=
  (pw_or ha hb).imp fun σ H Q ⟨F, Γ, fps, g, q⟩ => ⟨F, Γ, fps, g, by
    rw [or_toB] at q
    refine Ev.imp q.bind fun t Γ1 F1 H1 fps1 s g1 k => ?_
    cases t with
    | true => exact iteT (k.ok g1)
    | false => exact iteF ⟨F1, Γ1, fps1, g1, k⟩⟩
/-! ### several values -/
variable {es : List Expr} {ms : Es}
theorem pa_nilD : PA Y [] (tDs r X .nil) := pa_nil.imp fun σ H Q ⟨F, Γ, fps, g, q⟩ => by
  have q : Ev r F H fps σ (.ok [] Γ) _ := q
  exact q.ok g [] .nil
theorem pa_consD (ha : PE Y e (tE r X m)) (hr : PA Y es (tDs r X ms)) (hs : starEach (e :: es) Y.env = (false, eval e Y.env) :: starEach es Y.env) : PA Y (e :: es) (tDs r X (.cons m ms)) :=
  (pa_cons (pe_D ha) hr hs).imp fun σ H Q ⟨F, Γ, fps, g, q⟩ => ⟨F, Γ, fps, g, by
    have q : Ev r F H fps σ ((evE X m Γ).toD.bind fun x Γ => (evDs X ms Γ).bind fun xs Γ => .ok (x :: xs) Γ) _ := q
    refine Ev.imp q.bind fun x Γ1 F1 H1 fps1 s g1 k v rd => ⟨F1, Γ1, fps1, g1, ?_⟩
    refine Ev.imp k.bind fun xs Γ2 F2 H2 fps2 s2 g2 k vs rds => ?_
    exact k.ok g2 _ (.cons (rd.mono s2.sub) rds)⟩
theorem Ev.eq {F H : Hp} {fps : Nat → List Addr} {σ : St} {α : Type} {a : R α} {P : Pst α} (h : Ev r F H fps σ a P) : Ev r F H fps σ a fun x Γ' F' H' fps' => a = .ok x Γ' ∧ P x Γ' F' H' fps' := by
  cases a with
  | ok x Γ' => exact fun F' H' fps' s g => ⟨rfl, h F' H' fps' s g⟩
  | exc c fs Γ' => exact h
  | bad => exact h
def Es.len : Es → Nat
  | .nil => 0
  | .cons _ es => es.len + 1
theorem bind_ok {α β : Type} {a : R α} {f : α → Env → R β} {y : β} {Γ' : Env} (h : a.bind f = .ok y Γ') : ∃ x Γ1, a = .ok x Γ1 ∧ f x Γ1 = .ok y Γ' := by
  cases a with
  | ok x Γ1 => exact ⟨x, Γ1, rfl, h⟩
  | exc c fs Γ1 => cases h
  | bad => cases h
theorem evDs_len : ∀ {ms : Es} {Γ Γ' : Env} {xs : List D}, evDs X ms Γ = .ok xs Γ' → xs.length = ms.len
  | .nil, _, _, _, h => by cases h; rfl
  | .cons m ms, _, _, _, h => by
    obtain ⟨x, Γ1, _, h⟩ := bind_ok h
    obtain ⟨ys, Γ2, e, h⟩ := bind_ok h
    cases h
    show ys.length + 1 = ms.len + 1
    rw [evDs_len e]
theorem lim_eq : lim = sizeLine := by decide
theorem line1000 {n : Nat} (h : n ≤ 1000) : n ≤ sizeLine := Nat.le_trans h (by decide)
theorem pe_tupN {k : Nat} {t : TA} (h : PA Y es t) : PE Y (.Tuple es k pos) (fun σ H Q => t σ H fun vs H1 => vs.length ≤ sizeLine ∧ ∀ p u, H1 p = none → NT u vs → Q (.ref p) (upd H1 p u)) := by
  refine ⟨fun pn s σ H Q I hq => ?_⟩
  refine wpAny_Tuple_spliced (thn (h.run pos pn s σ H _ I hq) fun us s1 ⟨xs, H1, I1, r, z, q⟩ => ⟨by rw [← r.length]; exact z, ?_⟩)
  have hf : H1 s1.heap.objs.size = none := I1.hok.fresh Nat.le.refl
  obtain ⟨u, n, I2⟩ := laidN I1 r z
  exact ⟨.ref s1.heap.objs.size, _, I2, rfl, q _ _ hf n⟩
theorem pe_tupE {k : Nat} (h : PA Y es (tDs r X ms)) (hl : ms.len ≤ 1000) : PE Y (.Tuple es k pos) (tE r X (.tup ms)) :=
  (pe_tupN h).imp fun σ H Q ⟨F, Γ, fps, g, q⟩ => ⟨F, Γ, fps, g, by
    have q : Ev r F H fps σ ((evDs X ms Γ).bind fun xs Γ => .ok (O.d (.tuple xs)) Γ) _ := q
    refine Ev.imp q.bind.eq fun xs Γ1 F1 H1 fps1 s g1 k vs rds => ?_
    obtain ⟨e, k⟩ := k
    have hn : vs.length ≤ sizeLine := by
      rw [rds.length, evDs_len e]
      exact line1000 hl
    refine ⟨hn, fun p u hp n => ?_⟩
    have g2 := g1.newF (u := u) hp
    have s2 : Step F1 H1 fps1 (upd F1 p u) (upd H1 p u) fps1 := Step.newF hp g1.sub
    exact k _ _ _ s2 g2 _ [] (Tmp.data (.tup (.at upd_same n) hn (rds.mono s2.sub)))⟩
theorem Tmp.newL {K : PySem.W.Frag} {F0 H0 F H : Hp} {σ : St} {Γ : Env} {fps0 fps : Nat → List Addr} {p : Addr} {vs : List V} {xs : List D} (s : Step F0 H0 fps0 F H fps) (g : Good K F H σ Γ fps) (hp : H p = none) (hl : vs.length ≤ sizeLine) (h : RDs K F vs xs) :
    Tmp K F0 H0 fps0 F (upd H p (.lst vs)) fps (.ref p) (.l xs) [p] := by
  refine ⟨.l upd_same hl h, fun a ha => ?_, by simp⟩
  have e : a = p := by simpa using ha
  subst e
  refine ⟨g.freeF hp, g.notIn hp, fun hn => ?_⟩
  cases e : H0 a with
  | none => exact absurd e hn
  | some w =>
    apply Classical.byContradiction
    intro hx
    have n : ∀ j, a ∉ fps0 j := fun j hj => hx ⟨j, hj⟩
    rw [s.keep a w e n] at hp
    cases hp
theorem Tmp.newK {K : PySem.W.Frag} {F0 H0 F H : Hp} {σ : St} {Γ : Env} {fps0 fps : Nat → List Addr} {p : Addr} {vs : List (Key × V)} {xs : List (D × D)} (s : Step F0 H0 fps0 F H fps) (g : Good K F H σ Γ fps) (hp : H p = none) (hl : vs.length ≤ sizeLine) (h : RKs K F vs xs) :
    Tmp K F0 H0 fps0 F (upd H p (.dK vs)) fps (.ref p) (.k xs) [p] := by
  refine ⟨.k upd_same hl h, fun a ha => ?_, by simp⟩
  have e : a = p := by simpa using ha
  subst e
  refine ⟨g.freeF hp, g.notIn hp, fun hn => ?_⟩
  cases e : H0 a with
  | none => exact absurd e hn
  | some w =>
    apply Classical.byContradiction
    intro hx
    have n : ∀ j, a ∉ fps0 j := fun j hj => hx ⟨j, hj⟩
    rw [s.keep a w e n] at hp
    cases hp
theorem pe_lstE (h : PA Y es (tDs r X ms)) (hl : ms.len ≤ 1000) : PE Y (.List es pos) (tE r X (.lst ms)) :=
  (pe_lst h).imp fun σ H Q ⟨F, Γ, fps, g, q⟩ => ⟨F, Γ, fps, g, by
    have q : Ev r F H fps σ ((evDs X ms Γ).bind fun xs Γ => .ok (O.l xs) Γ) _ := q
    refine Ev.imp q.bind.eq fun xs Γ1 F1 H1 fps1 s g1 k vs rds => ?_
    obtain ⟨e, k⟩ := k
    have hn : vs.length ≤ sizeLine := by
      rw [rds.length, evDs_len e]
      exact line1000 hl
    exact ⟨hn, fun p hp => k _ _ _ (Step.newO hp) (g1.newO hp) _ [p] (Tmp.newL s g1 hp hn rds)⟩⟩

/-! ### a value just made, by what it is -/
/-- Q holds of each value for o that may come, from the heap H -/
def NewV (K : PySem.W.Frag) (F H : Hp) (o : O) (Q : VK) : Prop := match o with
  | .d x => (∀ v, RD K F v x → Q v H) ∧ ∀ p u, H p = none → RD K (upd F p u) (.ref p) x → Q (.ref p) (upd H p u)
  | .l xs => ∀ p vs, H p = none → vs.length ≤ sizeLine → RDs K F vs xs → Q (.ref p) (upd H p (.lst vs))
  | .k ds => ∀ p kvs, H p = none → kvs.length ≤ sizeLine → RKs K F kvs ds → Q (.ref p) (upd H p (.dK kvs))
  | _ => False
def canNew : O → Bool
  | .d _ => true | .l _ => true | .k _ => true | _ => false
theorem newV_of {F0 H0 F H : Hp} {fps0 fps : Nat → List Addr} {σ : St} {Γ : Env} {o : O} {Q : VK} (s : Step F0 H0 fps0 F H fps) (g : Good r.K F H σ Γ fps) (hc : canNew o = true)
    (h : ∀ F' H' fps', Step F H fps F' H' fps' → Good r.K F' H' σ Γ fps' → ∀ v fp, Tmp r.K F0 H0 fps0 F' H' fps' v o fp → Q v H') : NewV r.K F H o Q := by
  cases o with
  | d x => exact ⟨fun v hv => h F H fps Step.refl g v [] (Tmp.data hv), fun p u hp hv => h _ _ _ (Step.newF hp g.sub) (g.newF hp) _ [] (Tmp.data hv)⟩
  | l xs => exact fun p vs hp hl hr => h _ _ _ (Step.newO hp) (g.newO hp) _ [p] (Tmp.newL s g hp hl hr)
  | k ds => exact fun p kvs hp hl hr => h _ _ _ (Step.newO hp) (g.newO hp) _ [p] (Tmp.newK s g hp hl hr)
  | _ => cases hc

/-! ### operations of two values -/
/-- what an operation of two values asks: f tells the answer -/
def rO (K : PySem.W.Frag) (f : D → D → Option O) : R2 := fun x y H Q => ∃ F dx dy o, Sub F H ∧ RV K F H x dx ∧ RV K F H y dy ∧ f dx dy = some o ∧ NewV K F H o Q
/-- .. whose answer is a truth -/
def rC (K : PySem.W.Frag) (f : D → D → Option Bool) : R2 := fun x y H Q => ∃ F dx dy b, Sub F H ∧ RV K F H x dx ∧ RV K F H y dy ∧ f dx dy = some b ∧ Q (.bl b) H
theorem bop_new {op : Bop} {x y : D} {o : O} (h : bop op x y = some o) : canNew o = true := by
  cases op <;> cases x <;> cases y <;> simp only [bop] at h <;> (try cases h) <;> (try (split at h <;> cases h)) <;> rfl
def opOf : Bop → Operator
  | .add => .Add | .sub => .Sub | .mul => .Mult | .fdiv => .FloorDiv | .mod => .Mod | .pow => .Pow
theorem pe_binE {op : Bop} (ho : OpR Y (binaryOp (opOf op)) (rO r.K (bop op))) (ha : PE Y a (tB r X ma)) (hb : PE Y b (tB r X mb)) : PE Y (.BinOp a (opOf op) b pos) (tE r X (.bin op ma mb)) :=
  (pe_op ho ha hb).imp fun σ H Q ⟨F, Γ, fps, g, q⟩ => ⟨F, Γ, fps, g, by
    have q : Ev r F H fps σ ((opB ma Γ (evE X ma Γ)).bind fun p Γ => (opB mb Γ (evE X mb Γ)).bind fun q Γ => (rdB p Γ).bind fun x Γ => (rdB q Γ).bind fun y Γ => optR (bop op x y) Γ) _ := q
    refine Ev.imp q.bind fun p Γ1 F1 H1 fps1 s1 g1 k v bv => ⟨F1, Γ1, fps1, g1, ?_⟩
    refine Ev.imp k.bind fun p2 Γ2 F2 H2 fps2 s2 g2 k w bw => ?_
    have bv : BR r.K F2 σ p v := by
      cases p with
      | v x => exact RD.mono s2.sub bv
      | sl i => exact bv
    obtain ⟨x, Γ3, F3, fps3, s3, g3, rx, k⟩ := rdB_ok g2 bv k.bind
    have bw : BR r.K F3 σ p2 w := by
      cases p2 with
      | v x => exact RD.mono s3.sub bw
      | sl i => exact bw
    obtain ⟨y, Γ4, F4, fps4, s4, g4, ry, k⟩ := rdB_ok g3 bw k.bind
    cases e : bop op x y with
    | none => rw [e] at k; exact k.elim
    | some o =>
      rw [e] at k
      exact ⟨F4, x, y, o, g4.sub, rx.mono s4.sub, ry, e, newV_of (s1.trans (s2.trans (s3.trans s4))) g4 (bop_new e) k⟩⟩
theorem pe_cmpE {op : Cop} {cp : CmpOp} (ho : OpR Y (compareOp cp) (rC r.K (cop op))) (ha : PE Y a (tB r X ma)) (hb : PE Y b (tB r X mb)) (hm : behindInMarks cp b = false) : PE Y (.Compare a [cp] [b] pos) (tE r X (.cmp op ma mb)) :=
  (pe_cmpR ho ha hb hm).imp fun σ H Q ⟨F, Γ, fps, g, q⟩ => ⟨F, Γ, fps, g, by
    have q : Ev r F H fps σ ((opB ma Γ (evE X ma Γ)).bind fun p Γ => (opB mb Γ (evE X mb Γ)).bind fun q Γ => (rdB p Γ).bind fun x Γ => (rdB q Γ).bind fun y Γ =>
      (optR (cop op x y) Γ).bind fun r Γ => .ok (O.d (.bool r)) Γ) _ := q
    refine Ev.imp q.bind fun p Γ1 F1 H1 fps1 s1 g1 k v bv => ⟨F1, Γ1, fps1, g1, ?_⟩
    refine Ev.imp k.bind fun p2 Γ2 F2 H2 fps2 s2 g2 k w bw => ?_
    have bv : BR r.K F2 σ p v := by
      cases p with
      | v x => exact RD.mono s2.sub bv
      | sl i => exact bv
    obtain ⟨x, Γ3, F3, fps3, s3, g3, rx, k⟩ := rdB_ok g2 bv k.bind
    have bw : BR r.K F3 σ p2 w := by
      cases p2 with
      | v x => exact RD.mono s3.sub bw
      | sl i => exact bw
    obtain ⟨y, Γ4, F4, fps4, s4, g4, ry, k⟩ := rdB_ok g3 bw k.bind
    obtain ⟨b, e, k⟩ := k.bind.opt g4
    exact ⟨F4, x, y, b, g4.sub, rx.mono s4.sub, ry, e, (k.ok g4) _ [] (Tmp.data (.bl _))⟩⟩
/-- a truth told by a comparison, as a test -/
theorem pt_cmpT {op : Cop} {cp : CmpOp} (ho : OpR Y (compareOp cp) (rC r.K (cop op))) (ha : PE Y a (tB r X ma)) (hb : PE Y b (tB r X mb)) (hm : behindInMarks cp b = false) : PT Y (.Compare a [cp] [b] pos) (tT r X (.cmp op ma mb)) :=
  (pt_cmpR ho ha hb hm).imp fun σ H Q ⟨F, Γ, fps, g, q⟩ => ⟨F, Γ, fps, g, by
    have q : Ev r F H fps σ (((opB ma Γ (evE X ma Γ)).bind fun p Γ => (opB mb Γ (evE X mb Γ)).bind fun q Γ => (rdB p Γ).bind fun x Γ => (rdB q Γ).bind fun y Γ =>
      (optR (cop op x y) Γ).bind fun r Γ => .ok (.d (.bool r)) Γ).toB) _ := q
    refine Ev.imp q.bind.bind fun p Γ1 F1 H1 fps1 s1 g1 k v bv => ⟨F1, Γ1, fps1, g1, ?_⟩
    refine Ev.imp k.bind fun p2 Γ2 F2 H2 fps2 s2 g2 k w bw => ?_
    have bv : BR r.K F2 σ p v := by
      cases p with
      | v x => exact RD.mono s2.sub bv
      | sl i => exact bv
    obtain ⟨x, Γ3, F3, fps3, s3, g3, rx, k⟩ := rdB_ok g2 bv k.bind
    have bw : BR r.K F3 σ p2 w := by
      cases p2 with
      | v x => exact RD.mono s3.sub bw
      | sl i => exact bw
    obtain ⟨y, Γ4, F4, fps4, s4, g4, ry, k⟩ := rdB_ok g3 bw k.bind
    obtain ⟨b, e, k⟩ := k.bind.opt g4
    exact ⟨F4, x, y, b, g4.sub, rx.mono s4.sub, ry, e, b, rfl, (k.ok g4).ok g4⟩⟩
end
end MI

set_option maxRecDepth 100000
/-! MI3: the operations of two values. -/
namespace MI
open L2 PySem PyProof.Rows PySem.Spec
section
variable {K : PySem.W.Frag} {F H : Hp} {v : V}
theorem RV.int_inv {i : Int} (h : RV K F H v (.int i)) : v = .int i := by cases h; rfl
theorem RV.bl_inv {i : Bool} (h : RV K F H v (.bool i)) : v = .bl i := by cases h; rfl
theorem RV.str_inv {i : Str} (h : RV K F H v (.str i)) : v = .str i := by cases h; rfl
theorem RV.non_inv (h : RV K F H v .none) : v = .non := by cases h; rfl
theorem RV.tup_inv {xs : List D} (h : RV K F H v (.tuple xs)) : ∃ a vs, v = .ref a ∧ SqN K F a vs ∧ vs.length ≤ sizeLine ∧ RDs K F vs xs := by
  cases h with
  | tup h l r => exact ⟨_, _, rfl, h, l, r⟩
theorem RV.lst_inv {xs : List D} (h : RV K F H v (.list xs)) : ∃ a vs, v = .ref a ∧ H a = some (.lst vs) ∧ vs.length ≤ sizeLine ∧ RDs K F vs xs := by
  cases h with
  | lst h l r => exact ⟨_, _, rfl, h, l, r⟩
theorem RV.dct_inv {xs : List (D × D)} (h : RV K F H v (.dict xs)) : ∃ a kvs, v = .ref a ∧ H a = some (.dK kvs) ∧ kvs.length ≤ sizeLine ∧ RKs K F kvs xs := by
  cases h with
  | dct h l r => exact ⟨_, _, rfl, h, l, r⟩
theorem RD.tup_inv {xs : List D} (h : RD K F v (.tuple xs)) : ∃ a vs, v = .ref a ∧ SqN K F a vs ∧ vs.length ≤ sizeLine ∧ RDs K F vs xs := by
  cases h with
  | tup h l r => exact ⟨_, _, rfl, h, l, r⟩
theorem RD.int_inv {i : Int} (h : RD K F v (.int i)) : v = .int i := by cases h; rfl
theorem RD.bl_inv {i : Bool} (h : RD K F v (.bool i)) : v = .bl i := by cases h; rfl
theorem RD.str_inv {i : Str} (h : RD K F v (.str i)) : v = .str i := by cases h; rfl
theorem RDs.nil_iff {vs : List V} {xs : List D} (h : RDs K F vs xs) : vs = [] ↔ xs = [] := by cases h <;> simp
theorem RDs.nil_of {vs : List V} (h : RDs K F vs []) : vs = [] := by cases h; rfl
/-- the tuple at a fresh place -/
theorem NewV.tup {xs : List D} {Q : VK} (n : NewV K F H (.d (.tuple xs)) Q) {p : Addr} {u : HO} {vs : List V} (hp : H p = none) (hu : NT u vs) (hl : vs.length ≤ sizeLine) (s : Sub F H) (h : RDs K F vs xs) : Q (.ref p) (upd H p u) := by
  refine n.2 p _ hp (.tup (.at upd_same hu) hl (h.mono fun a u e => ?_))
  have : a ≠ p := fun z => by subst z; rw [s a u e] at hp; cases hp
  rw [upd_ne this]; exact e
end

section
variable {X : Cx}
theorem op_catN : OpR X (binaryOp .Add) (fun x y H Q => ∃ a b xs ys, x = .ref a ∧ y = .ref b ∧ SqT X.K H a xs ∧ SqT X.K H b ys ∧ xs.length + ys.length ≤ sizeLine ∧
  (xs = [] → Q (.ref b) H) ∧ (xs ≠ [] → ys = [] → Q (.ref a) H) ∧ (xs ≠ [] → ys ≠ [] → ∀ p u, H p = none → NT u (xs ++ ys) → Q (.ref p) (upd H p u))) := by
  rintro pn s σ H _ _ _ _ Q I u1 u2 ⟨ta, tb, va, vb, rfl, rfl, at1, at2, room, right, left, both⟩
  cases u1; cases u2
  obtain ⟨ia, wa, pa, -⟩ := I.tuple at1
  obtain ⟨ib, wb, pb, -⟩ := I.tuple at2
  cases va with
  | nil => cases wa; exact cat_tup0 pa pb ⟨.ref _, _, I, rfl, right rfl⟩
  | cons v0 vr =>
    have full : v0 :: vr ≠ [] := List.cons_ne_nil _ _
    have ga : ia ≠ [] := by
      intro z
      rw [z] at wa
      cases wa
    have sz : ia.length + ib.length ≤ sizeLine := by
      have := wa.length
      have := wb.length
      omega
    refine HT.cat_tup pa pb ga (fun gb => ?_) (fun gb => ?_) sz
    · rw [gb] at wb
      cases wb
      exact ⟨.ref _, _, I, rfl, left full rfl⟩
    · have gv : vb ≠ [] := by
        intro z
        rw [z] at wb
        cases wb
        exact gb rfl
      have ⟨ob, un, J⟩ := laidN I (wa.append wb) (by simpa only [List.length_append] using room)
      exact ⟨.ref _, _, J, rfl, both full gv _ ob (I.hok.fresh (Nat.le_refl _)) un⟩
/-- how much room a tuple told k times takes -/
theorem rep_room {α : Type} {k : Int} {row : List α} (most : k ≤ 1000) (short : row.length ≤ 1000) : (List.replicate k.toNat row).flatten.length ≤ sizeLine := by
  have : k.toNat * row.length ≤ 1000 * 1000 := Nat.mul_le_mul (by omega) short
  rw [lm_len_rep_flat, sizeLine_eq]
  omega
/-- the four questions that a tuple's product asks ahead -/
theorem rep_asks {k : Int} {row : List Value} (two : 2 ≤ k) (most : k ≤ 1000) (short : row.length ≤ 1000) (full : row ≠ []) :
    ((decide (k < -(2 ^ 63)) || decide (k ≥ 2 ^ 63)) = false ∧ (row.toArray.isEmpty || k == 1) = false) ∧ (decide (k ≤ 0) || row.toArray.isEmpty) = false ∧ Builtin.Tuple.tupleTooMany (((row.toArray.size : Nat) : Int) * k) = false ∧ ((row.toArray.size : Nat) : Int) * k ≤ 1000000 := by
  have e : row.toArray.isEmpty = false := by
    cases row
    · exact (full rfl).elim
    · rfl
  have top : ((row.toArray.size : Nat) : Int) * k ≤ 1000 * k := by
    rw [List.size_toArray]
    exact Int.mul_le_mul_of_nonneg_right (by omega) (by omega)
  refine ⟨⟨?_, ?_⟩, ?_, ?_, by omega⟩
  · simp only [Bool.or_eq_false_iff, decide_eq_false_iff_not]
    omega
  · simp only [e, Bool.false_or, beq_eq_false_iff_ne]
    omega
  · simp only [e, Bool.or_false, decide_eq_false_iff_not]
    omega
  · show decide (_ > _) = false
    simp only [decide_eq_false_iff_not, sizeLine_eq]
    omega
/-- a tuple times a number goes the tuple's own way -/
theorem mul_road {prog : Program} {w : World} {ar : Around} {ex : Value → Shared → Prop} {s : Shared} {l : Addr} {k : Int} {t : Tok} {row : List Value} {n : Nat} {dd : Option Addr} {sl : Array (Option Value)} {Q : Value → Shared → Prop} {own : PySem.Spec}
    (lies : s.heap.get? l = some { cls := .type "tuple", dict := dd, data := .seq row.toArray n, slots := sl }) (meets : Meets (Builtin.«tuple.__mul__» ⟨[.ref l, .int k t], []⟩) own) (ask : ∀ v, v = Value.notImplemented → own ar (wants Q ex) s) :
    wpAny (model prog w) ar (binaryOp .Mult (.ref l) (.int k t)) Q ex s := by
  have kind : s.TypeIs (.ref l) "tuple" := ⟨_, lies, rfl⟩
  have num : ∀ z : Shared, z.TypeIs (.int k t) "int" := fun z => typeIs_int z k t
  refine wpAny_binaryOp_repeat_ref (by decide) kind num noFill_tuple_mul F.fills_int_mul F.slot_int_rmul repeat_tuple F.slot_int_index.lookup ?_
  refine call_meets F.slot_int_rmul (num s) F.entry_int_rmul (F.args_int_rmul_2 _ _) (int_rmul_tuple k t l row.toArray n dd sl) ⟨lies, rfl, kind, ?_⟩
  exact call_meets F.slot_tuple_mul kind F.entry_tuple_mul (F.args_tuple_mul_2 _ _) meets (ask _ rfl)
theorem op_repN : OpR X (binaryOp .Mult) (fun x y H Q => ∃ l k xs, x = .ref l ∧ y = .int k ∧ SqT X.K H l xs ∧ xs ≠ [] ∧ 2 ≤ k ∧ k ≤ 1000 ∧ xs.length ≤ 1000 ∧ ∀ p u, H p = none → NT u (List.replicate k.toNat xs).flatten → Q (.ref p) (upd H p u)) := by
  rintro pn s σ H _ _ _ _ Q I u1 u2 ⟨l, k, row, rfl, rfl, ta, full, two, most, short, next⟩
  cases u1
  obtain ⟨tk, rfl⟩ := u2
  obtain ⟨ia, wa, ⟨⟨c, dd, da, sl⟩, lies, ec, n, ed⟩, -⟩ := I.tuple ta
  dsimp only at ec ed
  subst ec ed
  have same := wa.length
  have ga : ia ≠ [] := by
    intro z
    rw [z, List.length_nil, List.length_eq_zero_iff] at same
    exact full same
  obtain ⟨⟨a0, a1⟩, a2, a3, a4⟩ := rep_asks two most (by omega) ga
  have room := rep_room most (row := ia) (by omega)
  have ⟨ob, un, J⟩ := laidN I (wa.rep k.toNat) (rep_room most short)
  refine mul_road lies (tuple_mulW l ia.toArray n dd sl k tk a0 a1 a2 (by omega) a3 (by rw [size_rep, List.size_toArray]; exact room)) fun _ _ => ⟨lies, ?_⟩
  rw [size_rep]
  exact ⟨.ref _, _, J, rfl, next _ ob (I.hok.fresh (Nat.le_refl _)) un⟩
theorem sl_tupN : SlR X (fun x lo hi H Q => ∃ a xs, x = .ref a ∧ SqT X.K H a xs ∧
  (HT.sIx xs.length 0 lo = 0 ∧ HT.sIx xs.length xs.length hi = xs.length → Q (.ref a) H) ∧ (¬ (HT.sIx xs.length 0 lo = 0 ∧ HT.sIx xs.length xs.length hi = xs.length) → ∀ p u, H p = none → NT u (cutV xs lo hi) → Q (.ref p) (upd H p u))) := by
  rintro pn s σ H _ _ vl vu lo hi sl Q I u1 cut lower upper ⟨ta, row, rfl, at1, all, part⟩
  cases u1
  obtain ⟨ia, wa, pa, za⟩ := I.tuple at1
  have n : ia.toArray.size = row.length := by simpa using wa.length.symm
  refine ⟨"tuple", _, slot_tuple_getitem.lookup, pa.typeIs, ?_⟩
  rcases Classical.em (HT.sIx row.length 0 lo = 0 ∧ HT.sIx row.length row.length hi = row.length) with e | e
  · exact getItem_tuple_whole pa cut lower upper (n ▸ e) ⟨.ref _, _, I, rfl, all e⟩
  · have ⟨ob, un, J⟩ := laidN I ((wa.drop (HT.sIx row.length 0 lo)).take (HT.sIx row.length row.length hi - HT.sIx row.length 0 lo)) (Nat.le_trans (cutV_length row lo hi) za)
    refine HT.getItem_tuple_cut pa cut lower upper (n ▸ e) ?_ (n ▸ za)
    rw [n]
    exact ⟨.ref _, _, J, rfl, part e _ ob (I.hok.fresh (Nat.le_refl _)) un⟩
theorem call_tupN : CallR X (.type "tuple") (fun xs H Q => ∃ p ys, xs = [.ref p] ∧ ((SqL X.K H p ys ∧ ∀ l u, H l = none → NT u ys → Q (.ref l) (upd H l u)) ∨ (SqT X.K H p ys ∧ Q (.ref p) H))) := by
  rintro pn s σ H _ us Q I rs ⟨at1, row, rfl, way⟩
  obtain ⟨v0, rfl, r0⟩ := vals1 rs
  cases r0
  cases way with
  | inr way =>
    obtain ⟨ia, -, pa, -⟩ := I.tuple way.1
    exact call_tuple_same pa ⟨.ref _, _, I, rfl, way.2⟩
  | inl way =>
    obtain ⟨ia, wa, pa, za⟩ := I.list way.1
    have short : ia.length ≤ sizeLine := by
      have := wa.length
      omega
    refine call_tuple_list pa.isList (fun hp1 old => ?_) (by simpa using short)
    have I1 : Inv X pn σ H { s with heap := hp1 } := I.kept (t' := s.toks) old
    have ⟨ob, un, J⟩ := laidN I1 wa za
    exact ⟨.ref _, _, J, rfl, way.2 _ ob (I1.hok.fresh (Nat.le_refl _)) un⟩
end

section
variable {X : Cx}
/-- t * 1, a tuple -/
theorem tuple_mul1 (l : Addr) (items : Array Value) (n : Nat) (dd : Option Addr) (sl : Array (Option Value)) (x : Int) (u : Tok) (c0 : (decide (x < -(2 ^ 63)) || decide (x ≥ 2 ^ 63)) = false) (c1 : (items.isEmpty || x == 1) = true) :
    Meets (Builtin.«tuple.__mul__» ⟨[.ref l, .int x u], []⟩) (fun _ R s => s.heap.get? l = some { cls := .type "tuple", dict := dd, data := .seq items n, slots := sl } ∧ R (.ok (.ret (Value.ref l))) s) := by
  refine Meets.of_wp fun pr wo ar post sh ⟨lies, k⟩ => ?_
  obtain ⟨h0, g0, d0, t0, o0⟩ := sh
  have ix := AutoSeq1.idx_int
  have no : ¬ (decide (x < -(2 ^ 63)) || decide (x ≥ 2 ^ 63)) = true := by rw [c0]; decide
  wp_walk using (wpAny_loadPart' lies)
  repeat (first
    | (refine wpAny_ite_false (decide_eq_false no) ?_
       wp_walk using (wpAny_loadPart' lies))
    | (refine wpAny_ite_true (decide_eq_true c1) ?_
       wp_walk using (wpAny_loadPart' lies)))
  exact ⟨_, rfl, k⟩
theorem op_repT1 : OpR X (binaryOp .Mult) (fun x y H Q => ∃ l xs, x = .ref l ∧ y = .int 1 ∧ SqT X.K H l xs ∧ Q (.ref l) H) := by
  rintro pn s σ H _ _ _ _ Q I u1 u2 ⟨l, row, rfl, rfl, ta, next⟩
  cases u1
  obtain ⟨tk, rfl⟩ := u2
  obtain ⟨ia, -, ⟨⟨c, dd, da, sl⟩, lies, ec, n, ed⟩, -⟩ := I.tuple ta
  dsimp only at ec ed
  subst ec ed
  exact mul_road lies (tuple_mul1 l ia.toArray n dd sl 1 tk (by decide) (by simp)) fun _ _ => ⟨lies, ⟨.ref _, _, I, rfl, next⟩⟩

theorem opr_add : OpR X (binaryOp .Add) (rO X.K (bop .add)) := by
  intro pn s σ H x y v u Q I rx ry h
  obtain ⟨F, dx, dy, o, sub, hx, hy, e, nv⟩ := h
  cases dx <;> cases dy <;> simp only [bop] at e <;> try cases e
  · rw [hx.int_inv] at rx; rw [hy.int_inv] at ry
    exact op_add pn s σ H _ _ v u Q I rx ry ⟨_, _, rfl, rfl, nv.1 _ (.int _)⟩
  · split at e <;> cases e
    rename_i hl
    rw [hx.str_inv] at rx; rw [hy.str_inv] at ry
    exact op_add_str pn s σ H _ _ v u Q I rx ry ⟨_, _, rfl, rfl, by rw [← lim_eq]; exact hl, nv.1 _ (.str _)⟩
  · split at e <;> cases e
    rename_i hl
    obtain ⟨a, vs, rfl, h1, l1, r1⟩ := hx.lst_inv
    obtain ⟨b, ws, rfl, h2, l2, r2⟩ := hy.lst_inv
    have hl' : vs.length + ws.length ≤ sizeLine := by rw [r1.length, r2.length, ← lim_eq]; exact hl
    exact op_cat pn s σ H _ _ v u Q I rx ry ⟨a, b, vs, ws, rfl, rfl, h1, h2, hl', fun p hp => nv p _ hp (by rw [List.length_append]; exact hl') (r1.append r2)⟩
  · split at e <;> cases e
    rename_i hl
    obtain ⟨a, vs, rfl, h1, l1, r1⟩ := hx.tup_inv
    obtain ⟨b, ws, rfl, h2, l2, r2⟩ := hy.tup_inv
    have hl' : vs.length + ws.length ≤ sizeLine := by rw [r1.length, r2.length, ← lim_eq]; exact hl
    refine op_catN pn s σ H _ _ v u Q I rx ry ⟨a, b, vs, ws, rfl, rfl, sub.sqT h1.sq, sub.sqT h2.sq, hl', fun e => ?_, fun _ e => ?_, fun _ _ p w hp hn => nv.tup hp hn (by rw [List.length_append]; exact hl') sub (r1.append r2)⟩
    · subst e
      cases r1
      exact nv.1 _ (.tup h2 l2 r2)
    · subst e
      cases r2
      rw [List.append_nil] at nv
      exact nv.1 _ (.tup h1 l1 r1)
theorem opr_sub : OpR X (binaryOp .Sub) (rO X.K (bop .sub)) := by
  intro pn s σ H x y v u Q I rx ry h
  obtain ⟨F, dx, dy, o, sub, hx, hy, e, nv⟩ := h
  cases dx <;> cases dy <;> simp only [bop] at e <;> try cases e
  rw [hx.int_inv] at rx; rw [hy.int_inv] at ry
  exact op_sub pn s σ H _ _ v u Q I rx ry ⟨_, _, rfl, rfl, nv.1 _ (.int _)⟩
theorem opr_mul : OpR X (binaryOp .Mult) (rO X.K (bop .mul)) := by
  intro pn s σ H x y v u Q I rx ry h
  obtain ⟨F, dx, dy, o, sub, hx, hy, e, nv⟩ := h
  cases dx <;> cases dy <;> simp only [bop] at e <;> try cases e
  · split at e <;> cases e
    rename_i hl
    rw [hx.int_inv] at rx; rw [hy.int_inv] at ry
    simp only [i64, Bool.or_eq_true, small_iff] at hl
    refine op_mul pn s σ H _ _ v u Q I rx ry ⟨_, _, rfl, rfl, ?_, nv.1 _ (.int _)⟩
    rcases hl with hl | hl
    · exact .inl ⟨by omega, by omega⟩
    · exact .inr ⟨by omega, by omega⟩
  · split at e <;> cases e
    rename_i k hl
    rw [Bool.and_eq_true, small_iff, decide_eq_true_eq] at hl
    obtain ⟨h3, h5⟩ := hl
    obtain ⟨a, vs, rfl, h1, l1, r1⟩ := hx.lst_inv
    rw [hy.int_inv] at ry
    have hl' : vs.length * k.toNat ≤ sizeLine := by rw [r1.length, ← lim_eq]; exact h5
    exact op_rep pn s σ H _ _ v u Q I rx ry ⟨a, k, vs, rfl, rfl, h1, by omega, by omega, hl', fun p hp => nv p _ hp (by rw [PyProof.Rows.lm_len_rep_flat, Nat.mul_comm]; exact hl') (r1.rep _)⟩
  · split at e <;> cases e
    rename_i k hl
    simp only [Bool.and_eq_true, decide_eq_true_eq, Bool.not_eq_true'] at hl
    obtain ⟨⟨⟨h2, h3⟩, h4⟩, h5⟩ := hl
    obtain ⟨a, vs, rfl, h1, l1, r1⟩ := hx.tup_inv
    rw [hy.int_inv] at ry
    by_cases hk : k = 1
    · subst hk
      refine op_repT1 pn s σ H _ _ v u Q I rx ry ⟨a, vs, rfl, rfl, sub.sqT h1.sq, nv.1 _ ?_⟩
      have e1 : ∀ (α : Type) (xs : List α), rep 1 xs = xs := fun α xs => by simp [rep]
      rw [e1]
      exact .tup h1 l1 r1
    · have hne : vs ≠ [] := fun z => by
        rw [r1.nil_iff] at z
        rw [z] at h2; cases h2
      refine op_repN pn s σ H _ _ v u Q I rx ry ⟨a, k, vs, rfl, rfl, sub.sqT h1.sq, hne, by omega, h4, by rw [r1.length]; exact h5, fun p w hp hn => nv.tup hp hn ?_ sub (r1.rep _)⟩
      rw [PyProof.Rows.lm_len_rep_flat, r1.length, sizeLine_eq]
      have a1 : k.toNat * _ ≤ 1000 * 1000 := Nat.mul_le_mul (by omega) h5
      omega
theorem opr_fdiv : OpR X (binaryOp .FloorDiv) (rO X.K (bop .fdiv)) := by
  intro pn s σ H x y v u Q I rx ry h
  obtain ⟨F, dx, dy, o, sub, hx, hy, e, nv⟩ := h
  cases dx <;> cases dy <;> simp only [bop] at e <;> try cases e
  split at e <;> cases e
  rename_i hl
  simp only [Bool.and_eq_true, decide_eq_true_eq, small_iff] at hl
  rw [hx.int_inv] at rx; rw [hy.int_inv] at ry
  exact op_fdiv pn s σ H _ _ v u Q I rx ry ⟨_, _, rfl, rfl, ⟨by omega, by omega⟩, nv.1 _ (.int _)⟩
theorem opr_mod : OpR X (binaryOp .Mod) (rO X.K (bop .mod)) := by
  intro pn s σ H x y v u Q I rx ry h
  obtain ⟨F, dx, dy, o, sub, hx, hy, e, nv⟩ := h
  cases dx <;> cases dy <;> simp only [bop] at e <;> try cases e
  split at e <;> cases e
  rename_i hl
  simp only [decide_eq_true_eq] at hl
  rw [hx.int_inv] at rx; rw [hy.int_inv] at ry
  exact op_mod pn s σ H _ _ v u Q I rx ry ⟨_, _, rfl, rfl, hl, nv.1 _ (.int _)⟩
theorem opr_pow : OpR X (binaryOp .Pow) (rO X.K (bop .pow)) := by
  intro pn s σ H x y v u Q I rx ry h
  obtain ⟨F, dx, dy, o, sub, hx, hy, e, nv⟩ := h
  cases dx <;> cases dy <;> simp only [bop] at e <;> try cases e
  split at e <;> cases e
  rename_i hl
  simp only [Bool.and_eq_true, decide_eq_true_eq, small_iff] at hl
  rw [hx.int_inv] at rx; rw [hy.int_inv] at ry
  exact op_pow pn s σ H _ _ v u Q I rx ry ⟨_, _, rfl, rfl, ⟨hl.1.1, by omega, by omega⟩, nv.1 _ (.int _)⟩
theorem opr_b (op : Bop) : OpR X (binaryOp (opOf op)) (rO X.K (bop op)) := by
  cases op
  · exact opr_add
  · exact opr_sub
  · exact opr_mul
  · exact opr_fdiv
  · exact opr_mod
  · exact opr_pow

/-! ### comparisons -/
theorem bothStr_inv {a b : D} {x y : Str} (h : bothStr a b = some (x, y)) : (a, b) = (.str x, .str y) := by
  cases a <;> cases b <;> cases h
  rfl
theorem opr_eq (hu : X.A.units + 64 < cLine) : OpR X (compareOp .Eq) (rC X.K (cop .eq)) := by
  intro pn s σ H x y v u Q I rx ry h
  obtain ⟨F, dx, dy, b, sub, hx, hy, e, q⟩ := h
  simp only [cop, eqD] at e
  split at e
  · rename_i z w hb
    cases bothStr_inv hb
    cases e
    rw [hx.str_inv] at rx; rw [hy.str_inv] at ry
    obtain ⟨t1, rfl⟩ := rx
    obtain ⟨t2, rfl⟩ := ry
    exact PySem.P.eq_str ⟨.bl _, H, I, rfl, q⟩
  split at e <;> cases e
  rename_i hs
  rw [Bool.and_eq_true] at hs
  exact op_eqD hu pn s σ H _ _ v u Q I rx ry ⟨dx, dy, hx.dp sub (SeqAt.canLay_of_shaped hs.1), hy.dp sub (SeqAt.canLay_of_shaped hs.2), hs.1, hs.2, q⟩
theorem opr_ne (hu : X.A.units + 64 < cLine) : OpR X (compareOp .NotEq) (rC X.K (cop .ne)) := by
  intro pn s σ H x y v u Q I rx ry h
  obtain ⟨F, dx, dy, b, sub, hx, hy, e, q⟩ := h
  obtain ⟨c, e2, rfl⟩ := Option.map_eq_some_iff.mp (show (eqD dx dy).map (!·) = some b from e)
  simp only [eqD] at e2
  split at e2
  · rename_i z w hb
    cases bothStr_inv hb
    cases e2
    rw [hx.str_inv] at rx; rw [hy.str_inv] at ry
    obtain ⟨t1, rfl⟩ := rx
    obtain ⟨t2, rfl⟩ := ry
    exact PySem.P.ne_str ⟨.bl _, H, I, rfl, q⟩
  split at e2 <;> cases e2
  rename_i hs
  rw [Bool.and_eq_true] at hs
  exact op_neD hu pn s σ H _ _ v u Q I rx ry ⟨dx, dy, hx.dp sub (SeqAt.canLay_of_shaped hs.1), hy.dp sub (SeqAt.canLay_of_shaped hs.2), hs.1, hs.2, q⟩
theorem opr_lt : OpR X (compareOp .Lt) (rC X.K (cop .lt)) := by
  intro pn s σ H x y v u Q I rx ry h
  obtain ⟨F, dx, dy, b, sub, hx, hy, e, q⟩ := h
  cases dx <;> cases dy <;> simp only [cop, cmpInt] at e <;> try cases e
  rw [hx.int_inv] at rx; rw [hy.int_inv] at ry
  exact op_lt pn s σ H _ _ v u Q I rx ry ⟨_, _, rfl, rfl, q⟩
theorem opr_le : OpR X (compareOp .LtE) (rC X.K (cop .le)) := by
  intro pn s σ H x y v u Q I rx ry h
  obtain ⟨F, dx, dy, b, sub, hx, hy, e, q⟩ := h
  cases dx <;> cases dy <;> simp only [cop, cmpInt] at e <;> try cases e
  rw [hx.int_inv] at rx; rw [hy.int_inv] at ry
  exact op_le pn s σ H _ _ v u Q I rx ry ⟨_, _, rfl, rfl, q⟩
theorem opr_gt : OpR X (compareOp .Gt) (rC X.K (cop .gt)) := by
  intro pn s σ H x y v u Q I rx ry h
  obtain ⟨F, dx, dy, b, sub, hx, hy, e, q⟩ := h
  cases dx <;> cases dy <;> simp only [cop, cmpInt] at e <;> try cases e
  rw [hx.int_inv] at rx; rw [hy.int_inv] at ry
  exact op_gt pn s σ H _ _ v u Q I rx ry ⟨_, _, rfl, rfl, q⟩
theorem opr_ge : OpR X (compareOp .GtE) (rC X.K (cop .ge)) := by
  intro pn s σ H x y v u Q I rx ry h
  obtain ⟨F, dx, dy, b, sub, hx, hy, e, q⟩ := h
  cases dx <;> cases dy <;> simp only [cop, cmpInt] at e <;> try cases e
  rw [hx.int_inv] at rx; rw [hy.int_inv] at ry
  exact op_ge pn s σ H _ _ v u Q I rx ry ⟨_, _, rfl, rfl, q⟩
/-- is a truth, of anything -/
theorem op_isAny (b : Bool) : OpR X (compareOp .Is) (fun x y H Q => y = .bl b ∧ Q (.bl (decide (x = .bl b))) H) := by
  intro pn s σ H x y v u Q I rx ry h
  obtain ⟨rfl, q⟩ := h
  obtain rfl : u = Value.bool b := ry
  cases x with
  | bl c =>
    cases (show v = Value.bool c from rx)
    by_cases e : c = b
    · subst e
      refine wpAny_is_self rfl ⟨.bl _, H, I, rfl, ?_⟩
      simpa using q
    · refine wpAny_is_other rfl (mt Value.bool.inj e) ⟨.bl _, H, I, rfl, ?_⟩
      simpa [e] using q
  | non => cases rx; exact wpAny_is_other rfl (fun z => by cases z) ⟨.bl false, H, I, rfl, by simpa using q⟩
  | int _ => obtain ⟨t, rfl⟩ := rx; exact wpAny_is_other rfl (fun z => by cases z) ⟨.bl false, H, I, rfl, by simpa using q⟩
  | str _ => obtain ⟨t, rfl⟩ := rx; exact wpAny_is_other rfl (fun z => by cases z) ⟨.bl false, H, I, rfl, by simpa using q⟩
  | byt _ => obtain ⟨t, rfl⟩ := rx; exact wpAny_is_other rfl (fun z => by cases z) ⟨.bl false, H, I, rfl, by simpa using q⟩
  | flt _ => obtain ⟨t, rfl⟩ := rx; exact wpAny_is_other rfl (fun z => by cases z) ⟨.bl false, H, I, rfl, by simpa using q⟩
  | ref _ => cases rx; exact wpAny_is_other rfl (fun z => by cases z) ⟨.bl false, H, I, rfl, by simpa using q⟩
  | ty _ => cases rx; exact wpAny_is_other rfl (fun z => by cases z) ⟨.bl false, H, I, rfl, by simpa using q⟩
theorem op_isntAny (b : Bool) : OpR X (compareOp .IsNot) (fun x y H Q => y = .bl b ∧ Q (.bl (!decide (x = .bl b))) H) := by
  intro pn s σ H x y v u Q I rx ry h
  obtain ⟨rfl, q⟩ := h
  obtain rfl : u = Value.bool b := ry
  cases x with
  | bl c =>
    cases (show v = Value.bool c from rx)
    by_cases e : c = b
    · subst e
      refine wpAny_isNot_self rfl ⟨.bl _, H, I, rfl, ?_⟩
      simpa using q
    · refine wpAny_isNot_other rfl (mt Value.bool.inj e) ⟨.bl _, H, I, rfl, ?_⟩
      simpa [e] using q
  | non => cases rx; exact wpAny_isNot_other rfl (fun z => by cases z) ⟨.bl true, H, I, rfl, by simpa using q⟩
  | int _ => obtain ⟨t, rfl⟩ := rx; exact wpAny_isNot_other rfl (fun z => by cases z) ⟨.bl true, H, I, rfl, by simpa using q⟩
  | str _ => obtain ⟨t, rfl⟩ := rx; exact wpAny_isNot_other rfl (fun z => by cases z) ⟨.bl true, H, I, rfl, by simpa using q⟩
  | byt _ => obtain ⟨t, rfl⟩ := rx; exact wpAny_isNot_other rfl (fun z => by cases z) ⟨.bl true, H, I, rfl, by simpa using q⟩
  | flt _ => obtain ⟨t, rfl⟩ := rx; exact wpAny_isNot_other rfl (fun z => by cases z) ⟨.bl true, H, I, rfl, by simpa using q⟩
  | ref _ => cases rx; exact wpAny_isNot_other rfl (fun z => by cases z) ⟨.bl true, H, I, rfl, by simpa using q⟩
  | ty _ => cases rx; exact wpAny_isNot_other rfl (fun z => by cases z) ⟨.bl true, H, I, rfl, by simpa using q⟩
theorem opr_is : OpR X (compareOp .Is) (rC X.K (cop .is)) := by
  intro pn s σ H x y v u Q I rx ry h
  obtain ⟨F, dx, dy, b, sub, hx, hy, e, q⟩ := h
  cases dy <;> simp only [cop] at e <;> first | cases e | (cases dx <;> simp only [cop] at e <;> cases e)
  all_goals first
    | (refine op_isN pn s σ H _ _ v u Q I rx ry ⟨hy.non_inv, ?_⟩; cases hx <;> exact q)
    | (rw [hy.bl_inv] at ry; refine op_isAny _ pn s σ H _ _ v u Q I rx ry ⟨rfl, ?_⟩; cases hx <;> first | exact q | (rename_i b1 b2; cases b1 <;> cases b2 <;> exact q) | (rename_i b2 b1; cases b1 <;> cases b2 <;> exact q))
theorem opr_isnt : OpR X (compareOp .IsNot) (rC X.K (cop .isnt)) := by
  intro pn s σ H x y v u Q I rx ry h
  obtain ⟨F, dx, dy, b, sub, hx, hy, e, q⟩ := h
  cases dy <;> simp only [cop] at e <;> first | cases e | (cases dx <;> simp only [cop] at e <;> cases e)
  all_goals first
    | (refine op_notN pn s σ H _ _ v u Q I rx ry ⟨hy.non_inv, ?_⟩; cases hx <;> exact q)
    | (rw [hy.bl_inv] at ry; refine op_isntAny _ pn s σ H _ _ v u Q I rx ry ⟨rfl, ?_⟩; cases hx <;> first | exact q | (rename_i b1 b2; cases b1 <;> cases b2 <;> exact q) | (rename_i b2 b1; cases b1 <;> cases b2 <;> exact q))
/-! ### in, not in -/
theorem kD_eqv (a b : Key) : PyData.eqv (kD a) (kD b) = decide (a = b) := by
  cases a <;> cases b <;> simp only [kD, PyData.eqv]
  · rw [key_ll]
  · rw [key_lr]
  · rw [key_rl]
  · rw [key_rr]
    rw [Bool.eq_iff_iff]; simp
theorem keyOk_kD {x : D} (h : keyOk x = true) : ∃ k, x = kD k := by
  cases x <;> simp only [keyOk] at h <;> try cases h
  · exact ⟨.inl _, rfl⟩
  · exact ⟨.inr _, rfl⟩
theorem RV.key {K : PySem.W.Frag} {F H : Hp} {v : V} {k : Key} (h : RV K F H v (kD k)) : v = kV k := by
  cases k with
  | inl i => exact h.int_inv
  | inr x => exact h.str_inv
theorem RD.key {K : PySem.W.Frag} {F : Hp} {v : V} {k : Key} (h : RD K F v (kD k)) : v = kV k := by
  cases k with
  | inl i => exact h.int_inv
  | inr x => exact h.str_inv
theorem RKs.get {K : PySem.W.Frag} {F : Hp} (k : Key) : ∀ {kvs : List (Key × V)} {ds : List (D × D)}, RKs K F kvs ds → (match kvGet ds (kD k) with | some d => ∃ v, valV kvs k = some v ∧ RD K F v d | none => valV kvs k = none)
  | _, _, .nil => rfl
  | _, _, .cons (k := k') (v := v) (d := d) (ds := ds) e h r => by
    subst e
    have ih := RKs.get k r
    unfold kvGet
    rw [List.find?_cons]
    simp only [kD_eqv]
    by_cases e : k' = k
    · subst e
      simp only [decide_true, Option.map_some]
      exact ⟨v, by rw [valV_pos rfl], h⟩
    · simp only [e, decide_false]
      rw [valV_neg (p := (k', v)) e]
      have e2 : (fun kv : D × D => PyData.eqv kv.1 (kD k)) = fun kv => PyData.eqv kv.1 (kD k) := rfl
      exact ih
theorem RKs.keysOk {K : PySem.W.Frag} {F : Hp} : ∀ {kvs : List (Key × V)} {ds : List (D × D)}, RKs K F kvs ds → (ds.all fun kv => keyOk kv.1) = true
  | _, _, .nil => rfl
  | _, _, .cons (k := k') e h r => by
    subst e
    rw [List.all_cons, RKs.keysOk r]
    cases k' <;> rfl
theorem keyOk_of {K : PySem.W.Frag} {F : Hp} {kvs : List (Key × V)} {ds : List (D × D)} {k : D} (h : RKs K F kvs ds) (e : kindOk ds k = true) (hk : keyOk k = true) : ∃ k', k = kD k' := keyOk_kD hk
theorem in_dK (hu : X.A.units + 1 < cLine) {op : CmpOp} {neg : Bool} (hop : (op = .In ∧ neg = false) ∨ (op = .NotIn ∧ neg = true)) : OpR X (compareOp op) (fun x y H Q => ∃ a kvs k, y = .ref a ∧ H a = some (.dK kvs) ∧ x = kV k ∧ Q (.bl (if neg then !(valV kvs k).isSome else (valV kvs k).isSome)) H) := by
  intro pn s σ H x y v u Q I rx ry h
  obtain ⟨a, kvs, k, rfl, ha, rfl, q⟩ := h
  cases ry
  rcases hop with ⟨rfl, rfl⟩ | ⟨rfl, rfl⟩
  · exact d_in hu I (DGet.k ha) rx fun s' I' => ⟨.bl _, H, I', rfl, q⟩
  · exact d_notIn hu I (DGet.k ha) rx fun s' I' => ⟨.bl _, H, I', rfl, q⟩
theorem opr_in (hu : X.A.units + 65 < cLine) : OpR X (compareOp .In) (rC X.K (cop .isin)) := by
  intro pn s σ H x y v u Q I rx ry h
  obtain ⟨F, dx, dy, b, sub, hx, hy, e, q⟩ := h
  cases dy with
  | tuple ds =>
    have e : isin dx ds = some b := by cases dx <;> exact e
    unfold isin at e
    split at e <;> cases e
    rename_i hs
    rw [Bool.and_eq_true] at hs
    have ht : SeqAt.shaped (.tuple ds) = true := hs.2
    obtain ⟨as, r1⟩ := Dp.reads I dx x v (hx.dp sub (SeqAt.canLay_of_shaped hs.1)) rx
    obtain ⟨bs, r2⟩ := Dp.reads I (.tuple ds) y u (hy.dp sub (SeqAt.canLay_of_shaped ht)) ry
    exact SeqAt.in_tuple_reads r2 r1 (SeqAt.canLay_of_shaped hs.2) (SeqAt.canLay_of_shaped hs.1) (room_in_shaped hs.1 hu) ⟨.bl _, H, I, rfl, q⟩
  | list ds =>
    have e : isin dx ds = some b := by cases dx <;> exact e
    unfold isin at e
    split at e <;> cases e
    rename_i hs
    rw [Bool.and_eq_true] at hs
    exact op_inD hu pn s σ H _ _ v u Q I rx ry ⟨dx, ds, hx.dp sub (SeqAt.canLay_of_shaped hs.1), hy.dp sub (SeqAt.canLay_of_shaped hs.2), hs.1, hs.2, q⟩
  | dict ds =>
    have e : (if kindOk ds dx then some (kvGet ds dx).isSome else none) = some b := by cases dx <;> exact e
    split at e <;> cases e
    rename_i hk
    obtain ⟨a, kvs, rfl, h1, l1, r1⟩ := hy.dct_inv
    have kk : keyOk dx = true := by
      simp only [kindOk, Bool.and_eq_true] at hk
      exact hk.1
    obtain ⟨k, rfl⟩ := keyOk_kD kk
    rw [hx.key] at rx
    refine in_dK (by omega) (.inl ⟨rfl, rfl⟩) pn s σ H _ _ v u Q I rx ry ⟨a, kvs, k, rfl, h1, rfl, ?_⟩
    have g := r1.get k
    cases e : kvGet ds (kD k) with
    | none => rw [e] at g q; rw [show valV kvs k = none from g]; exact q
    | some d => rw [e] at g q; obtain ⟨w, g, _⟩ := g; rw [g]; exact q
  | str z =>
    cases dx <;> simp only [cop, cmpInt] at e <;> try cases e
    rw [hx.str_inv] at rx; rw [hy.str_inv] at ry
    exact op_in_str pn s σ H _ _ v u Q I rx ry ⟨_, _, rfl, rfl, q⟩
  | _ => cases dx <;> simp only [cop, cmpInt] at e <;> cases e
theorem opr_notin (hu : X.A.units + 65 < cLine) : OpR X (compareOp .NotIn) (rC X.K (cop .notin)) := by
  intro pn s σ H x y v u Q I rx ry h
  obtain ⟨F, dx, dy, b, sub, hx, hy, e, q⟩ := h
  cases dy with
  | tuple ds =>
    have e : (isin dx ds).map (!·) = some b := by cases dx <;> exact e
    unfold isin at e
    split at e <;> cases e
    rename_i hs
    rw [Bool.and_eq_true] at hs
    have ht : SeqAt.shaped (.tuple ds) = true := hs.2
    obtain ⟨as, r1⟩ := Dp.reads I dx x v (hx.dp sub (SeqAt.canLay_of_shaped hs.1)) rx
    obtain ⟨bs, r2⟩ := Dp.reads I (.tuple ds) y u (hy.dp sub (SeqAt.canLay_of_shaped ht)) ry
    exact SeqAt.notIn_tuple_reads r2 r1 (SeqAt.canLay_of_shaped hs.2) (SeqAt.canLay_of_shaped hs.1) (room_in_shaped hs.1 hu) ⟨.bl _, H, I, rfl, q⟩
  | list ds =>
    have e : (isin dx ds).map (!·) = some b := by cases dx <;> exact e
    unfold isin at e
    split at e <;> cases e
    rename_i hs
    rw [Bool.and_eq_true] at hs
    exact op_notInD hu pn s σ H _ _ v u Q I rx ry ⟨dx, ds, hx.dp sub (SeqAt.canLay_of_shaped hs.1), hy.dp sub (SeqAt.canLay_of_shaped hs.2), hs.1, hs.2, q⟩
  | dict ds =>
    have e : (if kindOk ds dx then some (!(kvGet ds dx).isSome) else none) = some b := by cases dx <;> exact e
    split at e <;> cases e
    rename_i hk
    obtain ⟨a, kvs, rfl, h1, l1, r1⟩ := hy.dct_inv
    have kk : keyOk dx = true := by
      simp only [kindOk, Bool.and_eq_true] at hk
      exact hk.1
    obtain ⟨k, rfl⟩ := keyOk_kD kk
    rw [hx.key] at rx
    refine in_dK (by omega) (.inr ⟨rfl, rfl⟩) pn s σ H _ _ v u Q I rx ry ⟨a, kvs, k, rfl, h1, rfl, ?_⟩
    have g := r1.get k
    cases e : kvGet ds (kD k) with
    | none => rw [e] at g q; rw [show valV kvs k = none from g]; exact q
    | some d => rw [e] at g q; obtain ⟨w, g, _⟩ := g; rw [g]; exact q
  | str z =>
    cases dx <;> simp only [cop, cmpInt] at e <;> try cases e
    rw [hx.str_inv] at rx; rw [hy.str_inv] at ry
    exact op_notin_str pn s σ H _ _ v u Q I rx ry ⟨_, _, rfl, rfl, q⟩
  | _ => cases dx <;> simp only [cop, cmpInt] at e <;> cases e
def cmpOf : Cop → CmpOp
  | .eq => .Eq | .ne => .NotEq | .lt => .Lt | .le => .LtE | .gt => .Gt | .ge => .GtE | .isin => .In | .notin => .NotIn | .is => .Is | .isnt => .IsNot
theorem opr_c (op : Cop) (hu : X.A.units + 65 < cLine) : OpR X (compareOp (cmpOf op)) (rC X.K (cop op)) := by
  cases op
  · exact opr_eq (by omega)
  · exact opr_ne (by omega)
  · exact opr_lt
  · exact opr_le
  · exact opr_gt
  · exact opr_ge
  · exact opr_in hu
  · exact opr_notin hu
  · exact opr_is
  · exact opr_isnt
end
end MI

set_option maxRecDepth 100000
/-! MI4: built-in functions, types, methods; subscripts, slices. -/
namespace MI
open L2 PySem PyProof.Rows PySem.Spec

/-- a call of a built-in with one operand that is looked at; with values -/
def r1 (K : PySem.W.Frag) (f : List D → Option O) : List V → Hp → VK → Prop := fun vs H Q => ∃ F v x o, vs = [v] ∧ Sub F H ∧ RV K F H v x ∧ f [x] = some o ∧ NewV K F H o Q
def rs (K : PySem.W.Frag) (f : List D → Option O) : List V → Hp → VK → Prop := fun vs H Q => ∃ F xs o, Sub F H ∧ RDs K F vs xs ∧ f xs = some o ∧ NewV K F H o Q
theorem blt_new {b : Blt} {xs : List D} {o : O} (h : blt b xs = some o) : canNew o = true := by
  unfold blt at h
  split at h
  all_goals first
    | (cases h; rfl)
    | (split at h <;> first | (cases h; rfl) | cases h)
    | (simp only [Option.map_eq_some_iff, Option.bind_eq_some_iff] at h
       obtain ⟨_, _, h⟩ := h
       first
         | (subst h; rfl)
         | (obtain ⟨_, _, h⟩ := h; first | (subst h; rfl) | (obtain ⟨_, _, h⟩ := h; subst h; rfl))
         | (split at h <;> first | (cases h; rfl) | cases h))
    | cases h
section
variable {r : Rd} {X : Ctx} {Y : Cx} {a : Expr} {ma : E} {p pos : Pos}
theorem one_E {b : Blt} {σ : St} {H : Hp} {Q : VK} (q : tE r X (.blt b ma) σ H Q) : tCons (tB r X ma) tNil σ H fun vs H1 => r1 r.K (blt b) vs H1 Q := by
  obtain ⟨F, Γ, fps, g, q⟩ := q
  have q : Ev r F H fps σ ((opB ma Γ (evE X ma Γ)).bind fun p Γ => (rdB p Γ).bind fun x Γ => optR (blt b [x]) Γ) _ := q
  refine ⟨F, Γ, fps, g, Ev.imp q.bind fun p Γ1 F1 H1 fps1 s1 g1 k v bv => ?_⟩
  obtain ⟨x, Γ3, F3, fps3, s3, g3, rx, k⟩ := rdB_ok g1 bv k.bind
  cases e : blt b [x] with
  | none => rw [e] at k; exact k.elim
  | some o =>
    rw [e] at k
    exact ⟨F3, v, x, o, rfl, g3.sub, rx, e, newV_of (s1.trans s3) g3 (blt_new e) k⟩
theorem pe_blt1B {b : Blt} {x : Str} {id : String} (hc : CallR Y (.builtin id) (r1 r.K (blt b))) (hg : Gl Y x) (hm : Y.mg x = none) (hv : bootBuiltins x = some (.builtin id)) (ha : PE Y a (tB r X ma))
    (hn : x ≠ "__name__") (hdb : (x == ("__debug__" : Str)) = false) (hs : starEach [a] Y.env = (false, eval a Y.env) :: starEach [] Y.env) : PE Y (.Call (.Name x p) [a] [] pos) (tE r X (.blt b ma)) :=
  (pe_callB hc hg hm hv (pa_cons ha pa_nil hs) hn hdb hs (by rfl)).imp fun σ H Q q => one_E q
theorem pe_blt1T {b : Blt} {x : Str} {id : String} (hc : CallR Y (.type id) (r1 r.K (blt b))) (hg : Gl Y x) (hm : Y.mg x = none) (hv : bootBuiltins x = some (.type id)) (ha : PE Y a (tB r X ma))
    (hn : x ≠ "__name__") (hdb : (x == ("__debug__" : Str)) = false) (hs : starEach [a] Y.env = (false, eval a Y.env) :: starEach [] Y.env) : PE Y (.Call (.Name x p) [a] [] pos) (tE r X (.blt b ma)) :=
  (pe_callTy hc hg hm hv (pa_cons ha pa_nil hs) hn hdb hs (by rfl)).imp fun σ H Q q => one_E q
end

section
variable {X : Cx}
theorem RV.sqL {K : PySem.W.Frag} {F H : Hp} {v : V} {xs : List D} (h : RV K F H v (.list xs)) : ∃ a vs, v = .ref a ∧ SqL K H a vs ∧ vs.length ≤ sizeLine ∧ RDs K F vs xs := by
  obtain ⟨a, vs, e, h, l, r⟩ := h.lst_inv
  exact ⟨a, vs, e, .inl (.inl h), l, r⟩
theorem cr_len : CallR X (.builtin "len") (r1 X.K (blt .len)) := by
  intro pn s σ H xs us Q I rv h
  obtain ⟨F, v, x, o, rfl, sub, hx, e, nv⟩ := h
  cases x <;> simp only [blt] at e <;> try cases e
  · split at e <;> cases e
    rename_i hl
    rw [hx.str_inv] at rv
    exact call_len_str pn s σ H _ us Q I rv ⟨_, rfl, by rw [← lim_eq]; exact hl, nv.1 _ (.int _)⟩
  · obtain ⟨a, vs, rfl, h1, l1, r1⟩ := hx.lst_inv
    refine call_len_seq pn s σ H _ us Q I rv ⟨a, vs, rfl, .inl (.inl (.inl h1)), ?_⟩
    rw [r1.length]
    exact nv.1 _ (.int _)
  · obtain ⟨a, vs, rfl, h1, l1, r1⟩ := hx.tup_inv
    refine call_len_seq pn s σ H _ us Q I rv ⟨a, vs, rfl, .inr (sub.sqT h1.sq), ?_⟩
    rw [r1.length]
    exact nv.1 _ (.int _)
  · split at e <;> cases e
    obtain ⟨a, kvs, rfl, h1, l1, r1⟩ := hx.dct_inv
    obtain ⟨u, rfl, ru⟩ := vals1 rv
    cases ru
    refine d_len I (.inl h1) fun t s' I' => ⟨.int _, H, I', ⟨_, rfl⟩, ?_⟩
    rw [r1.length]
    exact nv.1 _ (.int _)
theorem cr_all' (hc : X.calm = true) : CallR X (.builtin "all") (r1 X.K (blt .all)) := by
  intro pn s σ H xs us Q I rv h
  obtain ⟨F, v, x, o, rfl, sub, hx, e, nv⟩ := h
  cases x <;> simp only [blt] at e <;> try cases e
  simp only [Option.map_eq_some_iff] at e
  obtain ⟨bs, e1, rfl⟩ := e
  obtain ⟨a, vs, rfl, h1, l1, r1⟩ := hx.sqL
  rw [r1.boolsOf e1] at h1
  exact cr_all hc pn s σ H _ us Q I rv ⟨a, bs, rfl, h1, nv.1 _ (.bl _)⟩
theorem cr_any' (hc : X.calm = true) : CallR X (.builtin "any") (r1 X.K (blt .any)) := by
  intro pn s σ H xs us Q I rv h
  obtain ⟨F, v, x, o, rfl, sub, hx, e, nv⟩ := h
  cases x <;> simp only [blt] at e <;> try cases e
  simp only [Option.map_eq_some_iff] at e
  obtain ⟨bs, e1, rfl⟩ := e
  obtain ⟨a, vs, rfl, h1, l1, r1⟩ := hx.sqL
  rw [r1.boolsOf e1] at h1
  exact cr_any hc pn s σ H _ us Q I rv ⟨a, bs, rfl, h1, nv.1 _ (.bl _)⟩
theorem cr_tuple : CallR X (.type "tuple") (r1 X.K (blt .tuple)) := by
  intro pn s σ H xs us Q I rv h
  obtain ⟨F, v, x, o, rfl, sub, hx, e, nv⟩ := h
  cases x <;> simp only [blt, items, Option.map_some, Option.map_none] at e <;> try cases e
  · obtain ⟨a, vs, rfl, h1, l1, r1⟩ := hx.lst_inv
    exact call_tupN pn s σ H _ us Q I rv ⟨a, vs, rfl, .inl ⟨.inl (.inl h1), fun l u hl hn => nv.tup hl hn l1 sub r1⟩⟩
  · obtain ⟨a, vs, rfl, h1, l1, r1⟩ := hx.tup_inv
    exact call_tupN pn s σ H _ us Q I rv ⟨a, vs, rfl, .inr ⟨sub.sqT h1.sq, nv.1 _ (.tup h1 l1 r1)⟩⟩
theorem cr_list : CallR X (.type "list") (r1 X.K (blt .list)) := by
  intro pn s σ H xs us Q I rv h
  obtain ⟨F, v, x, o, rfl, sub, hx, e, nv⟩ := h
  cases x <;> simp only [blt, items, Option.map_some, Option.map_none] at e <;> try cases e
  · obtain ⟨a, vs, rfl, h1, l1, r1⟩ := hx.lst_inv
    exact call_list_of pn s σ H _ us Q I rv ⟨a, vs, rfl, .inl (.inl (.inl h1)), fun l hl => nv l vs hl l1 r1⟩
  · obtain ⟨a, vs, rfl, h1, l1, r1⟩ := hx.tup_inv
    exact call_list_of pn s σ H _ us Q I rv ⟨a, vs, rfl, .inr (sub.sqT h1.sq), fun l hl => nv l vs hl l1 r1⟩
theorem cr_int : CallR X (.type "int") (r1 X.K (blt .int)) := by
  intro pn s σ H xs us Q I rv h
  obtain ⟨F, v, x, o, rfl, sub, hx, e, nv⟩ := h
  cases x <;> simp only [blt] at e <;> try cases e
  · rw [hx.bl_inv] at rv
    exact call_int1 pn s σ H _ us Q I rv (.inr ⟨_, rfl, nv.1 _ (.int _)⟩)
  · rw [hx.int_inv] at rv
    exact call_int1 pn s σ H _ us Q I rv (.inl ⟨_, rfl, nv.1 _ (.int _)⟩)
theorem cr_str : CallR X (.type "str") (r1 X.K (blt .str)) := by
  intro pn s σ H xs us Q I rv h
  obtain ⟨F, v, x, o, rfl, sub, hx, e, nv⟩ := h
  cases x <;> simp only [blt] at e <;> try cases e
  · split at e <;> cases e
    rw [hx.int_inv] at rv
    rename_i hl
    exact call_str_int pn s σ H _ us Q I rv ⟨_, rfl, hl, nv.1 _ (.str _)⟩
  · rw [hx.str_inv] at rv
    obtain ⟨u, rfl, t, rfl⟩ := vals1 rv
    exact PySem.P.str_of_str ⟨.str _, H, I, ⟨_, rfl⟩, nv.1 _ (.str _)⟩
theorem depth_of {d : D} (h : SeqAt.shaped d = true) : d.depth ≤ 64 := SeqAt.depth_of_shaped h
theorem cr_repr (hg : X.A.guards = some []) (hu : X.A.units + 70 < cLine) : CallR X (.builtin "repr") (r1 X.K (blt .repr)) := by
  intro pn s σ H xs us Q I rv h
  obtain ⟨F, v, x, o, rfl, sub, hx, e, nv⟩ := h
  have e : (if showOk x then some (O.d (.str x.shown)) else none) = some o := by cases x <;> exact e
  split at e <;> cases e
  rename_i hs
  simp only [showOk, Bool.and_eq_true, decide_eq_true_eq] at hs
  obtain ⟨⟨h1, h2⟩, h3⟩ := hs
  rw [lim_eq] at h2
  obtain ⟨u, rfl, ru⟩ := vals1 rv
  obtain ⟨as, rd⟩ := Dp.reads I x v u (hx.dp sub (SeqAt.canLay_of_shaped h3)) ru
  have hd := depth_of h3
  have done : ∀ h' (t : Tok) tk, (∀ b ob, s.heap.get? b = some ob → h'.get? b = some ob) → EP X pn σ Q (.str x.shown t) { s with heap := h', toks := tk } := fun h' t tk hk =>
    ⟨.str x.shown, H, I.kept hk, ⟨t, rfl⟩, nv.1 _ (.str _)⟩
  cases hx with
  | non => cases ru; exact PySem.P.repr_of_none (done s.heap _ _ fun _ _ e => e)
  | bl b => cases ru; exact PySem.P.repr_of_bool (by have := done s.heap s.toks (s.toks + 1) fun _ _ e => e; cases b <;> exact this)
  | int i =>
    obtain ⟨t, rfl⟩ := ru
    exact PySem.P.repr_of_int (by simpa [PyData.showable] using h1) (done s.heap _ _ fun _ _ e => e)
  | str z =>
    obtain ⟨t, rfl⟩ := ru
    exact PySem.P.repr_of_str (done s.heap _ _ fun _ _ e => e) h2
  | _ =>
    cases ru
    exact repr_of_reads' rd h1 (fun h => by rw [PyData.hasDict_of_canLay _ (SeqAt.canLay_of_shaped h3)] at h; cases h) hg (by omega) (fun _ _ e => e) (fun h' u tk hk => done h' u tk hk) h2
end
end MI

set_option maxRecDepth 100000
/-! MI5: max, min, sum, sorted; isinstance; subscripts, slices. -/
namespace MI
open L2 PySem PyProof.Rows PySem.Spec
section
variable {X : Cx}
theorem max_ns {ns : List Int} {m m' : Int} (h : ns.max? = some m) (h1 : m' ∈ ns) (h2 : ∀ y ∈ ns, y ≤ m') : m' = m := by
  rw [List.max?_eq_some_iff] at h
  have := h.2 m' h1
  have := h2 m h.1
  omega
theorem min_ns {ns : List Int} {m m' : Int} (h : ns.min? = some m) (h1 : m' ∈ ns) (h2 : ∀ y ∈ ns, m' ≤ y) : m' = m := by
  rw [List.min?_eq_some_iff] at h
  have := h.2 m' h1
  have := h2 m h.1
  omega
theorem cr_max' (hc : X.calm = true) : CallR X (.builtin "max") (r1 X.K (blt .max1)) := by
  intro pn s σ H xs us Q I rv h
  obtain ⟨F, v, x, o, rfl, sub, hx, e, nv⟩ := h
  cases x <;> simp only [blt] at e <;> try cases e
  simp only [Option.bind_eq_some_iff, Option.map_eq_some_iff] at e
  obtain ⟨ns, e1, m, e2, rfl⟩ := e
  obtain ⟨a, vs, rfl, h1, l1, r1⟩ := hx.sqL
  obtain ⟨rfl, _⟩ := r1.intsOf e1
  refine cr_max hc pn s σ H _ us Q I rv ⟨a, ns, rfl, h1, ?_, fun m' k1 k2 => ?_⟩
  · cases ns with
    | nil => cases e2
    | cons _ _ => simp
  · rw [max_ns e2 k1 k2]
    exact nv.1 _ (.int _)
theorem cr_min' (hc : X.calm = true) : CallR X (.builtin "min") (r1 X.K (blt .min1)) := by
  intro pn s σ H xs us Q I rv h
  obtain ⟨F, v, x, o, rfl, sub, hx, e, nv⟩ := h
  cases x <;> simp only [blt] at e <;> try cases e
  simp only [Option.bind_eq_some_iff, Option.map_eq_some_iff] at e
  obtain ⟨ns, e1, m, e2, rfl⟩ := e
  obtain ⟨a, vs, rfl, h1, l1, r1⟩ := hx.sqL
  obtain ⟨rfl, _⟩ := r1.intsOf e1
  refine cr_min hc pn s σ H _ us Q I rv ⟨a, ns, rfl, h1, ?_, fun m' k1 k2 => ?_⟩
  · cases ns with
    | nil => cases e2
    | cons _ _ => simp
  · rw [min_ns e2 k1 k2]
    exact nv.1 _ (.int _)
theorem cr_sum' (hc : X.calm = true) : CallR X (.builtin "sum") (r1 X.K (blt .sum)) := by
  intro pn s σ H xs us Q I rv h
  obtain ⟨F, v, x, o, rfl, sub, hx, e, nv⟩ := h
  cases x <;> simp only [blt] at e <;> try cases e
  simp only [Option.map_eq_some_iff] at e
  obtain ⟨ns, e1, rfl⟩ := e
  obtain ⟨a, vs, rfl, h1, l1, r1⟩ := hx.sqL
  obtain ⟨rfl, _⟩ := r1.intsOf e1
  exact cr_sum hc pn s σ H _ us Q I rv ⟨a, ns, rfl, h1, nv.1 _ (.int _)⟩
theorem sortI_eq {ns ns' : List Int} (h1 : ns'.Perm ns) (h2 : ns'.Pairwise (· ≤ ·)) : ns' = ns.mergeSort leI := by
  refine PySem.W.ksm_same (h1.trans (List.mergeSort_perm ns leI).symm) h2 ?_
  have := List.pairwise_mergeSort (le := leI) (fun a b c h1 h2 => by simp only [leI, decide_eq_true_eq] at *; omega) (fun a b => by simp only [leI, Bool.or_eq_true, decide_eq_true_eq]; omega) ns
  exact this.imp fun h => by simpa [leI] using h
/-- max, min of two -/
theorem blt_max2 {xs : List D} {o : O} (h : blt .max2 xs = some o) : ∃ i j, xs = [.int i, .int j] ∧ o = .d (.int (if j > i then j else i)) := by
  rcases xs with _ | ⟨x, _ | ⟨y, _ | ⟨z, t⟩⟩⟩
  · cases h
  · cases x <;> cases h
  · cases x <;> cases y <;> cases h
    exact ⟨_, _, rfl, rfl⟩
  · cases x <;> cases y <;> cases h
theorem blt_min2 {xs : List D} {o : O} (h : blt .min2 xs = some o) : ∃ i j, xs = [.int i, .int j] ∧ o = .d (.int (if j < i then j else i)) := by
  rcases xs with _ | ⟨x, _ | ⟨y, _ | ⟨z, t⟩⟩⟩
  · cases h
  · cases x <;> cases h
  · cases x <;> cases y <;> cases h
    exact ⟨_, _, rfl, rfl⟩
  · cases x <;> cases y <;> cases h
theorem cr_max2 (hc : X.calm = true) : CallR X (.builtin "max") (rs X.K (blt .max2)) := by
  intro pn s σ H xs us Q I rv h
  obtain ⟨F, xs, o, sub, hx, e, nv⟩ := h
  obtain ⟨i, j, rfl, rfl⟩ := blt_max2 e
  cases hx with
  | cons h1 t => cases t with
    | cons h2 t =>
      cases t
      rw [h1.int_inv, h2.int_inv] at rv
      exact call_max2 hc pn s σ H _ us Q I rv ⟨_, _, rfl, nv.1 _ (.int _)⟩
theorem cr_min2 (hc : X.calm = true) : CallR X (.builtin "min") (rs X.K (blt .min2)) := by
  intro pn s σ H xs us Q I rv h
  obtain ⟨F, xs, o, sub, hx, e, nv⟩ := h
  obtain ⟨i, j, rfl, rfl⟩ := blt_min2 e
  cases hx with
  | cons h1 t => cases t with
    | cons h2 t =>
      cases t
      rw [h1.int_inv, h2.int_inv] at rv
      exact call_min2 hc pn s σ H _ us Q I rv ⟨_, _, rfl, nv.1 _ (.int _)⟩
end
end MI

set_option maxRecDepth 100000
/-! MI6: isinstance, subscripts, slices. -/
namespace MI
open L2 PySem PyProof.Rows PySem.Spec
/-! ### isinstance -/
section
variable {X : Cx}
def tyN : D → String
  | .tuple _ => "tuple" | .dict _ => "dict" | .list _ => "list"
  | .int _ => "int" | .bool _ => "bool" | .str _ => "str"
  | .none => "NoneType"
def tyS : Ty → String
  | .int => "int" | .bool => "bool" | .str => "str" | .tuple => "tuple" | .list => "list" | .dict => "dict"
theorem kit_is (ty : Ty) (x : D) : kitB (tyN x) (tyS ty) = isTy ty x := by
  cases ty <;> cases x <;> (simp only [tyN, tyS, isTy]; decide +kernel)
theorem RV.tyX {K : PySem.W.Frag} {F H : Hp} {v : V} {x : D} (sub : Sub F H) (h : RV K F H v x) : TyX K H v (.type (tyN x)) := by
  cases h with
  | non => exact .base .non
  | bl b => exact .base (.bl b)
  | int i => exact .base (.int i)
  | str z => exact .base (.str z)
  | lst h _ _ => exact .base (.lst h)
  | tup h _ _ =>
    rcases h with ⟨u, h, o, rfl, _⟩ | ⟨o, _, _, h1, h2, _⟩
    · exact .fTuple (sub _ _ h)
    · exact .kTuple h1 h2
  | dct h _ _ => exact .base (.dK h)
end
section
variable {r : Rd} {X : Ctx} {Y : Cx} {a b : Expr} {ma mb : E} {p p2 pos : Pos}
theorem pe_isiE {ty : Ty} {x : Str} (hg : Gl Y "isinstance") (hm : Y.mg "isinstance" = none) (hgT : Gl Y x) (hmT : Y.mg x = none) (hvT : bootBuiltins x = some (.type (tyS ty))) (ha : PE Y a (tB r X ma)) (hK : r.K = Y.K)
    (hn : x ≠ "__name__") (hdb : (x == ("__debug__" : Str)) = false) (hs : starEach [a, .Name x p2] Y.env = (false, eval a Y.env) :: starEach [.Name x p2] Y.env) : PE Y (.Call (.Name "isinstance" p) [a, .Name x p2] [] pos) (tE r X (.isi ma ty)) := by
  have hT : PE Y (.Name x p2) (tC (.ty (tyS ty))) := pe_bltn (v := .ty (tyS ty)) hgT hmT hvT rfl hn hdb
  refine (pe_callB call_isi hg hm (by decide +kernel) (pa_cons ha (pa_cons hT pa_nil (by rfl)) hs) (by decide) (by decide) hs (by rfl)).imp fun σ H Q ⟨F, Γ, fps, g, q⟩ => ⟨F, Γ, fps, g, ?_⟩
  have q : Ev r F H fps σ ((opB ma Γ (evE X ma Γ)).bind fun p Γ => (rdB p Γ).bind fun x Γ => (optR (isTy ty x) Γ).bind fun r Γ => .ok (O.d (.bool r)) Γ) _ := q
  refine Ev.imp q.bind fun p Γ1 F1 H1 fps1 s1 g1 k v bv => ?_
  obtain ⟨x, Γ3, F3, fps3, s3, g3, rx, k⟩ := rdB_ok g1 bv k.bind
  obtain ⟨b, e, k⟩ := k.bind.opt g3
  show rIsi Y.K [v, .ty (tyS ty)] H1 Q
  rw [← hK]
  exact ⟨v, .ty (tyS ty), _, _, b, rfl, .ty _, rx.tyX g3.sub, kit_ty (by rw [kit_is, e]), (k.ok g3) _ [] (Tmp.data (.bl _))⟩

/-! ### subscripts -/
theorem nix_eq (n : Nat) (i : Int) : nix n i = ixN n i := rfl
theorem at_eq {α : Type} (xs : List α) (i : Int) : at? xs i = atI xs i := rfl
theorem at_rds {K : PySem.W.Frag} {F : Hp} {vs : List V} {xs : List D} {i : Int} {x : D} (h : RDs K F vs xs) (e : at? xs i = some x) : ∃ v, atI vs i = some v ∧ RD K F v x := by
  unfold at? at e
  rw [Option.bind_eq_some_iff] at e
  obtain ⟨j, e1, e2⟩ := e
  obtain ⟨v, e3, hv⟩ := h.get e2
  refine ⟨v, ?_, hv⟩
  unfold atI
  rw [h.length, ← nix_eq, e1]
  exact e3
theorem ix_dK (hu : Y.A.units + 1 < cLine) : IxR Y (fun x y H Q => ∃ a kvs k v, x = .ref a ∧ y = kV k ∧ H a = some (.dK kvs) ∧ valV kvs k = some v ∧ Q v H) := by
  intro value slice pn s σ H x y v u Q I rx ry h hs
  obtain ⟨a, kvs, k, w, rfl, rfl, ha, hv, q⟩ := h
  cases rx
  have gd : DGet H a (kV k) (some w) := by rw [← hv]; exact DGet.k ha
  refine tail_any (ops := [.ref a, u]) (dict_typeIs I gd) PySem.F.slot_dict_getitem.lookup ?_ hs
  exact d_getItem hu I gd ry fun w' s3 I3 rw' => ⟨w, H, I3, rw', q⟩
def rIdx (K : PySem.W.Frag) : R2 := fun x y H Q => ∃ F dx dy z, Sub F H ∧ RV K F H x dx ∧ RD K F y dy ∧ idxD dx dy = some z ∧ ∀ v, RD K F v z → Q v H
theorem ix_D (hu : Y.A.units + 1 < cLine) : IxR Y (rIdx Y.K) := by
  intro value slice pn s σ H x y v u Q I rx ry h hs
  obtain ⟨F, dx, dy, z, sub, hx, hy, e, q⟩ := h
  cases dx with
  | list xs =>
    cases dy <;> simp only [idxD] at e <;> try cases e
    obtain ⟨a, vs, rfl, h1, l1, r1⟩ := hx.lst_inv
    obtain ⟨w, e1, hw⟩ := at_rds r1 e
    rw [hy.int_inv] at ry
    exact ix_list value slice pn s σ H _ _ v u Q I rx ry ⟨a, vs, _, w, rfl, rfl, .inl (.inl h1), e1, q w hw⟩ hs
  | tuple xs =>
    cases dy <;> simp only [idxD] at e <;> try cases e
    obtain ⟨a, vs, rfl, h1, l1, r1⟩ := hx.tup_inv
    obtain ⟨w, e1, hw⟩ := at_rds r1 e
    rw [hy.int_inv] at ry
    exact ix_tup value slice pn s σ H _ _ v u Q I rx ry ⟨a, vs, _, w, rfl, rfl, sub.sqT h1.sq, e1, q w hw⟩ hs
  | str z =>
    cases dy <;> simp only [idxD] at e <;> try cases e
    split at e
    · rename_i hl
      rw [Option.map_eq_some_iff] at e
      obtain ⟨c, e1, rfl⟩ := e
      rw [hx.str_inv] at rx
      rw [hy.int_inv] at ry
      exact ix_str value slice pn s σ H _ _ v u Q I rx ry ⟨_, _, c, rfl, rfl, by rw [← lim_eq]; exact hl, e1, q _ (.str _)⟩ hs
    · cases e
  | dict ds =>
    have e : (if kindOk ds dy then kvGet ds dy else none) = some z := by cases dy <;> exact e
    split at e
    · rename_i hk
      obtain ⟨a, kvs, rfl, h1, l1, r1⟩ := hx.dct_inv
      have kk : keyOk dy = true := by simp only [kindOk, Bool.and_eq_true] at hk; exact hk.1
      obtain ⟨k, rfl⟩ := keyOk_kD kk
      rw [hy.key] at ry
      have gk := r1.get k
      rw [e] at gk
      obtain ⟨w, gw, hw⟩ := gk
      exact ix_dK hu value slice pn s σ H _ _ v u Q I rx ry ⟨a, kvs, k, w, rfl, rfl, h1, gw, q w hw⟩ hs
    · cases e
  | _ => cases dy <;> simp only [idxD] at e <;> cases e
theorem pe_idxE (hu : Y.A.units + 1 < cLine) (hK : r.K = Y.K) (ha : PE Y a (tB r X ma)) (hb : PE Y b (tD r X mb)) (hs : PlainIx b) : PE Y (.Subscript a b pos) (tE r X (.idx ma mb)) :=
  (pe_ix (ix_D hu) ha hb hs).imp fun σ H Q ⟨F, Γ, fps, g, q⟩ => ⟨F, Γ, fps, g, by
    have q : Ev r F H fps σ ((opB ma Γ (evE X ma Γ)).bind fun p Γ => (evE X mb Γ).toD.bind fun j Γ => (rdB p Γ).bind fun x Γ => (optR (idxD x j) Γ).bind fun y Γ => .ok (O.d y) Γ) _ := q
    refine Ev.imp q.bind fun p Γ1 F1 H1 fps1 s1 g1 k v bv => ⟨F1, Γ1, fps1, g1, ?_⟩
    refine Ev.imp k.bind fun j Γ2 F2 H2 fps2 s2 g2 k w rw' => ?_
    have bv : BR r.K F2 σ p v := by
      cases p with
      | v x => exact RD.mono s2.sub bv
      | sl i => exact bv
    obtain ⟨x, Γ3, F3, fps3, s3, g3, rx, k⟩ := rdB_ok g2 bv k.bind
    obtain ⟨y, e, k⟩ := k.bind.opt g3
    rw [← hK]
    exact ⟨F3, x, j, y, g3.sub, rx, rw'.mono s3.sub, e, fun z hz => (k.ok g3) z [] (Tmp.data hz)⟩⟩

/-! ### slices -/
theorem six_eq (n d : Nat) (o : Option Int) (hd : d ≤ n) : six n d o = HT.sIx n d o := by
  cases o with
  | none => rfl
  | some v =>
    have e := HT.clip_eq v n d
    unfold six
    simp only
    rw [e]
    simp
theorem cut_eq (xs : List V) (lo hi : Option Int) : cut xs lo hi = cutV xs lo hi := by
  unfold cut cutV
  rw [six_eq _ _ _ (Nat.zero_le _), six_eq _ _ _ (Nat.le_refl _)]
theorem RDs.cut {K : PySem.W.Frag} {F : Hp} {vs : List V} {xs : List D} (h : RDs K F vs xs) (lo hi : Option Int) : RDs K F (cutV vs lo hi) (MI.cut xs lo hi) := by
  rw [← cut_eq]
  unfold MI.cut
  rw [h.length]
  exact (h.drop _).take _
def rSl (K : PySem.W.Frag) : V → Option Int → Option Int → Hp → VK → Prop := fun x lo hi H Q => ∃ F dx o, Sub F H ∧ RV K F H x dx ∧ slD dx lo hi = some o ∧ NewV K F H o Q
theorem sl_D : SlR Y (rSl Y.K) := by
  intro pn s σ H x v vl vu lo hi sl Q I rx hs pl pu h
  obtain ⟨F, dx, o, sub, hx, e, nv⟩ := h
  cases dx <;> simp only [slD] at e <;> try cases e
  · obtain ⟨a, vs, rfl, h1, l1, r1⟩ := hx.lst_inv
    exact sl_list pn s σ H _ v vl vu lo hi sl Q I rx hs pl pu ⟨a, vs, rfl, .inl (.inl h1), fun p hp => nv p _ hp (Nat.le_trans (cutV_length _ _ _) l1) (r1.cut lo hi)⟩
  · obtain ⟨a, vs, rfl, h1, l1, r1⟩ := hx.tup_inv
    refine sl_tupN pn s σ H _ v vl vu lo hi sl Q I rx hs pl pu ⟨a, vs, rfl, sub.sqT h1.sq, fun hw => ?_, fun _ p u hp hn => nv.tup hp hn (Nat.le_trans (cutV_length _ _ _) l1) sub (r1.cut lo hi)⟩
    have ew : cutV vs lo hi = vs := by
      unfold cutV
      rw [hw.1, hw.2]
      simp
    have r2 := r1.cut lo hi
    rw [ew] at r2
    exact nv.1 _ (.tup h1 l1 r2)
/-- a bound of a slice -/
def tO (r : Rd) (X : Ctx) (m : E) : TO := fun σ H Q => ∃ F Γ fps, Good r.K F H σ Γ fps ∧ Ev r F H fps σ ((evE X m Γ).toD.bind fun x Γ => optR (asInt x) Γ) fun i _ _ H' _ => Q (some i) H'
theorem po_D (h : PE Y a (tE r X ma)) : PO Y (some a) (tO r X ma) := by
  have := po_some (pe_D h)
  refine ⟨fun pn s σ H Q I q => this.run pn s σ H Q I ?_⟩
  obtain ⟨F, Γ, fps, g, q⟩ := q
  refine ⟨F, Γ, fps, g, q.bind.imp fun x Γ1 F1 H1 fps1 s1 g1 k v hv => ?_⟩
  cases x <;> simp only [asInt] at k <;> try exact k.elim
  exact ⟨_, hv.int_inv, k.ok g1⟩
theorem slD_new {x : D} {lo hi : Option Int} {o : O} (h : slD x lo hi = some o) : canNew o = true := by cases x <;> cases h <;> rfl
theorem bind_assoc {α β γ : Type} (a : R α) (f : α → Env → R β) (h : β → Env → R γ) : (a.bind f).bind h = a.bind fun x Γ => (f x Γ).bind h := by cases a <;> rfl
theorem sl_fin {F0 H0 F H : Hp} {fps0 fps : Nat → List Addr} {σ : St} {Γ : Env} {p : B} {v : V} {lo hi : Option Int} {Q : VK} (hK : r.K = Y.K) (s : Step F0 H0 fps0 F H fps) (g : Good r.K F H σ Γ fps) (bv : BR r.K F σ p v)
    (k : Ev r F H fps σ ((rdB p Γ).bind fun x Γ => optR (slD x lo hi) Γ) fun o _ F' H' fps' => ∀ v fp, Tmp r.K F0 H0 fps0 F' H' fps' v o fp → Q v H') : rSl Y.K v lo hi H Q := by
  obtain ⟨x, Γ3, F3, fps3, s3, g3, rx, k⟩ := rdB_ok g bv k.bind
  cases e : slD x lo hi with
  | none => rw [e] at k; exact k.elim
  | some o =>
    rw [e] at k
    rw [← hK]
    exact ⟨F3, x, o, g3.sub, rx, e, newV_of (s.trans s3) g3 (slD_new e) k⟩
theorem BR.mono {K : PySem.W.Frag} {F F' : Hp} {σ : St} {p : B} {v : V} (s : Sub F F') (h : BR K F σ p v) : BR K F' σ p v := by
  cases p with
  | v x => exact RD.mono s h
  | sl i => exact h
theorem pe_slhE (hK : r.K = Y.K) (ha : PE Y a (tB r X ma)) (hb : PE Y b (tE r X mb)) : PE Y (.Subscript a (.Slice none (some b) none p2) pos) (tE r X (.slh ma mb)) :=
  (pe_slice sl_D ha po_none (po_D hb)).imp fun σ H Q ⟨F, Γ, fps, g, q⟩ => ⟨F, Γ, fps, g, by
    have q : Ev r F H fps σ ((opB ma Γ (evE X ma Γ)).bind fun p Γ => (evE X mb Γ).toD.bind fun h Γ => (optR (asInt h) Γ).bind fun h Γ => (rdB p Γ).bind fun x Γ => optR (slD x none (some h)) Γ) _ := q
    refine Ev.imp q.bind fun p Γ1 F1 H1 fps1 s1 g1 k v bv => ?_
    rw [← bind_assoc] at k
    exact ⟨F1, Γ1, fps1, g1, k.bind.imp fun i Γ2 F2 H2 fps2 s2 g2 k => sl_fin hK (s1.trans s2) g2 (bv.mono s2.sub) k⟩⟩
theorem pe_sllE (hK : r.K = Y.K) (ha : PE Y a (tB r X ma)) (hb : PE Y b (tE r X mb)) : PE Y (.Subscript a (.Slice (some b) none none p2) pos) (tE r X (.sll ma mb)) :=
  (pe_slice sl_D ha (po_D hb) po_none).imp fun σ H Q ⟨F, Γ, fps, g, q⟩ => ⟨F, Γ, fps, g, by
    have q : Ev r F H fps σ ((opB ma Γ (evE X ma Γ)).bind fun p Γ => (evE X mb Γ).toD.bind fun h Γ => (optR (asInt h) Γ).bind fun h Γ => (rdB p Γ).bind fun x Γ => optR (slD x (some h) none) Γ) _ := q
    refine Ev.imp q.bind fun p Γ1 F1 H1 fps1 s1 g1 k v bv => ?_
    rw [← bind_assoc] at k
    exact ⟨F1, Γ1, fps1, g1, k.bind.imp fun i Γ2 F2 H2 fps2 s2 g2 k => sl_fin hK (s1.trans s2) g2 (bv.mono s2.sub) k⟩⟩
variable {c : Expr} {mc : E}
theorem pe_slbE (hK : r.K = Y.K) (ha : PE Y a (tB r X ma)) (hb : PE Y b (tE r X mb)) (hc : PE Y c (tE r X mc)) : PE Y (.Subscript a (.Slice (some b) (some c) none p2) pos) (tE r X (.slb ma mb mc)) :=
  (pe_slice sl_D ha (po_D hb) (po_D hc)).imp fun σ H Q ⟨F, Γ, fps, g, q⟩ => ⟨F, Γ, fps, g, by
    have q : Ev r F H fps σ ((opB ma Γ (evE X ma Γ)).bind fun p Γ => (evE X mb Γ).toD.bind fun l Γ => (optR (asInt l) Γ).bind fun l Γ => (evE X mc Γ).toD.bind fun h Γ => (optR (asInt h) Γ).bind fun h Γ =>
      (rdB p Γ).bind fun x Γ => optR (slD x (some l) (some h)) Γ) _ := q
    refine Ev.imp q.bind fun p Γ1 F1 H1 fps1 s1 g1 k v bv => ?_
    rw [← bind_assoc] at k
    refine ⟨F1, Γ1, fps1, g1, k.bind.imp fun i Γ2 F2 H2 fps2 s2 g2 k => ?_⟩
    rw [← bind_assoc] at k
    exact ⟨F2, Γ2, fps2, g2, k.bind.imp fun j Γ3 F3 H3 fps3 s3 g3 k => sl_fin hK (s1.trans (s2.trans s3)) g3 (bv.mono (s2.sub.trans s3.sub)) k⟩⟩
/-- script[:n] -/
theorem pe_scutE {i : Nat} {n : Int} {x : Str} {pos' pc : Pos} {kk : Nat} (h : PE Y (.Name x pos') (tVar i)) (hK : r.K = Y.K) : PE Y (.Subscript (.Name x pos') (.Slice none (some (.Constant (.int n) kk pc)) none p2) pos) (tE r X (.scut i n)) :=
  (pe_slice sl_list h po_none (po_some pe_int)).imp fun σ H Q ⟨F, Γ, fps, g, q⟩ => by
    have q : Ev r F H fps σ (match Γ[i]? with
      | some (some (.s ns)) => .ok (O.l ((cut ns none (some n)).map .int)) Γ
      | _ => .bad) _ := q
    split at q
    · rename_i ns eo
      obtain ⟨v, ev, ro⟩ := g.env i _ eo
      obtain ⟨a, rfl, _, hs, hl0⟩ := ro.inv_s
      refine ⟨.ref a, ev, n, rfl, a, ns.map V.int, rfl, ?_, fun p hp => ?_⟩
      · rw [← hK]
        exact g.sub.sqL hs
      · have e1 : cutV (ns.map V.int) none (some n) = (cut ns none (some n)).map V.int := by
          rw [← cut_eq]
          unfold cut
          rw [List.length_map, List.map_take, List.map_drop]
        have hl : (cutV (ns.map V.int) none (some n)).length ≤ sizeLine := by
          refine Nat.le_trans (cutV_length _ _ _) ?_
          rw [List.length_map]; exact hl0
        exact q _ _ _ (Step.newO hp) (g.newO hp) _ [p] (Tmp.newL Step.refl g hp hl (by rw [e1]; exact RDs.ofInts _))
    · exact q.elim
end
end MI

set_option maxRecDepth 100000
/-! MI7: methods that change nothing. -/
namespace MI
open L2 PySem PyProof.Rows PySem.Spec

/-- how a method of a kind is called: the type's name, the built-in's -/
structure MId (T id : String) (name : Str) : Prop where
  pa : PlainAttrs T
  sl : Slot T name id
  ty : typeOf (.builtin id) = pure (.type "method_descriptor")
/-- v is of that kind, at the moment -/
def TyK (K : PySem.W.Frag) (H : Hp) (T : String) (v : V) : Prop := match v with
  | .str _ => T = "str"
  | .ref a => (T = "list" ∧ ∃ vs, H a = some (.lst vs)) ∨ (T = "tuple" ∧ ∃ vs, SqN K H a vs) ∨ (T = "dict" ∧ ∃ kvs, H a = some (.dK kvs))
  | _ => False
theorem TyK.is {X : Cx} {pn : List (Addr × Obj)} {σ : St} {H : Hp} {s : Shared} {T : String} {x : V} {v : Value} (I : Inv X pn σ H s) (r : RelV x v) (ty : TyK X.K H T x) :
    s.TypeIs v T ∧ ∀ l, v = .ref l → ∃ ob, s.heap.get? l = some ob ∧ ob.dict = none := by
  cases x with
  | str z => exact tyV_is I r (x := .str z) ty
  | ref p =>
    rcases ty with ⟨rfl, vs, h⟩ | ⟨rfl, vs, h⟩ | ⟨rfl, kvs, h⟩
    · exact tyV_is I r (x := .ref p) (.inl ⟨rfl, vs, .inl (.inl h)⟩)
    · cases r
      obtain ⟨o, h1, h2, h3⟩ := h.obj I
      refine ⟨⟨o, h1, h2⟩, fun a e => ?_⟩
      cases e
      exact ⟨o, h1, h3⟩
    · exact tyV_is I r (x := .ref p) (.inr (.inr (.inl ⟨rfl, .inl ⟨kvs, h⟩⟩)))
  | _ => exact ty.elim
def kdT : Kd → String
  | .lst => "list" | .tup => "tuple" | .dct => "dict" | .str => "str" | .other => ""
theorem RV.tyK {K : PySem.W.Frag} {F H : Hp} {v : V} {x : D} (sub : Sub F H) (h : RV K F H v x) (hk : kdOf x ≠ .other) : TyK K H (kdT (kdOf x)) v := by
  cases h with
  | str z => rfl
  | lst h _ _ => exact .inl ⟨rfl, _, h⟩
  | tup h _ _ => exact .inr (.inl ⟨rfl, _, sub.sqN h⟩)
  | dct h _ _ => exact .inr (.inr ⟨rfl, _, h⟩)
  | _ => exact absurd rfl hk
theorem kdB_ty {r : Rd} {F H : Hp} {σ : St} {Γ : Env} {fps : Nat → List Addr} {p : B} {v : V} (g : Good r.K F H σ Γ fps) (hb : BR r.K F σ p v) (hk : kdB p Γ ≠ .other) : TyK r.K H (kdT (kdB p Γ)) v := by
  cases p with
  | v x => exact (RD.rv g.sub hb).tyK g.sub hk
  | sl i =>
    have hb : σ[i]? = some (some v) := hb
    simp only [kdB] at hk ⊢
    split at hk
    all_goals first
      | exact absurd rfl hk
      | (rename_i eo
         obtain ⟨v', ev, ro⟩ := g.env i _ eo
         rw [hb] at ev
         cases ev
         first
           | exact (RD.rv g.sub ro.inv_d.2).tyK g.sub hk
           | (obtain ⟨a, vs, rfl, _, h1, _⟩ := ro.inv_l; exact .inl ⟨rfl, _, h1⟩)
           | (obtain ⟨a, vs, rfl, _, h1, _⟩ := ro.inv_k; exact .inr (.inr ⟨rfl, _, h1⟩))
           | (obtain ⟨a, vs, rfl, _, h1, _⟩ := ro.inv_ll; exact .inl ⟨rfl, _, h1⟩))
theorem Sub.tyK {K : PySem.W.Frag} {F H : Hp} {T : String} {v : V} (h : TyK K H T v) : TyK K H T v := h

/-- a method of data by its values -/
def rM (K : PySem.W.Frag) (m : Mth) : V → List V → Hp → VK → Prop := fun v vs H Q => ∃ F x xs o, Sub F H ∧ RV K F H v x ∧ RDs K F vs xs ∧ mth m x xs = some o ∧ NewV K F H o Q
/-- m, called by its name, on each kind that has it -/
structure MOk (Y : Cx) (name : Str) (m : Mth) (n : Nat) : Prop where
  ids : ∀ kd, m.on kd = true → ∃ id, MId (kdT kd) id name ∧ ∀ (pn : List (Addr × Obj)) (s : Shared) (σ : St) (H : Hp) (v : V) (vs : List V) (u : Value) (us : List Value) (Q : VK) (F : Hp) (x : D) (xs : List D) (o : O),
    Inv Y pn σ H s → RelV v u → Vals vs us → kdOf x = kd → Sub F H → RV Y.K F H v x → RDs Y.K F vs xs → mth m x xs = some o → NewV Y.K F H o Q →
    wpAny (model Y.prog Y.w) Y.A (call (.builtin id) (u :: us)) (EP Y pn σ Q) Y.xe s
theorem mth_new {m : Mth} {x : D} {xs : List D} {o : O} (h : mth m x xs = some o) : canNew o = true := by
  unfold mth at h
  split at h
  all_goals first
    | (cases h; rfl)
    | (split at h <;> first | (cases h; rfl) | cases h)
    | (simp only [Option.map_eq_some_iff, Option.bind_eq_some_iff] at h
       obtain ⟨_, _, h⟩ := h
       first
         | (subst h; rfl)
         | (split at h <;> first | (cases h; rfl) | cases h))
    | cases h
section
variable {r : Rd} {X : Ctx} {Y : Cx} {o e : Expr} {es : List Expr} {mo : E} {ms : Es} {name : Str} {apos cpos : Pos} {m : Mth}
theorem pe_mthE (hm : MOk Y name m ms.len) (hK : r.K = Y.K) (ho : PE Y o (tB r X mo)) (ha : PA Y (e :: es) (tDs r X ms)) (hbase : attributeBase o name Y.env (eval o Y.env) = eval o Y.env)
    (hfew : ((backTo cpos (starEach (e :: es) Y.env)).all (fun x => !x.1) && (backToKw cpos (keywordEach [] Y.env)).all (fun x => x.1.isSome) && decide ((e :: es).length + ([] : List Keyword).length + (if ([] : List Keyword).isEmpty then 0 else 1) < 30)) = true)
    (hline : (apos.endLine == cpos.line) = true) (hs : starEach (e :: es) Y.env = (false, eval e Y.env) :: starEach es Y.env) (hplain : (backTo cpos (starEach es Y.env)).any (·.1) = false) :
    PE Y (.Call (.Attribute o name apos) (e :: es) [] cpos) (tE r X (.mth m mo ms)) := by
  refine ⟨fun pn s σ H Q I ⟨F, Γ, fps, g, q⟩ => ?_⟩
  have q : Ev r F H fps σ ((opB mo Γ (evE X mo Γ)).bind fun p Γ1 => match m.on (kdB p Γ1) with
    | false => .bad
    | true => (evDs X ms Γ1).bind fun xs Γ => (rdB p Γ).bind fun x Γ => match decide (kdOf x = kdB p Γ1) with
      | true => optR (MI.mth m x xs) Γ
      | false => .bad) _ := q
  refine wpAny_Call_method_late hbase hfew hline rfl (thn (ho.run pn s σ H (fun v H1 => ∃ id kd, MId (kdT kd) id name ∧ TyK Y.K H1 (kdT kd) v ∧ tDs r X ms σ H1 fun vs H2 => ∀ (s2 : Shared) (u : Value) (us : List Value), Inv Y pn σ H2 s2 → RelV v u → Vals vs us →
      wpAny (model Y.prog Y.w) Y.A (call (.builtin id) (u :: us)) (EP Y pn σ Q) Y.xe s2) I ⟨F, Γ, fps, g, Ev.imp q.bind fun p Γ1 F1 H1 fps1 s1 g1 k v bv => ?_⟩) fun u s1 ⟨x, H1, I1, r1, id, kd, mi, ty, q1⟩ => ?_)
  · cases hon : m.on (kdB p Γ1) with
    | false => rw [hon] at k; exact k.elim
    | true =>
      rw [hon] at k
      have hk : kdB p Γ1 ≠ .other := fun z => by rw [z] at hon; cases m <;> cases hon
      obtain ⟨id, mi, run⟩ := hm.ids _ hon
      refine ⟨id, _, mi, hK ▸ kdB_ty g1 bv hk, F1, Γ1, fps1, g1, Ev.imp k.bind fun xs Γ2 F2 H2 fps2 s2 g2 k vs rds s3 u us I3 ru rus => ?_⟩
      obtain ⟨x, Γ3, F3, fps3, s3', g3, rx, k⟩ := rdB_ok g2 (bv.mono s2.sub) k.bind
      cases hd : decide (kdOf x = kdB p Γ1) with
      | false => rw [hd] at k; exact k.elim
      | true =>
        rw [hd] at k
        cases e : MI.mth m x xs with
        | none => rw [e] at k; exact k.elim
        | some o =>
          rw [e] at k
          have nv := newV_of (s1.trans (s2.trans s3')) g3 (mth_new e) k
          rw [hK] at nv rx rds
          exact run pn s3 σ H2 v vs u us Q F3 x xs o I3 ru rus (of_decide_eq_true hd) g3.sub rx (rds.mono s3'.sub) e nv
  · obtain ⟨h1, h2⟩ := ty.is I1 r1
    refine ⟨_, id, mi.pa, mi.sl, mi.ty, h1, h2, ?_⟩
    have hA := ha.run cpos pn s1 σ H1 _ I1 q1
    rw [hs] at hA ⊢
    refine Calls.callWith_builtin (by show (false || (backTo cpos (starEach es Y.env)).any (·.1)) = false; rw [hplain] <;> rfl) (Calls.evalArgs_plain ?_)
    exact thn hA fun us s2 ⟨vs, H2, I2, r2, q2⟩ => q2 s2 u us I2 r1 r2
theorem pe_mth0E (hm : MOk Y name m 0) (hK : r.K = Y.K) (ho : PE Y o (tB r X mo)) (hbase : attributeBase o name Y.env (eval o Y.env) = eval o Y.env) (hline : (apos.endLine == cpos.line) = true) :
    PE Y (.Call (.Attribute o name apos) [] [] cpos) (tE r X (.mth m mo .nil)) := by
  refine ⟨fun pn s σ H Q I ⟨F, Γ, fps, g, q⟩ => ?_⟩
  have q : Ev r F H fps σ ((opB mo Γ (evE X mo Γ)).bind fun p Γ1 => match m.on (kdB p Γ1) with
    | false => .bad
    | true => (R.ok ([] : List D) Γ1).bind fun xs Γ => (rdB p Γ).bind fun x Γ => match decide (kdOf x = kdB p Γ1) with
      | true => optR (MI.mth m x xs) Γ
      | false => .bad) _ := q
  refine wpAny_Call_method0_late hbase hline (thn (ho.run pn s σ H (fun v H1 => ∃ id kd, MId (kdT kd) id name ∧ TyK Y.K H1 (kdT kd) v ∧ ∀ (s2 : Shared) (u : Value), Inv Y pn σ H1 s2 → RelV v u →
      wpAny (model Y.prog Y.w) Y.A (call (.builtin id) [u]) (EP Y pn σ Q) Y.xe s2) I ⟨F, Γ, fps, g, Ev.imp q.bind fun p Γ1 F1 H1 fps1 s1 g1 k v bv => ?_⟩) fun u s1 ⟨x, H1, I1, r1, id, kd, mi, ty, q1⟩ => ?_)
  · cases hon : m.on (kdB p Γ1) with
    | false => rw [hon] at k; exact k.elim
    | true =>
      rw [hon] at k
      have hk : kdB p Γ1 ≠ .other := fun z => by rw [z] at hon; cases m <;> cases hon
      obtain ⟨id, mi, run⟩ := hm.ids _ hon
      refine ⟨id, _, mi, hK ▸ kdB_ty g1 bv hk, fun s3 u I3 ru => ?_⟩
      obtain ⟨x, Γ3, F3, fps3, s3', g3, rx, k⟩ := rdB_ok g1 bv (Ev.bind (a := rdB p Γ1) k)
      cases hd : decide (kdOf x = kdB p Γ1) with
      | false => rw [hd] at k; exact k.elim
      | true =>
        rw [hd] at k
        cases e : MI.mth m x [] with
        | none => rw [e] at k; exact k.elim
        | some o =>
          rw [e] at k
          have nv := newV_of (s1.trans s3') g3 (mth_new e) k
          rw [hK] at nv rx
          exact run pn s3 σ H1 v [] u [] Q F3 x [] o I3 ru .nil (of_decide_eq_true hd) g3.sub rx .nil e nv
  · obtain ⟨h1, h2⟩ := ty.is I1 r1
    exact ⟨_, id, mi.pa, mi.sl, mi.ty, h1, h2, Calls.callWith_builtin rfl (PySem.evalArgs_none (q1 s1 u I1 r1))⟩
end

/-! ### the methods -/
section
variable {Y : Cx} {pn : List (Addr × Obj)} {s : Shared} {σ : St} {H F : Hp} {v w : V} {u uw : Value} {Q : VK} {xs : List D} {d : D}
/-- what the items of a list or tuple equal, by values -/
theorem items_at (hu : Y.A.units + 65 < cLine) (I : Inv Y pn σ H s) (sub : Sub F H) {vs : List V} {its : List Value} (rv : Vals vs its) (r1 : RDs Y.K F vs xs) (rw' : RD Y.K F w d) (ru : RelV w uw) (h1 : SeqAt.shaped d = true) (h2 : SeqAt.shaped (.list xs) = true) :
    (∀ y, y ∈ its.toArray → SeqAt.EqAt Y.A.in1 s y uw (PyData.eqv (SeqAt.readOf s.heap y) d)) ∧ its.map (SeqAt.readOf s.heap) = xs := by
  have hxs : PyData.canLayAll0 xs = true := SeqAt.canLay_of_shaped h2
  obtain ⟨bs, rb⟩ := Dp.reads I d w uw (rw'.dp sub (SeqAt.canLay_of_shaped h1)) ru
  obtain ⟨as, ra⟩ := Dp.readsAll I xs vs its (r1.dp sub hxs) rv
  have hroom : Y.A.units + 1 + min (PyData.depthAll xs) d.depth < cLine := room_in_shaped h1 hu
  exact ⟨SeqAt.items_eqAt (vs := its.toArray) (show ReadsAll s.heap its.toArray.toList xs as from ra) rb hxs (SeqAt.canLay_of_shaped h1) hroom, SeqAt.readsAll_map xs its as hxs ra⟩
theorem count_map {its : List Value} {h : Heap} (e : its.map (SeqAt.readOf h) = xs) : its.countP (fun y => PyData.eqv (SeqAt.readOf h y) d) = xs.countP fun z => PyData.eqv z d := by
  rw [← e, List.countP_map]
  rfl
theorem mok_count (hu : Y.A.units + 65 < cLine) : MOk Y "count" .count 1 where
  ids := fun kd hon => by
    cases kd with
    | lst =>
      refine ⟨"list.count", ⟨PySem.F.plainAttrs_list, PySem.F.slot_list_count, PySem.F.type_list_count⟩, fun pn s σ H v vs u us Q F x xs o I ru rus hk sub rx rds e nv => ?_⟩
      cases x <;> first | cases hk | skip
      rcases xs with _ | ⟨d, _ | ⟨d', t⟩⟩ <;> simp only [mth] at e <;> try cases e
      rw [Option.map_eq_some_iff] at e
      obtain ⟨n, e, rfl⟩ := e
      unfold cntD at e
      split at e <;> cases e
      rename_i ys hs
      rw [Bool.and_eq_true] at hs
      obtain ⟨a, ws, rfl, h1, l1, r1⟩ := rx.lst_inv
      cases rds with
      | cons hd t =>
        cases t
        obtain ⟨uw, rfl, ruw⟩ := vals1 rus
        cases ru
        obtain ⟨its, rv, ⟨⟨cls, dd, data, sls⟩, n, ho, hc, hdn, hdt⟩, _⟩ := I.list (.inl (.inl h1) : SqL Y.K H a ws)
        simp only at hc hdt
        subst hc hdt
        obtain ⟨q1, q2⟩ := items_at hu I sub rv r1 hd ruw hs.1 hs.2
        refine call_meets PySem.F.slot_list_count ⟨_, ho, rfl⟩ PySem.F.entry_list_count (PySem.F.args_list_count_2 _ _) (SeqAt.list_countAt a its.toArray n dd sls uw _) ⟨ho, q1, ⟨.int _, H, I.tok _, ⟨_, rfl⟩, ?_⟩⟩
        rw [count_map q2]
        exact nv.1 _ (.int _)
    | tup =>
      refine ⟨"tuple.count", ⟨PySem.F.plainAttrs_tuple, PySem.F.slot_tuple_count, PySem.F.type_tuple_count⟩, fun pn s σ H v vs u us Q F x xs o I ru rus hk sub rx rds e nv => ?_⟩
      cases x <;> first | cases hk | skip
      rcases xs with _ | ⟨d, _ | ⟨d', t⟩⟩ <;> simp only [mth] at e <;> try cases e
      rw [Option.map_eq_some_iff] at e
      obtain ⟨n, e, rfl⟩ := e
      unfold cntD at e
      split at e <;> cases e
      rename_i ys hs
      rw [Bool.and_eq_true] at hs
      obtain ⟨a, ws, rfl, h1, l1, r1⟩ := rx.tup_inv
      cases rds with
      | cons hd t =>
        cases t
        obtain ⟨uw, rfl, ruw⟩ := vals1 rus
        cases ru
        obtain ⟨its, rv, ⟨⟨cls, dd, data, sls⟩, ho, hc, n, hdt⟩, _⟩ := I.tuple (sub.sqT h1.sq)
        simp only at hc hdt
        subst hc hdt
        obtain ⟨q1, q2⟩ := items_at hu I sub rv r1 hd ruw hs.1 hs.2
        refine call_meets PySem.F.slot_tuple_count ⟨_, ho, rfl⟩ PySem.F.entry_tuple_count (PySem.F.args_tuple_count_2 _ _) (SeqAt.tuple_countAt a its.toArray n dd sls uw _) ⟨ho, q1, ⟨.int _, H, I.tok _, ⟨_, rfl⟩, ?_⟩⟩
        rw [count_map q2]
        exact nv.1 _ (.int _)
    | _ => cases hon
theorem ix_facts {its : List Value} {h : Heap} {j : Nat} (e : its.map (SeqAt.readOf h) = xs) (hj : xs.findIdx? (fun z => PyData.eqv z d) = some j) :
    ∃ hj : j < its.toArray.size, PyData.eqv (SeqAt.readOf h its.toArray[j]) d = true ∧ ∀ m (hm : m < its.toArray.size), m < j → PyData.eqv (SeqAt.readOf h its.toArray[m]) d = false := by
  rw [← e, List.findIdx?_map, List.findIdx?_eq_some_iff_getElem] at hj
  obtain ⟨h1, h2, h3⟩ := hj
  refine ⟨by simpa using h1, by simpa using h2, fun m hm hmj => ?_⟩
  have := h3 m hmj
  simpa using this
theorem mok_index (hu : Y.A.units + 65 < cLine) : MOk Y "index" .index 1 where
  ids := fun kd hon => by
    cases kd with
    | lst =>
      refine ⟨"list.index", ⟨PySem.F.plainAttrs_list, PySem.F.slot_list_index, PySem.F.type_list_index⟩, fun pn s σ H v vs u us Q F x xs o I ru rus hk sub rx rds e nv => ?_⟩
      cases x <;> first | cases hk | skip
      rcases xs with _ | ⟨d, _ | ⟨d', t⟩⟩ <;> simp only [mth] at e <;> try cases e
      rw [Option.map_eq_some_iff] at e
      obtain ⟨j, e, rfl⟩ := e
      unfold ixD at e
      split at e
      case isFalse => cases e
      rename_i ys hs
      rw [Bool.and_eq_true] at hs
      obtain ⟨a, ws, rfl, h1, l1, r1⟩ := rx.lst_inv
      cases rds with
      | cons hd t =>
        cases t
        obtain ⟨uw, rfl, ruw⟩ := vals1 rus
        cases ru
        obtain ⟨its, rv, ⟨⟨cls, dd, data, sls⟩, n, ho, hc, hdn, hdt⟩, _⟩ := I.list (.inl (.inl h1) : SqL Y.K H a ws)
        simp only at hc hdt
        subst hc hdt
        obtain ⟨q1, q2⟩ := items_at hu I sub rv r1 hd ruw hs.1 hs.2
        obtain ⟨hj, k1, k2⟩ := ix_facts q2 e
        have hz : its.toArray.size ≤ sizeLine := by rw [List.size_toArray, ← rv.length]; exact l1
        exact call_meets PySem.F.slot_list_index ⟨_, ho, rfl⟩ PySem.F.entry_list_index (PySem.F.args_list_index_2 _ _)
          (SeqAt.list_indexAt a its.toArray n dd sls uw (fun y => PyData.eqv (SeqAt.readOf s.heap y) d) j hj (by rw [sizeLine_eq] at hz; omega) k1 k2) ⟨ho, q1, ⟨.int _, H, I.tok _, ⟨_, rfl⟩, nv.1 _ (.int _)⟩⟩
    | tup =>
      refine ⟨"tuple.index", ⟨PySem.F.plainAttrs_tuple, PySem.F.slot_tuple_index, PySem.F.type_tuple_index⟩, fun pn s σ H v vs u us Q F x xs o I ru rus hk sub rx rds e nv => ?_⟩
      cases x <;> first | cases hk | skip
      rcases xs with _ | ⟨d, _ | ⟨d', t⟩⟩ <;> simp only [mth] at e <;> try cases e
      rw [Option.map_eq_some_iff] at e
      obtain ⟨j, e, rfl⟩ := e
      unfold ixD at e
      split at e
      case isFalse => cases e
      rename_i ys hs
      rw [Bool.and_eq_true] at hs
      obtain ⟨a, ws, rfl, h1, l1, r1⟩ := rx.tup_inv
      cases rds with
      | cons hd t =>
        cases t
        obtain ⟨uw, rfl, ruw⟩ := vals1 rus
        cases ru
        obtain ⟨its, rv, ⟨⟨cls, dd, data, sls⟩, ho, hc, n, hdt⟩, _⟩ := I.tuple (sub.sqT h1.sq)
        simp only at hc hdt
        subst hc hdt
        obtain ⟨q1, q2⟩ := items_at hu I sub rv r1 hd ruw hs.1 hs.2
        obtain ⟨hj, k1, k2⟩ := ix_facts q2 e
        exact call_meets PySem.F.slot_tuple_index ⟨_, ho, rfl⟩ PySem.F.entry_tuple_index (PySem.F.args_tuple_index_2 _ _)
          (TI.tuple_indexAt a its.toArray n dd sls uw (fun y => PyData.eqv (SeqAt.readOf s.heap y) d) j hj k1 k2) ⟨ho, q1, ⟨.int _, H, I.tok _, ⟨_, rfl⟩, nv.1 _ (.int _)⟩⟩
    | _ => cases hon
theorem mok_upper : MOk Y "upper" .upper 0 where
  ids := fun kd hon => by
    cases kd with
    | str =>
      refine ⟨"str.upper", ⟨PySem.F.plainAttrs_str, PySem.F.slot_str_upper, PySem.F.type_str_upper⟩, fun pn s σ H v vs u us Q F x xs o I ru rus hk sub rx rds e nv => ?_⟩
      cases x <;> first | cases hk | skip
      rcases xs with _ | ⟨d, t⟩ <;> simp only [mth] at e <;> try cases e
      split at e <;> cases e
      rename_i z hz
      cases rds
      rw [rx.str_inv] at ru
      rw [Bool.and_eq_true, decide_eq_true_eq, List.all_eq_true] at hz
      refine mt_upper pn s σ H _ [] u us Q I ru rus ⟨z, rfl, rfl, by omega, ?_⟩
      rw [PyProof.Rows.upper_ascii fun c hc => by simpa using hz.1 c hc]
      exact nv.1 _ (.str _)
    | _ => cases hon
end
end MI

set_option maxRecDepth 100000
/-! MI8: calls of defs, where no repr is under way on the stack. -/
namespace MI
open L2 PySem PyProof.Rows PySem.Spec

/-- as FnOk, where nothing on the stack guards a repr -/
structure FnG (P : Program) (w : World) (K : PySem.W.Frag) (mg : Str → Option Value) (base : Heap) (k : Nat) (f : Addr) (fd : FuncData) (ps : List Str) (sp : Sp) : Prop where
  len : ∀ ws H Q E, sp ws H Q E → ws.length = ps.length
  run : ∀ (A : Around) (outer : List PySem.Env) (s : Shared) (H : Hp) (args : Args) (us : List Value) (vs : List V) (Q : VK) (E : XK), Room k A → A.guards = some [] → Env0 P w K mg base A outer s H → BindsTo s fd args (ps.zip us) → Vals vs us → sp vs H Q E →
    codeAny (model P w) A (.call (.ref f) args) (L2.CR (L2.CX P w) outer P w H s Q E) s

/-- a def of the text keeps its promise by its body -/
theorem fnG_of {P : Program} {w : World} {K : PySem.W.Frag} {mg : Str → Option Value} {base : Heap} {k : Nat} {x qual : Str} {st : Stmt} {f : Addr} {fd : FuncData} {N ps : List Str} {sp : Sp} (D : Fun K x qual st f fd) (S : FnScope N ps (defScope st))
    (len : ∀ ws H Q E, sp ws H Q E → ws.length = ps.length)
    (body : ∀ (cdv : Value) (A : Around) (outer : List PySem.Env) (s : Shared) (H : Hp) (vs : List V) (Q : VK) (E : XK), Room k (A.deeper (envOfC qual (defScope st) s.heap.objs.size f cdv)) → A.guards = some [] → sp vs H Q E →
      ∃ t, PSs (cxOf (L2.CX P w) P w K mg base N qual (defScope st) f cdv A outer s H E) (defBody st) t ∧ t { nx := fun _ H' => Q .non H', rt := Q } (start N vs) H) :
    FnG P w K mg base (k + 1) f fd ps sp := by
  obtain ⟨oc, od, kV, doc, pm, an, cdv, ct, osl, rfl, lk, hcd⟩ := D.ex
  refine ⟨len, fun A outer s H args us vs Q E room guard e0 binds rel want => ?_⟩
  have count := len vs H Q E want
  have stays : ∀ b o, base.get? b = some o → s.heap.get? b = some o := fun b o e => (e0.bs b o e).1
  have Kin := e0.mod.kin.keeps stays
  have kinds : ∀ y ∈ ps.zip us, (defScope st).names.lookup y.1 = some .local ∨ ((defScope st).names.lookup y.1 = some .cell ∧ ((cellsFrom (s.heap.objs.size + 1) (defScope st).names []).lookup y.1).isSome = true) := by
    intro y hy
    have hp := (List.of_mem_zip (a := y.1) (b := y.2) hy).1
    cases S.par y.1 hp with
    | inl q => exact .inl q
    | inr q => exact .inr ⟨q, PySem.W.cellsFrom_some _ _ _ (.inl q)⟩
  refine codeAny_call_function room.depth (Kin f _ lk) rfl S.co S.gen rfl (PySem.W.codeRec_of Kin hcd) (binds _ _ _ _ ?_)
  refine wpAny_newFunctionEnv_cells S.kind kinds fun env eenv s1 entry => ?_
  cases eenv
  refine ⟨(e0.mod.nolimit.keeps stays).keeps entry.toInCall.keep, codeAny_func ?_⟩
  obtain ⟨t, ht, go⟩ := body cdv A outer s H vs Q E (room.deeper _) guard want
  have I := inv_start (CX := L2.CX P w) (E := E) S room.hd e0 count rel entry
  have out := ht.run [] s1 (start N vs) H _ I go
  refine wpAny_mono out (fun fl s' end_ => ?_) fun _ _ z => z
  cases fl with
  | ret u =>
    obtain ⟨v, σ', H', J, rv, q⟩ := end_
    exact ⟨v, H', J.os, J.bare, J.base, J.hok, rv, q⟩
  | next =>
    obtain ⟨σ', H', J, q⟩ := end_
    exact ⟨.non, H', J.os, J.bare, J.base, J.hok, rfl, q⟩
  | brk => exact (let ⟨_, _, _, z⟩ := end_; (show False from z).elim)
  | cont => exact (let ⟨_, _, _, z⟩ := end_; (show False from z).elim)

/-- f(a, ..) -/
theorem pe_callG {Y : Cx} {k : Nat} {f : Addr} {fd : FuncData} {ps : List Str} {sp : Sp} {E : St → XK} {x : Str} {p pos : Pos} {e : Expr} {es : List Expr} {t : TA} (D : FnG Y.prog Y.w Y.K Y.mg Y.base k f fd ps sp) (room : Room k Y.A) (guard : Y.A.guards = some [])
    (hg : Gl Y x) (hm : Y.mg x = some (.ref f)) (hk : PySem.W.keepIn Y.K (.ref f) = true) (hb : Binds Y.K fd ps []) (hx : ∀ σ, PassesAt (L2.CX Y.prog Y.w) Y σ (E σ)) (ha : PA Y (e :: es) t) (hdb : (x == ("__debug__" : Str)) = false)
    (he : starEach (e :: es) Y.env = (false, eval e Y.env) :: starEach es Y.env) (hpl : (backTo pos (starEach es Y.env)).any (·.1) = false) : PE Y (.Call (.Name x p) (e :: es) [] pos) (fun σ H Q => t σ H fun vs H1 => sp vs H1 Q (E σ)) := by
  refine ⟨fun pn s σ H Q I want => wpAny_Call_Name_kw (ld_glob I hg hm ?_ hdb)⟩
  refine PySem.W.callWith_K (h₀ := Y.base) I.ok.mod.kin hk (thn (ha.run pos pn s σ H _ I want) fun us s1 ⟨vs, H1, I1, rel, q⟩ => ⟨I1.kIn, ?_⟩) he hpl
  have hl : (us ++ []).length = ps.length := by rw [List.append_nil, ← rel.length]; exact D.len _ _ _ _ q
  have hb' := hb s1 us I1.kIn hl
  rw [List.append_nil] at hb'
  refine wpAny_call (codeAny_mono (D.run Y.A Y.stack s1 H1 ⟨us, []⟩ us vs Q (E σ) room guard I1.env0 hb' rel q) fun res s' end_ => ?_)
  match res, end_ with
  | .error _, z => exact hx σ pn H1 s1 _ s' I1 z
  | .ok (.ret _), z => exact I1.after z
  | .ok .next, z => exact z.elim
  | .ok .brk, z => exact z.elim
  | .ok .cont, z => exact z.elim

/-! ### the arguments -/
/-- values handed to a def: their own objects, apart from all that slots have -/
structure Given (K : PySem.W.Frag) (F0 H0 : Hp) (fps0 : Nat → List Addr) (F H : Hp) (fps : Nat → List Addr) (vs : List V) (os : List O) (afps : Nat → List Addr) : Prop where
  len : vs.length = os.length
  env : ∀ i o, os[i]? = some o → ∃ v, vs[i]? = some v ∧ RO K F H v o (afps i)
  nil : ∀ i, os.length ≤ i → afps i = []
  own : ∀ i a, a ∈ afps i → F a = none ∧ (∀ j, a ∉ fps j) ∧ (H0 a ≠ none → ∃ j, a ∈ fps0 j)
  dis : ∀ i j a, a ∈ afps i → a ∈ afps j → i = j
  nd : ∀ i, (afps i).Nodup
section
variable {K : PySem.W.Frag} {F0 H0 F1 H1 F H F' H' : Hp} {fps0 fps1 fps fps' afps : Nat → List Addr} {vs : List V} {os : List O} {v : V} {o : O} {fp : List Addr}
theorem Given.there (g : Given K F0 H0 fps0 F H fps vs os afps) {i : Nat} {a : Addr} (h : a ∈ afps i) : H a ≠ none := by
  by_cases hi : i < os.length
  · obtain ⟨v, _, r⟩ := g.env i os[i] (List.getElem?_eq_getElem hi)
    exact r.there a h
  · rw [g.nil i (by omega)] at h
    cases h
theorem Given.none : Given K F0 H0 fps0 F H fps [] [] fun _ => [] :=
  ⟨rfl, fun i o e => by simp at e, fun _ _ => rfl, fun _ _ h => (by cases h), fun _ _ _ h => (by cases h), fun _ => List.nodup_nil⟩
/-- one more ahead: it was made first and held -/
theorem Given.cons (s01 : Step F0 H0 fps0 F1 H1 fps1) (t : Tmp K F0 H0 fps0 F1 H1 fps1 v o fp) (s : Step F1 H1 fps1 F H fps) (g : Given K F1 H1 fps1 F H fps vs os afps) :
    Given K F0 H0 fps0 F H fps (v :: vs) (o :: os) (fun i => match i with | 0 => fp | i + 1 => afps i) := by
  have th := t.held s
  have back : ∀ i a, a ∈ afps i → H0 a ≠ .none → ∃ j, a ∈ fps0 j := fun i a ha hn => by
    cases e : H0 a with
    | none => exact absurd e hn
    | some w =>
      apply Classical.byContradiction
      intro hx
      have n : ∀ j, a ∉ fps0 j := fun j hj => hx ⟨j, hj⟩
      obtain ⟨j, hj⟩ := (g.own i a ha).2.2 (by rw [s01.keep a w e n]; simp)
      obtain ⟨j', hj'⟩ := s01.own j a hj hn
      exact n j' hj'
  have apart : ∀ i a, a ∈ afps i → a ∉ fp := fun i a ha hf => by
    obtain ⟨j, hj⟩ := (g.own i a ha).2.2 (t.rep.there a hf)
    exact (t.own a hf).2.1 j hj
  refine ⟨by simp [g.len], fun i o' e => ?_, fun i hi => ?_, fun i a ha => ?_, fun i j a hi hj => ?_, fun i => ?_⟩
  · cases i with
    | zero => simp at e; subst e; exact ⟨v, rfl, th.rep⟩
    | succ i => obtain ⟨w, e1, r⟩ := g.env i o' (by simpa using e); exact ⟨w, by simpa using e1, r⟩
  · cases i with
    | zero => simp at hi
    | succ i => exact g.nil i (by simpa using hi)
  · cases i with
    | zero => exact th.own a ha
    | succ i => exact ⟨(g.own i a ha).1, (g.own i a ha).2.1, back i a ha⟩
  · cases i with
    | zero => cases j with
      | zero => rfl
      | succ j => exact absurd hi (apart j a hj)
    | succ i => cases j with
      | zero => exact absurd hj (apart i a hi)
      | succ j => rw [g.dis i j a hi hj]
  · cases i with
    | zero => exact t.nd
    | succ i => exact g.nd i
end
theorem slot_some {Γ : Env} {o : O} (h : slot Γ i = some o) : Γ[i]? = some (some o) := by
  unfold slot at h
  cases e : Γ[i]? with
  | none => (rw [e] at h; cases h)
  | some oo => rw [e] at h; exact congrArg some h
/-- one more ahead: what stands in slot i at the call -/
theorem Given.ofSlot {K : PySem.W.Frag} {F0 H0 F H : Hp} {σ : St} {Γ : Env} {fps0 fps afps : Nat → List Addr} {vs : List V} {os : List O} {v : V} {o : O} {i : Nat} (g : Given K F0 H0 fps0 F H fps vs os afps) (G : Good K F H σ Γ fps) (s : Step F0 H0 fps0 F H fps) (ro : RO K F H v o (fps i)) :
    Given K F0 H0 fps0 F H (fun j => if j = i then [] else fps j) (v :: vs) (o :: os) (fun n => match n with | 0 => fps i | n + 1 => afps n) := by
  have out : ∀ {a : Addr} {j : Nat}, (∀ j, a ∉ fps j) → a ∉ (if j = i then [] else fps j) := fun {a j} h => by
    by_cases e : j = i
    · simp [e]
    · simp only [e, if_false]; exact h j
  refine ⟨by simp [g.len], fun n o' e => ?_, fun n hn => ?_, fun n a ha => ?_, fun n l a hn hl => ?_, fun n => ?_⟩
  · cases n with
    | zero => simp at e; subst e; exact ⟨v, rfl, ro⟩
    | succ n =>
      obtain ⟨w, e1, rw'⟩ := g.env n o' (by simpa using e)
      exact ⟨w, by simpa using e1, rw'⟩
  · cases n with
    | zero => simp at hn
    | succ n => exact g.nil n (by simpa using hn)
  · cases n with
    | zero =>
      refine ⟨(G.own i a ha).1, fun j hj => ?_, fun hn => s.own i a ha hn⟩
      by_cases e : j = i
      · simp [e] at hj
      · simp only [e, if_false] at hj
        exact e (G.dis j i a hj ha)
    | succ n => exact ⟨(g.own n a ha).1, fun j => out (g.own n a ha).2.1, (g.own n a ha).2.2⟩
  · cases n with
    | zero =>
      cases l with
      | zero => rfl
      | succ l => exact absurd hn ((g.own l a hl).2.1 i)
    | succ n =>
      cases l with
      | zero => exact absurd hl ((g.own n a hn).2.1 i)
      | succ l => rw [g.dis n l a hn hl]
  · cases n with
    | zero => exact G.nd i
    | succ n => exact g.nd n
/-- arguments' reading; which slots they were taken from -/
def tAs (r : Rd) (X : Ctx) (io : List Bool) (es : Es) : TA := fun σ H Q => ∃ F Γ fps, Good r.K F H σ Γ fps ∧ Ev r F H fps σ (evAs X io es Γ) fun os _ F' H' fps' => ∀ vs afps, Given r.K F H fps F' H' fps' vs os afps → Src io es σ vs → Q vs H'
where
  /-- an argument that was given comes from its slot -/
  Src : List Bool → Es → St → List V → Prop
  | true :: io, .cons (.var i) es, σ, v :: vs => σ[i]? = some (some v) ∧ Src io es σ vs
  | _ :: io, .cons _ es, σ, _ :: vs => Src io es σ vs
  | _, _, _, _ => True
section
variable {r : Rd} {X : Ctx} {Y : Cx} {e : Expr} {es : List Expr} {m : E} {ms : Es} {io : List Bool}
theorem pa_nilA : PA Y [] (tAs r X io .nil) := pa_nil.imp fun σ H Q ⟨F, Γ, fps, g, q⟩ => by
  have q : Ev r F H fps σ (.ok [] Γ) _ := q
  exact q.ok g [] _ Given.none (by cases io with | nil => trivial | cons b _ => cases b <;> trivial)
theorem pass1_ok {F0 H0 F H : Hp} {σ : St} {Γ : Env} {fps0 fps : Nat → List Addr} {v : V} {o : O} {fp : List Addr} {P : Pst O} (s : Step F0 H0 fps0 F H fps) (g : Good r.K F H σ Γ fps) (t : Tmp r.K F0 H0 fps0 F H fps v o fp) (h : Ev r F0 H0 fps0 σ (pass1 o Γ) P) :
    ∃ o2 F2 fp2, Step F0 H0 fps0 F2 H fps ∧ Good r.K F2 H σ Γ fps ∧ Tmp r.K F0 H0 fps0 F2 H fps v o2 fp2 ∧ P o2 Γ F2 H fps := by
  have go : ∀ x, fz o = some x → Ev r F0 H0 fps0 σ ((toD o Γ).bind fun x Γ => .ok (.d x) Γ) P → ∃ o2 F2 fp2, Step F0 H0 fps0 F2 H fps ∧ Good r.K F2 H σ Γ fps ∧ Tmp r.K F0 H0 fps0 F2 H fps v o2 fp2 ∧ P o2 Γ F2 H fps := fun x e h => by
    unfold toD at h
    rw [e] at h
    have s2 : Step F0 H0 fps0 (frzH F H fp) H fps := s.freeze g.sub fun a ha hn => (t.own a ha).2.2 hn
    have g2 : Good r.K (frzH F H fp) H σ Γ fps := g.freeze fun a ha => (t.own a ha).2.1
    exact ⟨.d x, _, [], s2, g2, Tmp.data (t.rep.frozen g.sub e), h _ _ _ s2 g2⟩
  cases o with
  | x c fs => exact (t.rep.inv_x).elim
  | s ns => exact ⟨_, F, fp, s, g, t, h _ _ _ s g⟩
  | d x => exact go _ rfl h
  | l xs => exact go _ rfl h
  | k kvs => exact go _ rfl h
  | ll xss => exact go _ rfl h
theorem pa_consA (ha : PE Y e (tE r X m)) (hv : ∀ i, m = .var i → PE Y e (tVar i)) (hr : PA Y es (tAs r X io.tail ms)) (hs : starEach (e :: es) Y.env = (false, eval e Y.env) :: starEach es Y.env) : PA Y (e :: es) (tAs r X io (.cons m ms)) := by
  -- the one or the other way, by whether the argument is given
  by_cases hgive : io.headD false = true ∧ ∃ i, m = .var i
  · obtain ⟨h1, i, rfl⟩ := hgive
    obtain ⟨io', rfl⟩ : ∃ io', io = true :: io' := by
      cases io with
      | nil => cases h1
      | cons b io' => cases h1; exact ⟨io', rfl⟩
    refine (pa_cons (hv i rfl) hr hs).imp fun σ H Q ⟨F, Γ, fps, g, q⟩ => ?_
    have q : Ev r F H fps σ (match (true : Bool), giveS (.var i) Γ with
      | true, some i => (evAs X io' ms Γ).bind fun os Γ => gvO (slot Γ i) i os Γ
      | _, _ => (evE X (.var i) Γ).bind fun o Γ => (pass1 o Γ).bind fun o Γ => (evAs X io' ms Γ).bind fun os Γ => .ok (o :: os) Γ) _ := q
    cases es : slot Γ i with
    | none =>
      have e2 : giveS (.var i) Γ = none := by simp [giveS, es]
      have e3 : evE X (.var i) Γ = .bad := by
        show rdV i Γ = _
        unfold slot at es
        unfold rdV
        cases e4 : Γ[i]? with
        | none => rfl
        | some o =>
          rw [e4] at es
          have : o = none := es
          rw [this]
      rw [e2] at q; simp only [e3] at q; exact q.elim
    | some o0 =>
      have e2 : giveS (.var i) Γ = some i := by simp [giveS, es]
      rw [e2] at q
      have q : Ev r F H fps σ ((evAs X io' ms Γ).bind fun os Γ => gvO (slot Γ i) i os Γ) _ := q
      obtain ⟨v, ev, _⟩ := g.env i o0 (slot_some es)
      refine ⟨v, ev, F, Γ, fps, g, Ev.imp (Ev.bind q) fun os Γ2 F2 H2 fps2 s3 g3 k vs afps gv src => ?_⟩
      cases es2 : slot Γ2 i with
      | none => rw [es2] at k; exact k.elim
      | some o =>
        rw [es2] at k
        obtain ⟨v2, ev2, ro⟩ := g3.env i o (slot_some es2)
        rw [ev] at ev2
        cases ev2
        have k : Ev r F2 H2 fps2 σ (.ok (o :: os) (Γ2.set i none)) _ := k
        exact k F2 H2 _ (Step.refl.drop i) (g3.drop i) (v :: vs) _ (gv.ofSlot g3 s3 ro) ⟨ev, src⟩
  · refine (pa_cons ha hr hs).imp fun σ H Q ⟨F, Γ, fps, g, q⟩ => ⟨F, Γ, fps, g, ?_⟩
    have e1 : evAs X io (.cons m ms) Γ = (evE X m Γ).bind fun o Γ => (pass1 o Γ).bind fun o Γ => (evAs X io.tail ms Γ).bind fun os Γ => .ok (o :: os) Γ := by
      show (match io.headD false, giveS m Γ with
        | true, some i => (evAs X io.tail ms Γ).bind fun os Γ => gvO (slot Γ i) i os Γ
        | _, _ => (evE X m Γ).bind fun o Γ => (pass1 o Γ).bind fun o Γ => (evAs X io.tail ms Γ).bind fun os Γ => .ok (o :: os) Γ) = _
      cases hb : io.headD false with
      | false => rfl
      | true =>
        have hm : giveS m Γ = none := by
          cases m <;> first | rfl | exact absurd ⟨hb, _, rfl⟩ hgive
        rw [hm]
    rw [e1] at q
    have src : ∀ v vs, tAs.Src io.tail ms σ vs → tAs.Src io (.cons m ms) σ (v :: vs) := fun v vs h => by
      cases io with
      | nil => trivial
      | cons b io' => cases b with
        | false => cases m <;> exact h
        | true => cases m <;> first | exact h | exact absurd ⟨rfl, _, rfl⟩ hgive
    cases hm : evE X m Γ with
    | bad => rw [hm] at q; exact q
    | exc c fs Γ1 => rw [hm] at q; exact q
    | ok o Γ1 =>
      rw [hm] at q
      intro F1 H1 fps1 s1 g1 v fp t
      cases hp : pass1 o Γ1 with
      | bad =>
        have q : Ev r F H fps σ ((pass1 o Γ1).bind _) _ := q
        rw [hp] at q; exact q.elim
      | exc c fs Γ2 => cases o <;> simp [pass1, toD, optR, fz] at hp
      | ok o2 Γ2 =>
        have q : Ev r F H fps σ ((pass1 o Γ1).bind fun o Γ => (evAs X io.tail ms Γ).bind fun os Γ => .ok (o :: os) Γ) _ := q
        obtain ⟨o3, F3, fp3, s3, g3, t3, k⟩ := pass1_ok s1 g1 t q.bind
        exact ⟨F3, Γ1, fps1, g3, Ev.imp k.bind fun os Γ2 F2 H2 fps2 s4 g4 k vs afps gv sr => k.ok g4 (v :: vs) _ (Given.cons s3 t3 s4 gv) (src v vs sr)⟩
end

/-! ### what a def promises, by the mini interpreter; its call -/
def spG (K : PySem.W.Frag) (XR : XRel) (cf : Nat → List O → CR) (f np : Nat) (io : List Bool) : Sp := fun vs H Q E => vs.length = np ∧ ∃ F os fps, os.length = np ∧ Good K F H (vs.map some) (os.map some) fps ∧ match cf f os with
  | .ok o outs => ∀ F' H' σ' Γ' fps' v fp, Step F H fps F' H' fps' → Good K F' H' σ' Γ' fps' → Tmp K F H fps F' H' fps' v o fp → outs = Γ'.take np → (∀ (i : Nat) (w : V), io[i]? = some true → vs[i]? = some w → σ'[i]? = some (some w)) → Q v H'
  | .exc c fs => ∀ F' H' cls d, Step F H fps F' H' (fun _ => []) → Sub F' H' → XR c fs cls d F' H' → E cls d H'
  | .bad => False
section
variable {K : PySem.W.Frag} {F0 H0 F1 H1 F H F2 H2 : Hp} {σ : St} {Γ : Env} {fps0 fps1 fps fps2 afps : Nat → List Addr} {vs : List V} {os : List O} {v : V} {o : O} {fp : List Addr}
/-- the arguments as the slots of the def -/
theorem Given.good (g : Given K F0 H0 fps0 F H fps vs os afps) (sub : Sub F H) : Good K F H (vs.map some) (os.map some) afps := by
  refine ⟨sub, by simp [g.len], fun i o e => ?_, fun i hn => ?_, fun i a ha => ⟨(g.own i a ha).1, g.there ha⟩, g.dis, g.nd⟩
  · rw [List.getElem?_map, Option.map_eq_some_iff] at e
    obtain ⟨o', e1, e2⟩ := e
    cases e2
    obtain ⟨v, e3, r⟩ := g.env i o e1
    exact ⟨v, by rw [List.getElem?_map, e3]; rfl, r⟩
  · refine g.nil i ?_
    apply Classical.byContradiction
    intro h
    have hi : i < os.length := by omega
    exact hn os[i] (by rw [List.getElem?_map, List.getElem?_eq_getElem hi]; rfl)
/-- the caller's slots behind the call -/
theorem Good.call (G : Good K F H σ Γ fps) (g : Given K F0 H0 fps0 F H fps vs os afps) (s : Step F H afps F2 H2 fps2) (sub : Sub F2 H2) : Good K F2 H2 σ Γ fps := by
  have np : ∀ i a, a ∈ fps i → ∀ j, a ∉ afps j := fun i a hi j hj => (g.own j a hj).2.1 i hi
  refine ⟨sub, G.len, fun i o e => ?_, G.nil, fun i a ha => ⟨?_, ?_⟩, G.dis, G.nd⟩
  · obtain ⟨v, e1, r⟩ := G.env i o e
    exact ⟨v, e1, r.step s.sub fun b hb u hu => s.keep b u hu (np i b hb)⟩
  · cases e : F2 a with
    | none => rfl
    | some u =>
      have q := s.frz a u e (G.own i a ha).2 (np i a ha)
      rw [(G.own i a ha).1] at q
      cases q
  · cases e : H a with
    | none => exact absurd e (G.own i a ha).2
    | some u => rw [s.keep a u e (np i a ha)]; simp
theorem Step.call (s0 : Step F0 H0 fps0 F H fps) (g : Given K F0 H0 fps0 F H fps vs os afps) (s : Step F H afps F2 H2 fps2) : Step F0 H0 fps0 F2 H2 fps := by
  have out : ∀ a u, H0 a = some u → (∀ i, a ∉ fps0 i) → H a = some u ∧ ∀ j, a ∉ afps j := fun a u h n => ⟨s0.keep a u h n, fun j hj => by
    obtain ⟨k, hk⟩ := (g.own j a hj).2.2 (by rw [h]; simp)
    exact n k hk⟩
  refine ⟨s0.sub.trans s.sub, fun a u h n => ?_, fun a u h hn n => ?_, s0.own⟩
  · obtain ⟨h1, n1⟩ := out a u h n
    exact s.keep a u h1 n1
  · cases e : H0 a with
    | none => exact absurd e hn
    | some w =>
      obtain ⟨h1, n1⟩ := out a w e n
      exact s0.frz a u (s.frz a u h (by rw [h1]; simp) n1) hn n
/-- what the def leaves in its slots goes back -/
theorem takeBack_ok (r : Rd) : ∀ (io : List Bool) (es : Es) (outs : Env) (vs : List V) (k : Nat) (Γ : Env) (fps : Nat → List Addr) (ofps : Nat → List Addr) (fp : List Addr),
    Good r.K F2 H2 σ Γ fps → Step F0 H0 fps0 F2 H2 fps → es.len ≤ vs.length → tAs.Src io es σ vs →
    (∀ i o v, io[i]? = some true → outs[i]? = some (some o) → vs[i]? = some v → RO r.K F2 H2 v o (ofps (k + i))) →
    (∀ i a, a ∈ ofps (k + i) → F2 a = none ∧ (∀ j, a ∉ fps j) ∧ (H0 a ≠ none → ∃ j, a ∈ fps0 j) ∧ a ∉ fp) → (∀ i j a, a ∈ ofps i → a ∈ ofps j → i = j) → (∀ i, (ofps i).Nodup) → (∀ a ∈ fp, ∀ j, a ∉ fps j) →
    ∃ fps', Good r.K F2 H2 σ (takeBack io es outs Γ) fps' ∧ Step F0 H0 fps0 F2 H2 fps' ∧ ∀ a ∈ fp, ∀ j, a ∉ fps' j
  | [], es, outs, vs, k, Γ, fps, ofps, fp, G, s, _, _, _, _, _, _, n => by cases es <;> exact ⟨fps, G, s, n⟩
  | b :: io, .nil, outs, vs, k, Γ, fps, ofps, fp, G, s, _, _, _, _, _, _, n => by cases b <;> exact ⟨fps, G, s, n⟩
  | b :: io, .cons m es, [], vs, k, Γ, fps, ofps, fp, G, s, _, _, _, _, _, _, n => by
    refine ⟨fps, ?_, s, n⟩
    cases b <;> cases m <;> exact G
  | b :: io, .cons m es, oo :: outs, [], k, Γ, fps, ofps, fp, G, s, l, _, _, _, _, _, n => by simp [Es.len] at l
  | b :: io, .cons m es, oo :: outs, v :: vs, k, Γ, fps, ofps, fp, G, s, l, src, rep, own, dis, nd, n => by
    have next : ∀ Γ' fps1, takeBack (b :: io) (.cons m es) (oo :: outs) Γ = takeBack io es outs Γ' → Good r.K F2 H2 σ Γ' fps1 → Step F0 H0 fps0 F2 H2 fps1 → tAs.Src io es σ vs → (∀ a j, a ∈ fps1 j → a ∈ ofps k ∨ a ∈ fps j) →
        ∃ fps', Good r.K F2 H2 σ (takeBack (b :: io) (.cons m es) (oo :: outs) Γ) fps' ∧ Step F0 H0 fps0 F2 H2 fps' ∧ ∀ a ∈ fp, ∀ j, a ∉ fps' j := fun Γ' fps1 e G' s' src' mem => by
      rw [e]
      refine takeBack_ok r io es outs vs (k + 1) Γ' fps1 ofps fp G' s' (by simpa [Es.len] using l) src' (fun i o v h1 h2 h3 => ?_) (fun i a ha => ?_) dis nd (fun a ha j hj => ?_)
      · have := rep (i + 1) o v (by simpa using h1) (by simpa using h2) (by simpa using h3)
        rw [show k + 1 + i = k + (i + 1) by omega]
        exact this
      · rw [show k + 1 + i = k + (i + 1) by omega] at ha
        obtain ⟨q1, q2, q3, q4⟩ := own (i + 1) a ha
        refine ⟨q1, fun j hj => ?_, q3, q4⟩
        rcases mem a j hj with z | z
        · have := dis _ _ a ha z
          omega
        · exact q2 j z
      · rcases mem a j hj with z | z
        · exact (own 0 a z).2.2.2 ha
        · exact n a ha j z
    by_cases hb : b = true ∧ ∃ i, m = .var i
    · obtain ⟨rfl, i, rfl⟩ := hb
      obtain ⟨ev, src'⟩ := src
      have si : i < σ.length := (List.getElem?_eq_some_iff.mp ev).1
      have es' : σ.set i (some v) = σ := by
        rw [List.getElem?_eq_some_iff] at ev
        obtain ⟨h1, h2⟩ := ev
        rw [← h2]; exact List.set_getElem_self h1
      cases oo with
      | none =>
        refine next (Γ.set i none) (fun j => if j = i then [] else fps j) rfl (G.drop i) (s.drop i) src' fun a j hj => .inr ?_
        by_cases e : j = i
        · simp [e] at hj
        · simpa [e] using hj
      | some o =>
        have ro := rep 0 o v rfl rfl rfl
        have t : Tmp r.K F0 H0 fps0 F2 H2 fps v o (ofps k) := ⟨ro, fun a ha => let ⟨q1, q2, q3, _⟩ := own 0 a ha; ⟨q1, q2, q3⟩, nd k⟩
        have G2 := G.store t si
        rw [es'] at G2
        refine next (Γ.set i (some o)) (fun j => if j = i then ofps k else fps j) rfl G2 (s.store t) src' fun a j hj => ?_
        by_cases e : j = i
        · simp only [e, if_true] at hj; exact .inl hj
        · simp only [e, if_false] at hj; exact .inr hj
    · have e1 : takeBack (b :: io) (.cons m es) (oo :: outs) Γ = takeBack io es outs Γ := by
        cases b with
        | false => rfl
        | true => cases m <;> first | rfl | exact absurd ⟨rfl, _, rfl⟩ hb
      have src' : tAs.Src io es σ vs := by
        cases b with
        | false => exact src
        | true => cases m <;> first | exact src | exact absurd ⟨rfl, _, rfl⟩ hb
      exact next Γ fps e1 G s src' fun a j hj => .inr hj
end
section
variable {r : Rd} {X : Ctx} {Y : Cx} {e : Expr} {es : List Expr} {ms : Es} {x : Str} {p pos : Pos} {n f np : Nat} {fa : Addr} {fd : FuncData} {ps : List Str}
theorem evAs_len {io : List Bool} : ∀ {ms : Es} {io : List Bool} {Γ Γ' : Env} {os : List O}, evAs X io ms Γ = .ok os Γ' → os.length = ms.len
  | .nil, _, _, _, _, h => by cases h; rfl
  | .cons m ms, io, Γ, _, _, h => by
    have h : (match io.headD false, giveS m Γ with
      | true, some i => (evAs X io.tail ms Γ).bind fun os Γ => gvO (slot Γ i) i os Γ
      | _, _ => (evE X m Γ).bind fun o Γ => (pass1 o Γ).bind fun o Γ => (evAs X io.tail ms Γ).bind fun os Γ => .ok (o :: os) Γ) = _ := h
    split at h
    · rename_i i e1 e2
      obtain ⟨os, Γ1, e, h⟩ := bind_ok h
      cases es : slot Γ1 i with
      | none => rw [es] at h; cases h
      | some o =>
        rw [es] at h
        cases h
        show os.length + 1 = ms.len + 1
        rw [evAs_len (io := io) e]
    · obtain ⟨_, Γ1, _, h⟩ := bind_ok h
      obtain ⟨_, Γ2, _, h⟩ := bind_ok h
      obtain ⟨os, Γ3, e, h⟩ := bind_ok h
      cases h
      show os.length + 1 = ms.len + 1
      rw [evAs_len (io := io) e]
theorem call_read {σ : St} {H : Hp} {Q : VK} (hK : r.K = Y.K) (hnp : ms.len = np) (q : tE r X (.call f ms) σ H Q) : tAs r X (X.io f) ms σ H fun vs H1 => spG Y.K r.X X.cf f np (X.io f) vs H1 Q fun cls d H => r.W cls d σ H := by
  obtain ⟨F, Γ, fps, g, q⟩ := q
  refine ⟨F, Γ, fps, g, ?_⟩
  have q : Ev r F H fps σ ((evAs X (X.io f) ms Γ).bind fun os Γ => match X.cf f os with
    | .ok v outs => .ok v (takeBack (X.io f) ms outs Γ)
    | .exc c fs => .exc c fs Γ
    | .bad => .bad) fun o _ F' H' fps' => ∀ v fp, Tmp r.K F H fps F' H' fps' v o fp → Q v H' := q
  cases ea : evAs X (X.io f) ms Γ with
  | bad => rw [ea] at q; exact q
  | exc c fs Γ1 => rw [ea] at q; exact q
  | ok os Γ1 =>
    rw [ea] at q
    intro F1 H1 fps1 s1 g1 vs afps gv src
    have lo : os.length = np := by rw [evAs_len (io := X.io f) ea, hnp]
    refine ⟨by rw [gv.len, lo], F1, os, afps, lo, hK ▸ gv.good g1.sub, ?_⟩
    have q : Ev r F H fps σ (match X.cf f os with
      | .ok v outs => .ok v (takeBack (X.io f) ms outs Γ1)
      | .exc c fs => .exc c fs Γ1
      | .bad => .bad) fun o _ F' H' fps' => ∀ v fp, Tmp r.K F H fps F' H' fps' v o fp → Q v H' := q
    cases ec : X.cf f os with
    | bad => rw [ec] at q; exact q
    | exc c fs =>
      rw [ec] at q
      intro F2 H2 cls d s2 sub xr
      exact q F2 H2 fps1 cls d (s1.call gv s2) (g1.call gv s2 sub) xr
    | ok o outs =>
      rw [ec] at q
      intro F2 H2 σ2 Γ2 fps2 v fp s2 g2 t ho hio
      rw [← hK] at g2 t
      have gc := g1.call gv s2 g2.sub
      have sc := s1.call gv s2
      -- the result stands apart from the caller's slots
      have tt : ∀ a ∈ fp, F2 a = none ∧ (∀ j, a ∉ fps1 j) ∧ (H a ≠ none → ∃ j, a ∈ fps j) := fun a ha => by
        obtain ⟨q1, q2, q3⟩ := t.own a ha
        refine ⟨q1, fun j hj => ?_, fun hn => ?_⟩
        · obtain ⟨k, hk⟩ := q3 (g1.own j a hj).2
          exact (gv.own k a hk).2.1 j hj
        · cases e : H a with
          | none => exact absurd e hn
          | some w =>
            apply Classical.byContradiction
            intro hx
            have nn : ∀ j, a ∉ fps j := fun j hj => hx ⟨j, hj⟩
            have h1 := s1.keep a w e nn
            obtain ⟨k, hk⟩ := q3 (by rw [h1]; simp)
            obtain ⟨j, hj⟩ := (gv.own k a hk).2.2 hn
            exact nn j hj
      have oo : ∀ i a, a ∈ fps2 i → F2 a = none ∧ (∀ j, a ∉ fps1 j) ∧ (H a ≠ none → ∃ j, a ∈ fps j) ∧ a ∉ fp := fun i a ha => by
        refine ⟨(g2.own i a ha).1, fun j hj => ?_, fun hn => ?_, fun hf => (t.own a hf).2.1 i ha⟩
        · obtain ⟨k, hk⟩ := s2.own i a ha (g1.own j a hj).2
          exact (gv.own k a hk).2.1 j hj
        · cases e : H a with
          | none => exact absurd e hn
          | some w =>
            apply Classical.byContradiction
            intro hx
            have nn : ∀ j, a ∉ fps j := fun j hj => hx ⟨j, hj⟩
            have h1 := s1.keep a w e nn
            obtain ⟨k, hk⟩ := s2.own i a ha (by rw [h1]; simp)
            obtain ⟨j, hj⟩ := (gv.own k a hk).2.2 hn
            exact nn j hj
      obtain ⟨fps3, g3, s3, n3⟩ := takeBack_ok r (F0 := F) (H0 := H) (fps0 := fps) (X.io f) ms outs vs 0 Γ1 fps1 fps2 fp gc sc (by rw [gv.len, lo, hnp]; exact Nat.le_refl _) src (fun i o' w h1 h2 h3 => by
        rw [ho] at h2
        have h4 : Γ2[i]? = some (some o') := by
          rw [List.getElem?_take] at h2
          split at h2
          · exact h2
          · cases h2
        obtain ⟨w', e1, ro⟩ := g2.env i o' h4
        have e2 := hio i w h1 h3
        rw [e1] at e2
        cases e2
        rw [Nat.zero_add]
        exact ro) (fun i a ha => oo _ a ha) g2.dis g2.nd (fun a ha => (tt a ha).2.1)
      exact q F2 H2 fps3 s3 g3 v fp ⟨t.rep, fun a ha => ⟨(tt a ha).1, n3 a ha, (tt a ha).2.2⟩, t.nd⟩
theorem pe_callE (D : FnG Y.prog Y.w Y.K Y.mg Y.base n fa fd ps (spG Y.K r.X X.cf f np (X.io f))) (room : Room n Y.A) (guard : Y.A.guards = some []) (hg : Gl Y x) (hm : Y.mg x = some (.ref fa)) (hk : PySem.W.keepIn Y.K (.ref fa) = true) (hb : Binds Y.K fd ps [])
    (tk : Takes Y r.W) (hK : r.K = Y.K) (ha : PA Y (e :: es) (tAs r X (X.io f) ms)) (hnp : ms.len = np) (hdb : (x == ("__debug__" : Str)) = false) (he : starEach (e :: es) Y.env = (false, eval e Y.env) :: starEach es Y.env) (hpl : (backTo pos (starEach es Y.env)).any (·.1) = false) :
    PE Y (.Call (.Name x p) (e :: es) [] pos) (tE r X (.call f ms)) :=
  (pe_callG (E := fun σ cls d H => r.W cls d σ H) D room guard hg hm hk hb (fun σ => passAt tk σ) ha hdb he hpl).imp fun σ H Q q => call_read hK hnp q
end
end MI

set_option maxRecDepth 100000
/-! MIr: a tuple's or a list's items backward. -/
namespace MI
open L2 PySem PyProof.Rows PySem.Spec
theorem filterMap_same {α β : Type} {f h : α → Option β} : ∀ {l : List α}, (∀ k ∈ l, f k = h k) → l.filterMap f = l.filterMap h
  | [], _ => rfl
  | k :: l, e => by
    rw [List.filterMap_cons, List.filterMap_cons, e k (by simp), filterMap_same fun j hj => e j (by simp [hj])]
theorem pick_back (xs : Array Value) : ((List.range xs.size).filterMap fun (k : Nat) => xs[(((xs.size : Int) - 1) + (k : Int) * (-1)).toNat]?).toArray = xs.toList.reverse.toArray := by
  have h1 : (List.range xs.size).filterMap (fun (k : Nat) => xs[(((xs.size : Int) - 1) + (k : Int) * (-1)).toNat]?) = ((List.range xs.size).map fun k => xs.size - 1 - k).filterMap (xs[·]?) := by
    rw [List.filterMap_map]
    refine filterMap_same fun k hk => ?_
    have := List.mem_range.mp hk
    show xs[(((xs.size : Int) - 1) + (k : Int) * (-1)).toNat]? = xs[xs.size - 1 - k]?
    rw [show (((xs.size : Int) - 1) + (k : Int) * (-1)).toNat = xs.size - 1 - k by omega]
  rw [h1, PySem.W.krv_range, List.filterMap_reverse, PySem.W.krv_all]
section
variable {s : Shared} {E : Value → Shared → Prop} {A : Around} {w : World} {prog : Program}
theorem applied_back {sl : Addr} {t : Tok} {n : Nat} {Q : Int × Int × Nat → Shared → Prop} (hs : s.heap.IsSliceOf sl .none .none (.int (-1) t)) (h : Q ((n : Int) - 1, -1, n) s) : wpAny (model prog w) A (Builtin.Slice.sliceApplied (.ref sl) (pure (n : Int))) Q E s := by
  obtain ⟨ob, hob, _, hfs⟩ := id hs
  unfold Builtin.Slice.sliceApplied
  unfold Builtin.Slice.sliceFields
  refine wpAny_bind (wpAny_bind (wpAny_field hob hfs (x := .none) rfl (wpAny_bind (wpAny_field hob hfs (x := .none) rfl (wpAny_bind (wpAny_field hob hfs (x := .int (-1) t) rfl (wpAny_pure ?_)))))))
  refine wpAny_bind (slicePart_int ?_)
  show wpAny _ _ (if ((-1 : Int) == 0) = true then _ else _) _ _ s
  rw [if_neg (by decide)]
  refine wpAny_bind (slicePart_none (wpAny_bind (slicePart_none (wpAny_bind (wpAny_pure ?_)))))
  have e1 : Builtin.Slice.sliceAdjust none none (-1) (n : Int) = ((n : Int) - 1, -1) := rfl
  have e2 : Builtin.Slice.slicePlaces ((n : Int) - 1) (-1) (-1) = n := by
    delta Builtin.Slice.slicePlaces
    rw [if_neg (by decide)]
    split
    · rw [show (- -1 : Int) = 1 by decide, Int.ediv_one]
      omega
    · omega
  show wpAny _ _ (match Builtin.Slice.sliceAdjust none none (-1) (n : Int) with | (lo, hi) => pure (lo, (-1 : Int), Builtin.Slice.slicePlaces lo hi (-1))) _ _ s
  rw [e1]
  show wpAny _ _ (pure ((n : Int) - 1, (-1 : Int), Builtin.Slice.slicePlaces ((n : Int) - 1) (-1) (-1))) _ _ s
  rw [e2]
  exact wpAny_pure h
theorem item_back {t sl : Addr} {items : Array Value} {tk : Tok} {Q : Value → Shared → Prop} (ht : IsTup s.heap t items) (hs : s.heap.IsSliceOf sl .none .none (.int (-1) tk)) (hz : items.size ≤ sizeLine)
    (h : Q (.ref s.heap.objs.size) { s with heap := s.heap.push { cls := .type "tuple", data := .seq items.toList.reverse.toArray } }) : wpAny (model prog w) A (getItem (.ref t) (.ref sl)) Q E s := by
  have fits : sizeOk (.seq items.toList.reverse.toArray) := by
    show items.toList.reverse.toArray.size ≤ sizeLine
    simpa using hz
  obtain ⟨ob, hob, hcb, _⟩ := id hs
  have isl : s.TypeIs (.ref sl) "slice" := ⟨ob, hob, hcb⟩
  unfold getItem
  try (with_reducible refine wpAny_holding ?_)
  try (refine wpAny_bind (wpAny_pure ?_))
  refine wpAny_bind (wpAny_sequenceKey ht.typeIs (by decide) (wpAny_bind (wpAny_callSpecial?_slot (name := Str.ofString "__getitem__") ht.typeIs PyProof.Rows.slot_tuple_getitem
    (wpAny_call_entry PyProof.Rows.slot_tuple_getitem ht.typeIs entry_tuple_getitem ?_ (args_tuple_getitem _ _)))))
  show wpAny _ _ (bind (Builtin.Tuple.tupleItemsOf (.ref t)) _) _ _ s
  refine wpAny_bind (tupleItemsOf_ ht (wpAny_bind (wpAny_typeOf isl ?_)))
  rw [if_pos (by decide)]
  refine wpAny_bind (applied_back hs ?_)
  have no : ¬ ((((items.size : Int) - 1) == 0 && (-1 : Int) == 1 && items.size == items.size) = true) := by simp
  show wpAny _ _ (if (((items.size : Int) - 1) == 0 && (-1 : Int) == 1 && items.size == items.size) = true then _ else _) _ _ s
  rw [if_neg no, pick_back]
  first
    | exact wpAny_bind (m := Builtin.Tuple.tupleExact _) (wpAny_newObj_type (wpAny_pure ⟨_, rfl, wpAny_pure h⟩) fits)
    | exact wpAny_bind (m := Builtin.Tuple.tupleExact _) (wpAny_newObj_type (wpAny_bind (wpAny_pure (wpAny_pure ⟨_, rfl, wpAny_pure h⟩))) fits)
    | exact wpAny_bind (wpAny_bind (m := Builtin.Tuple.tupleExact _) (wpAny_newObj_type (wpAny_pure (wpAny_pure ⟨_, rfl, wpAny_pure h⟩)) fits))
    | exact wpAny_bind (wpAny_bind (m := Builtin.Tuple.tupleExact _) (wpAny_newObj_type (wpAny_pure ⟨_, rfl, wpAny_pure h⟩) fits))
end
section
variable {r : Rd} {X : Ctx} {Y : Cx} {a : Expr} {ma : E} {p1 p2 p3 pos : Pos} {kk : Nat} {te : TE}
def tBack (K : PySem.W.Frag) (te : TE) : TE := fun σ H Q => te σ H fun x H1 => ∃ q xs, x = .ref q ∧ ((H1 q = some (.lst xs) ∧ ∀ p, H1 p = none → Q (.ref p) (upd H1 p (.lst xs.reverse))) ∨ (SqT K H1 q xs ∧ ∀ p u, H1 p = none → NT u xs.reverse → Q (.ref p) (upd H1 p u)))
theorem pe_back (he : PE Y a te) : PE Y (.Subscript a (.Slice none none (some (.UnaryOp .USub (.Constant (.int 1) kk p1) p2)) p3) pos) (tBack Y.K te) := by
  refine ⟨fun pn s σ H Q I h => Subscript_ (thn (he.run pn s σ H _ I h) fun v s1 ⟨x, H1, I1, r1, q, xs, ex, hq⟩ => ?_)⟩
  subst ex
  cases r1
  have part : PO Y (some (.UnaryOp .USub (.Constant (.int 1) kk p1) p2)) (tPart (tUn (rU fun i => .int (-i)) (tC (.int 1)))) := po_some (pe_un un_neg pe_int)
  refine wpAny_Slice (thn (po_none.run pn s1 σ H1 (fun o H2 => o = none ∧ H2 = H1) I1 ⟨rfl, rfl⟩) fun vl s2 ⟨l, H2, I2, pl, z1, z2⟩ => ?_)
  subst z1 z2
  refine thn (po_none.run pn s2 σ H2 (fun o H3 => o = none ∧ H3 = H2) I2 ⟨rfl, rfl⟩) fun vu s3 ⟨u, H3, I3, pu, z1, z2⟩ => ?_
  subst z1 z2
  refine thn (part.run pn s3 σ H3 (fun o H4 => o = some (-1) ∧ H4 = H3) I3 ⟨1, rfl, -1, rfl, rfl, rfl⟩) fun vs s4 ⟨o, H4, I4, ps, z1, z2⟩ => ?_
  subst z1 z2
  have I5 : Inv Y pn σ H4 { s4 with heap := s4.heap.push { cls := .type "slice", data := .fields #[vl, vu, vs] } } := I4.kept (t' := s4.toks) fun b ob q => Heap.get?_push_of_some _ q
  show wpAny (model Y.prog Y.w) Y.A (subscriptTail a (.Slice none none (some (.UnaryOp .USub (.Constant (.int 1) kk p1) p2)) p3) (.ref q) (.ref s4.heap.objs.size)) (EP Y pn σ Q) Y.xe { s4 with heap := s4.heap.push { cls := .type "slice", data := .fields #[vl, vu, vs] } }
  rcases hq with ⟨hx, k⟩ | ⟨hx, k⟩
  · obtain ⟨its, r, ht, hz⟩ := I5.list (.inl (.inl hx) : SqL Y.K H4 q xs)
    have hlen := r.length
    refine tail_any (ops := [.ref q, .ref s4.heap.objs.size]) ht.isList.typeIs PySem.slot_list_getitem.lookup (wpAny_getItem_list_slice ht.isList (Heap.IsSliceOf.new _ vl vu vs) pl pu ps (by decide) ?_ (by rw [List.size_toArray]; omega)) (by with_unfolding_all rfl)
    rw [PySem.W.krv_pick]
    exact ⟨.ref _, _, I5.laid (t' := s4.toks) (o := .lst xs.reverse) (fun b ob q => Heap.get?_push_of_some _ q) (Nat.le_refl _) ⟨by rw [List.length_reverse]; exact hz, _, 0, r.reverse, Heap.get?_push_size _ rfl⟩, rfl, k _ (I5.hok.fresh (Nat.le_refl _))⟩
  · obtain ⟨its, r, ht, hz⟩ := I5.tuple hx
    have hlen := r.length
    cases pl
    cases pu
    cases ps
    refine tail_any (ops := [.ref q, .ref s4.heap.objs.size]) ht.typeIs PyProof.Rows.slot_tuple_getitem.lookup (item_back ht (Heap.IsSliceOf.new _ _ _ _) (by rw [List.size_toArray]; omega) ?_) (by with_unfolding_all rfl)
    obtain ⟨u, n, I6⟩ := laidN I5 r.reverse (by rw [List.length_reverse]; exact hz)
    exact ⟨.ref _, _, I6, rfl, k _ _ (I5.hok.fresh (Nat.le_refl _)) n⟩
theorem revD_new {x : D} {o : O} (h : revD x = some o) : canNew o = true := by cases x <;> cases h <;> rfl
theorem pe_revE (hK : r.K = Y.K) (ha : PE Y a (tB r X ma)) : PE Y (.Subscript a (.Slice none none (some (.UnaryOp .USub (.Constant (.int 1) kk p1) p2)) p3) pos) (tE r X (.rev ma)) :=
  (pe_back ha).imp fun σ H Q ⟨F, Γ, fps, g, q⟩ => ⟨F, Γ, fps, g, by
    have q : Ev r F H fps σ ((opB ma Γ (evE X ma Γ)).bind fun p Γ => (rdB p Γ).bind fun x Γ => optR (revD x) Γ) _ := q
    refine Ev.imp q.bind fun p Γ1 F1 H1 fps1 s1 g1 k v bv => ?_
    obtain ⟨x, Γ2, F2, fps2, s2, g2, rx, k⟩ := rdB_ok g1 bv k.bind
    cases e : revD x with
    | none => rw [e] at k; exact k.elim
    | some o =>
      rw [e] at k
      have nv := newV_of (s1.trans s2) g2 (revD_new e) k
      cases x <;> simp only [revD] at e <;> try cases e
      · obtain ⟨q, vs, rfl, h1, l1, r1⟩ := rx.lst_inv
        exact ⟨q, vs, rfl, .inl ⟨h1, fun p hp => nv p _ hp (by rw [List.length_reverse]; exact l1) r1.reverse⟩⟩
      · obtain ⟨q, vs, rfl, h1, l1, r1⟩ := rx.tup_inv
        exact ⟨q, vs, rfl, .inr ⟨hK ▸ g2.sub.sqT h1.sq, fun p u hp n => nv.tup hp n (by rw [List.length_reverse]; exact l1) g2.sub r1.reverse⟩⟩⟩
end
end MI

set_option maxRecDepth 100000
/-! MIs: sorted of lists and tuples of whole numbers. -/
namespace SrtO
open PySem PyProof.Rows Srt
section
variable {s : Shared} {E : Value → Shared → Prop} {A : Around} {w : World} {prog : Program}
/-- where a row of values has been collected -/
def gath (h : Heap) (vs : List Value) : Heap := (h.push (seqObj "list" #[] 0)).update h.objs.size (Obj.mapSeq (· ++ vs.toArray))
theorem gath_size (h : Heap) (vs : List Value) : (gath h vs).objs.size = h.objs.size + 1 := (Heap.size_update ..).trans (size_push' ..)
theorem gath_old {h : Heap} {vs : List Value} {b : Addr} {o : Obj} (e : h.get? b = some o) : (gath h vs).get? b = some o := by
  unfold gath
  rw [Heap.get?_update_ne _ _ _ _ (Nat.ne_of_lt (Heap.lt_size e))]
  exact Heap.get?_push_of_some _ (id e)
theorem collect_tupA {t : Addr} {vs : List Value} {Q : List Value → Shared → Prop} (ht : IsTup s.heap t vs.toArray) (hz : vs.length ≤ sizeLine) (h : Q vs { s with heap := gath s.heap vs }) : wpAny (model prog w) A (collect (.ref t)) Q E s := by
  obtain ⟨ob, hob, hcl, k, hda⟩ := id ht
  unfold collect
  refine wpAny_bind ?_
  refine wpAny_runValue (codeAny_builtin entry_proto_collect' ?_)
  show wpAny _ _ (do again (.builtin "list.__iadd__" ⟨[← newList [], .ref t], []⟩)) _ _ s
  refine wpAny_bind (wpAny_newList (wpAny_pure ⟨Code.quiet_builtin _ (by decide +kernel), ?_⟩))
  refine codeAny_builtin entry_list_iadd' ?_
  show wpAny _ _ (Builtin.List.listExtendWith (.ref s.heap.objs.size) (.ref t) (.ref s.heap.objs.size)) _ _ { s with heap := s.heap.push (seqObj "list" #[] 0) }
  delta Builtin.List.listExtendWith
  have kept : (s.heap.push (seqObj "list" #[] 0)).get? t = some ob := Heap.get?_push_of_some _ hob
  refine wpAny_bind (wpAny_typeOf (T := "tuple") ⟨ob, kept, hcl⟩ ?_)
  have same : (Value.type "tuple" == Value.type "tuple") = true := by rfl
  rw [if_pos (by rw [same]; simp)]
  refine wpAny_bind (listItems_at kept hda (wpAny_bind (listItems_at (xs := #[]) (n := 0) (Heap.get?_push_size _ rfl) rfl ?_)))
  rw [if_neg (by simp)]
  refine wpAny_bind (listUpdate_at (xs := #[]) (n := 0) (Heap.get?_push_size _ rfl) rfl (wpAny_pure ?_) (Nat.zero_le _) (by show (#[] ++ vs.toArray).size ≤ sizeLine + 1; simp only [Array.size_append, List.size_toArray, List.length_nil]; omega))
  show wpAny (model prog w) A (do -- what is read at last
      let o ← load s.heap.objs.size
      match o.data with
      | .seq xs _ => pure xs.toList
      | _ => unsupported "internal:collect") Q E { s with heap := gath s.heap vs }
  have here := get?_update_seq (Heap.get?_push_size (o := seqObj "list" #[] 0) s.heap rfl) (· ++ vs.toArray)
  refine wpAny_bind (wpAny_load here ?_)
  show wpAny _ _ (pure (Array.toList (#[] ++ vs.toArray))) Q E _
  have e : ((#[] : Array Value) ++ vs.toArray).toList = vs := by simp
  rw [e]
  exact wpAny_pure h
/-- sorted of what is collected so -/
theorem sorted_gath {v : Value} {vs : List Value} {lt : Value → Value → Bool} {Q : Value → Shared → Prop} (O : Swo lt) (hz : vs.length ≤ sizeLine) (col : ∀ Q' : List Value → Shared → Prop, Q' vs { s with heap := gath s.heap vs } → wpAny (model prog w) A.in1 (collect v) Q' E s)
    (ord : 2 ≤ vs.length → ∀ (h₁ : Heap) (a : Addr), h₁.get? a = some (seqObj "list" vs.toArray 0) → (∀ b o, s.heap.get? b = some o → b ≠ a ∧ h₁.get? b = some o) → SortableO prog w A.in1.in1 { s with heap := h₁ } a vs lt)
    (h : ∀ out : List Value, Srtd lt out → Stb lt out vs → Q (.ref (s.heap.objs.size + 1)) { s with heap := sortedAll s.heap vs out.toArray }) : wpAny (model prog w) A (call (.builtin "sorted") [v]) Q E s := by
  apply Calls.call_function_entry kind_sorted plain_sorted entry_sorted (args_sorted1 _)
  unfold Builtin.«sorted»
  refine wpAny_bind (m := checkCount "sorted" 1 1 _) ?_
  refine wpAny_pure ?_
  refine wpAny_bind (col _ (wpAny_bind (wpAny_newList ?_ hz)))
  have at1 : ((gath s.heap vs).push (seqObj "list" vs.toArray 0)).get? (s.heap.objs.size + 1) = some (seqObj "list" vs.toArray 0) := by
    rw [← gath_size s.heap vs]
    exact Heap.get?_push_size (gath s.heap vs) rfl
  have old : ∀ b o, s.heap.get? b = some o → b ≠ s.heap.objs.size + 1 ∧ ((gath s.heap vs).push (seqObj "list" vs.toArray 0)).get? b = some o := fun b o e =>
    ⟨Nat.ne_of_lt (Nat.lt_succ_of_lt (Heap.lt_size e)), Heap.get?_push_of_some _ (gath_old e)⟩
  show wpAny _ _ _ _ _ { s with heap := (gath s.heap vs).push (seqObj "list" vs.toArray 0) }
  rw [gath_size]
  refine wpAny_bind (wpAny_holding (wpAny_call_entry slot_list_sort ⟨_, at1, rfl⟩ entry_list_sort (list_sort_ord O at1 hz (fun h2 => ord h2 _ _ at1 old) fun out hs hb => ⟨_, rfl, ?_⟩) (args_list_sort _)))
  exact wpAny_pure ⟨.ref (s.heap.objs.size + 1), rfl, h out hs hb⟩
end
end SrtO
namespace MI
open L2 PySem PyProof.Rows PySem.Spec
section
variable {X : Cx}
theorem cr_sorted : CallR X (.builtin "sorted") (r1 X.K (blt .sorted)) := by
  intro pn s σ H xs us Q I rv h
  obtain ⟨F, v, x, o, rfl, sub, hx, e, nv⟩ := h
  simp only [blt, Option.map_eq_some_iff, Option.bind_eq_some_iff] at e
  obtain ⟨ns, ⟨ys, e0, e1⟩, rfl⟩ := e
  obtain ⟨u, rfl, ru⟩ := vals1 rv
  -- what is laid at the end
  have fin : ∀ (its out : List Value), Vals (ns.map V.int) its → IntsAre its ns → its.length ≤ sizeLine → SrtO.Srtd SrtO.ltIv out → SrtO.Stb SrtO.ltIv out its →
      EP X pn σ Q (.ref (s.heap.objs.size + 1)) { s with heap := sortedAll s.heap its out.toArray } := fun its out rvs hi hz h1 h2 => by
    have ⟨k1, k2, k3⟩ := SrtO.ints_out hi h1 h2
    obtain ⟨ep, he⟩ := PyProof.Rows.sortedAll_at s.heap its out.toArray
    have hl : ((out.map SrtO.iv).map V.int).length ≤ sizeLine := by
      rw [List.length_map, k2.length_eq, ← List.length_map (f := V.int), rvs.length]
      exact hz
    refine ⟨.ref _, upd H (s.heap.objs.size + 1) (.lst ((out.map SrtO.iv).map V.int)), I.laid (t' := s.toks) (fun _ _ => PyProof.Rows.sortedAll_old) (Nat.le_succ _) ⟨hl, out, ep, vals_of_ints k1, he⟩, rfl, ?_⟩
    refine nv _ _ (I.hok.fresh (Nat.le_succ _)) hl ?_
    rw [sortI_eq k2 k3]
    exact RDs.ofInts _
  cases x <;> simp only [items] at e0 <;> try cases e0
  · obtain ⟨a, vs, rfl, h1, l1, r1⟩ := hx.lst_inv
    obtain ⟨rfl, _⟩ := r1.intsOf e1
    cases ru
    obtain ⟨its, rvs, hl, hz⟩ := I.list (.inl (.inl h1) : SqL X.K H a (ns.map V.int))
    have hi := rvs.ints
    exact SrtO.sorted_ord SrtO.swo_int hl.isList (by rw [← rvs.length]; exact hz) (fun h2 h₁ a' _ _ => SrtO.ints_sortable hi h2) fun out k1 k2 => fin its out rvs hi (by rw [← rvs.length]; exact hz) k1 k2
  · obtain ⟨a, vs, rfl, h1, l1, r1⟩ := hx.tup_inv
    obtain ⟨rfl, _⟩ := r1.intsOf e1
    cases ru
    obtain ⟨its, rvs, hl, hz⟩ := I.tuple (sub.sqT h1.sq)
    have hi := rvs.ints
    have hz' : its.length ≤ sizeLine := by rw [← rvs.length]; exact hz
    exact SrtO.sorted_gath SrtO.swo_int hz' (fun Q' q => SrtO.collect_tupA hl hz' q) (fun h2 h₁ a' _ _ => SrtO.ints_sortable hi h2) fun out k1 k2 => fin its out rvs hi hz' k1 k2
end
end MI

set_option maxRecDepth 100000
/-! MI9: more expressions: chains, displays of dicts, own lists' pops, negatives, sorted. -/
namespace MI
open L2 PySem PyProof.Rows PySem.Spec
section
variable {r : Rd} {X : Ctx} {Y : Cx} {a b c : Expr} {ma mb mc : E} {pos : Pos} {op op2 : Cop} {cp cp2 : CmpOp}
theorem chain_E {σ : St} {H : Hp} {Q : VK} (q : tE r X (.chain op op2 ma mb mc) σ H Q) : tChain (rC r.K (cop op)) (rC r.K (cop op2)) (tD r X ma) (tD r X mb) (tD r X mc) σ H Q := by
  obtain ⟨F, Γ, fps, g, q⟩ := q
  have q : Ev r F H fps σ ((evE X ma Γ).toD.bind fun x Γ => (evE X mb Γ).toD.bind fun y Γ => (optR (cop op x y) Γ).bind fun r Γ => match r with
    | false => .ok (O.d (.bool false)) Γ
    | true => (evE X mc Γ).toD.bind fun z Γ => (optR (cop op2 y z) Γ).bind fun r Γ => .ok (O.d (.bool r)) Γ) _ := q
  refine ⟨F, Γ, fps, g, q.bind.imp fun x Γ1 F1 H1 fps1 s1 g1 k v hv => ⟨F1, Γ1, fps1, g1, k.bind.imp fun y Γ2 F2 H2 fps2 s2 g2 k w hw => ?_⟩⟩
  obtain ⟨b, e, k⟩ := k.bind.opt g2
  refine ⟨F2, x, y, b, g2.sub, RD.rv g2.sub (hv.mono s2.sub), RD.rv g2.sub hw, e, b, rfl, ?_⟩
  cases b with
  | false => exact iteF ((k.ok g2) _ [] (Tmp.data (.bl _)))
  | true =>
    refine iteT ⟨F2, Γ2, fps2, g2, (Ev.bind (a := (evE X mc Γ2).toD) k).imp fun z Γ3 F3 H3 fps3 s3 g3 k u hu => ?_⟩
    obtain ⟨b, e, k⟩ := k.bind.opt g3
    exact ⟨F3, y, z, b, g3.sub, RD.rv g3.sub (hw.mono s3.sub), RD.rv g3.sub hu, e, (k.ok g3) _ [] (Tmp.data (.bl _))⟩
theorem pe_chainE (h1 : OpR Y (compareOp cp) (rC r.K (cop op))) (h2 : OpR Y (compareOp cp2) (rC r.K (cop op2))) (ha : PE Y a (tE r X ma)) (hb : PE Y b (tE r X mb)) (hc : PE Y c (tE r X mc)) (hm : lastMarks [cp, cp2] [b, c] = false) :
    PE Y (.Compare a [cp, cp2] [b, c] pos) (tE r X (.chain op op2 ma mb mc)) := (pe_chain h1 h2 (pe_D ha) (pe_D hb) (pe_D hc) hm).imp fun _ _ _ q => chain_E q
theorem pe_negE (ha : PE Y a (tE r X ma)) : PE Y (.UnaryOp .USub a pos) (tE r X (.neg ma)) :=
  (pe_un un_neg (pe_D ha)).imp fun σ H Q ⟨F, Γ, fps, g, q⟩ => ⟨F, Γ, fps, g, by
    have q : Ev r F H fps σ ((evE X ma Γ).toD.bind fun x Γ => match x with
      | .int i => .ok (O.d (.int (-i))) Γ
      | _ => .bad) _ := q
    refine q.bind.imp fun x Γ1 F1 H1 fps1 s1 g1 k v hv => ?_
    cases x <;> try exact k.elim
    rename_i i
    exact ⟨i, hv.int_inv, (k.ok g1) _ [] (Tmp.data (.int _))⟩⟩
end
/-! ### an own object written -/
section
variable {K : PySem.W.Frag} {F0 H0 F H : Hp} {σ : St} {Γ : Env} {fps0 fps : Nat → List Addr} {i : Nat} {p : Addr} {o o' : O} {u : HO}
theorem Good.write (G : Good K F H σ Γ fps) (hf : fps i = [p]) (hv : σ[i]? = some (some (.ref p))) (hr : RO K F (upd H p u) (.ref p) o' [p]) : Good K F (upd H p u) σ (Γ.set i (some o')) fps := by
  have pi : p ∈ fps i := by rw [hf]; simp
  have hF : F p = none := (G.own i p pi).1
  have il : i < Γ.length := by
    rw [G.len]
    exact (List.getElem?_eq_some_iff.mp hv).1
  refine ⟨fun a w h => ?_, by simpa using G.len, fun j oj e => ?_, fun j hj => ?_, fun j a ha => ⟨(G.own j a ha).1, ?_⟩, G.dis, G.nd⟩
  · have : a ≠ p := fun z => by subst z; rw [hF] at h; cases h
    rw [upd_ne this]
    exact G.sub a w h
  · by_cases e1 : j = i
    · subst e1
      rw [List.getElem?_set_self il] at e
      cases e
      exact ⟨.ref p, hv, by rw [hf]; exact hr⟩
    · rw [List.getElem?_set_ne (Ne.symm e1)] at e
      obtain ⟨v, ev, ro⟩ := G.env j oj e
      refine ⟨v, ev, ro.step (Sub.refl F) fun a ha w hw => ?_⟩
      have : a ≠ p := fun z => e1 (G.dis j i a ha (z ▸ pi))
      rw [upd_ne this]
      exact hw
  · by_cases e1 : j = i
    · subst e1
      exact absurd (List.getElem?_set_self il) (hj o')
    · exact G.nil j fun oj e => hj oj (by rw [List.getElem?_set_ne (Ne.symm e1)]; exact e)
  · by_cases e1 : a = p
    · subst e1; rw [upd_same]; simp
    · rw [upd_ne e1]; exact (G.own j a ha).2
theorem Step.write (s : Step F0 H0 fps0 F H fps) (hf : p ∈ fps i) : Step F0 H0 fps0 F (upd H p u) fps := by
  refine s.trans ⟨Sub.refl F, fun a w h n => ?_, fun _ _ h _ _ => h, fun j a h _ => ⟨j, h⟩⟩
  have : a ≠ p := fun z => n i (z ▸ hf)
  rw [upd_ne this]
  exact h
/-- an object that no slot has, written -/
theorem Good.over (G : Good K F H σ Γ fps) (n : ∀ j, p ∉ fps j) (hF : F p = none) : Good K F (upd H p u) σ Γ fps := by
  refine ⟨fun a w h => ?_, G.len, fun j oj e => ?_, G.nil, fun j a ha => ⟨(G.own j a ha).1, ?_⟩, G.dis, G.nd⟩
  · have : a ≠ p := fun z => by subst z; rw [hF] at h; cases h
    rw [upd_ne this]
    exact G.sub a w h
  · obtain ⟨v, ev, ro⟩ := G.env j oj e
    refine ⟨v, ev, ro.step (Sub.refl F) fun a ha w hw => ?_⟩
    have : a ≠ p := fun z => n j (z ▸ ha)
    rw [upd_ne this]
    exact hw
  · have : a ≠ p := fun z => n j (z ▸ ha)
    rw [upd_ne this]
    exact (G.own j a ha).2
theorem Step.over (s : Step F0 H0 fps0 F H fps) (h0 : H0 p = none) : Step F0 H0 fps0 F (upd H p u) fps := by
  refine ⟨s.sub, fun a w h n => ?_, s.frz, s.own⟩
  have : a ≠ p := fun z => by subst z; rw [h0] at h; cases h
  rw [upd_ne this]
  exact s.keep a w h n
end
/-! ### pops -/
section
variable {r : Rd} {X : Ctx} {Y : Cx} {e : Expr} {m : E} {i : Nat} {x : Str} {p apos cpos : Pos}
theorem isL_at {Γ : Env} (h : isL (slot Γ i) = true) : ∃ xs, Γ[i]? = some (some (.l xs)) := by
  cases e : slot Γ i with
  | none => (rw [e] at h; cases h)
  | some o => cases o with
    | l xs => exact ⟨xs, slot_some e⟩
    | _ => rw [e] at h; cases h
theorem Good.lst {K : PySem.W.Frag} {F H : Hp} {σ : St} {Γ : Env} {fps : Nat → List Addr} {xs : List D} (g : Good K F H σ Γ fps) (e : Γ[i]? = some (some (.l xs))) :
    ∃ a vs, σ[i]? = some (some (.ref a)) ∧ fps i = [a] ∧ H a = some (.lst vs) ∧ vs.length ≤ sizeLine ∧ RDs K F vs xs := by
  obtain ⟨v, ev, ro⟩ := g.env i _ e
  obtain ⟨a, vs, rfl, hf, h1, l1, r1⟩ := ro.inv_l
  exact ⟨a, vs, ev, hf, h1, l1, r1⟩
theorem pe_popE (h : PE Y (.Name x p) (tVar i)) (hbase : attributeBase (.Name x p) "pop" Y.env (eval (.Name x p) Y.env) = eval (.Name x p) Y.env) (hline : (apos.endLine == cpos.line) = true) : PE Y (.Call (.Attribute (.Name x p) "pop" apos) [] [] cpos) (tE r X (.pop i)) :=
  (pe_bm0 PySem.F.plainAttrs_list PySem.F.slot_list_pop PySem.F.type_list_pop (fun pn s σ H x xs v us Q I rx rv h => mt_pop pn s σ H x xs v us Q I rx rv h) h hbase hline).imp fun σ H Q ⟨F, Γ, fps, g, q⟩ => by
    have q : Ev r F H fps σ ((optR (popEnd (slot Γ i)) Γ).bind fun p Γ => .ok (O.d p.1) (Γ.set i (some (.l p.2)))) _ := q
    obtain ⟨⟨y, ys⟩, e, q⟩ := q.bind.opt g
    cases es : slot Γ i with
    | none => rw [es] at e; cases e
    | some o => cases o with
      | l xs =>
        rw [es] at e
        simp only [popEnd, Option.map_eq_some_iff] at e
        obtain ⟨y', e1, e2⟩ := e
        cases e2
        obtain ⟨a, vs, ev, hf, h1, l1, r1⟩ := g.lst (slot_some es)
        obtain ⟨w, hw, rw'⟩ := r1.get e1
        rw [← r1.length] at hw
        refine ⟨.ref a, ev, .inl ⟨rfl, vs, .inl (.inl h1)⟩, a, vs, w, rfl, rfl, h1, hw, ?_⟩
        have l2 : vs.dropLast.length ≤ sizeLine := Nat.le_trans (by simp) l1
        have g2 := g.write (u := .lst vs.dropLast) hf ev (.l upd_same l2 r1.dropLast)
        exact q _ _ _ (Step.refl.write (by rw [hf]; simp)) g2 w [] (Tmp.data rw')
      | _ => rw [es] at e; cases e
theorem Ev.ret {F H : Hp} {fps : Nat → List Addr} {σ : St} {α β : Type} {a : R α} {f : α → β} {P : Pst β} (h : Ev r F H fps σ a fun x Γ' F' H' fps' => P (f x) Γ' F' H' fps') : Ev r F H fps σ (a.bind fun x Γ => .ok (f x) Γ) P := by
  cases a <;> exact h
theorem nix_seq {n j : Nat} {i : Int} (h : nix n i = some j) : seqIndex? i n = some j := (ixN_seq h).1
theorem pe_popatE (h : PE Y (.Name x p) (tVar i)) (ha : PA Y [e] (tDs r X (.cons m .nil))) (hbase : attributeBase (.Name x p) "pop" Y.env (eval (.Name x p) Y.env) = eval (.Name x p) Y.env)
    (hfew : ((backTo cpos (starEach [e] Y.env)).all (fun x => !x.1) && (backToKw cpos (keywordEach [] Y.env)).all (fun x => x.1.isSome) && decide ([e].length + ([] : List Keyword).length + (if ([] : List Keyword).isEmpty then 0 else 1) < 30)) = true)
    (hline : (apos.endLine == cpos.line) = true) (hs : starEach [e] Y.env = (false, eval e Y.env) :: starEach [] Y.env) :
    PE Y (.Call (.Attribute (.Name x p) "pop" apos) [e] [] cpos) (tE r X (.popat i m)) :=
  (pe_bm PySem.F.plainAttrs_list PySem.F.slot_list_pop PySem.F.type_list_pop (fun pn s σ H x xs v us Q I rx rv h => mt_popAt pn s σ H x xs v us Q I rx rv h) h ha hbase hfew hline hs (by rfl)).imp fun σ H Q ⟨F, Γ, fps, g, q⟩ => by
    have q : Ev r F H fps σ (match isL (slot Γ i) with
      | false => .bad
      | true => (evE X m Γ).toD.bind fun j Γ => (optR (popAt (slot Γ i) j) Γ).bind fun p Γ => .ok (O.d p.1) (Γ.set i (some (.l p.2)))) _ := q
    cases hl : isL (slot Γ i) with
    | false => rw [hl] at q; exact q.elim
    | true =>
      rw [hl] at q
      obtain ⟨xs0, e0⟩ := isL_at hl
      obtain ⟨a, vs0, ev, _, h0, _⟩ := g.lst e0
      refine ⟨.ref a, ev, .inl ⟨rfl, vs0, .inl (.inl h0)⟩, F, Γ, fps, g, ?_⟩
      have e1 : evDs X (.cons m .nil) Γ = (evE X m Γ).toD.bind fun x Γ => .ok [x] Γ := rfl
      rw [e1]
      refine Ev.ret (f := fun x => [x]) ((Ev.bind (a := (evE X m Γ).toD) q).imp fun j Γ1 F1 H1 fps1 s1 g1 k ws rds => ?_)
      · obtain ⟨⟨y, ys⟩, e, k⟩ := k.bind.opt g1
        cases rds with
        | cons hj t =>
          cases t
          cases es : slot Γ1 i with
          | none => rw [es] at e; cases e
          | some o => cases o with
            | l xs =>
              rw [es] at e
              cases j <;> simp only [popAt] at e <;> try cases e
              rename_i j
              split at e
              · rename_i hr
                simp only [Option.map_eq_some_iff, Option.bind_eq_some_iff] at e
                obtain ⟨n, e2, y', e3, e4⟩ := e
                cases e4
                obtain ⟨a', vs, ev', hf, h1, l1, r1⟩ := g1.lst (slot_some es)
                rw [ev] at ev'
                cases ev'
                obtain ⟨w, hw, rw'⟩ := r1.get e3
                simp only [rngOk, Bool.and_eq_true, small_iff] at hr
                refine ⟨a, vs, j, n, w, rfl, by rw [hj.int_inv], h1, by omega, by omega, by rw [r1.length]; exact nix_seq e2, hw, ?_⟩
                have l2 : (vs.eraseIdx n).length ≤ sizeLine := Nat.le_trans (List.length_eraseIdx_le _ _) l1
                have g2 := g1.write (u := .lst (vs.eraseIdx n)) hf ev (.l upd_same l2 (r1.eraseIdx n))
                exact k _ _ _ (Step.refl.write (by rw [hf]; simp)) g2 w [] (Tmp.data rw')
              · cases e
            | _ => rw [es] at e; cases e
end

/-! ### displays of dicts -/
section
variable {K : PySem.W.Frag} {F H : Hp}
theorem RKs.any (k : Key) : ∀ {kvs : List (Key × V)} {ds : List (D × D)}, RKs K F kvs ds → (ds.any fun kv => PyData.eqv kv.1 (kD k)) = (kvs.any fun kv => decide (kv.1 = k))
  | _, _, .nil => rfl
  | _, _, .cons e h r => by
    subst e
    rw [List.any_cons, List.any_cons, RKs.any k r, kD_eqv]
theorem RKs.repl (k : Key) {v : V} {d : D} (hv : RD K F v d) : ∀ {kvs : List (Key × V)} {ds : List (D × D)}, RKs K F kvs ds → RKs K F (kvs.map fun kv => if kv.1 = k then (kv.1, v) else kv) (ds.map fun kv => if PyData.eqv kv.1 (kD k) then (kv.1, d) else kv)
  | _, _, .nil => .nil
  | _, _, .cons (k := k') e h r => by
    subst e
    rw [List.map_cons]
    rw [List.map_cons]
    simp only [kD_eqv]
    by_cases e : k' = k
    · simp only [e, decide_true, if_true]
      exact .cons rfl hv (RKs.repl k hv r)
    · simp only [e, decide_false, if_false, Bool.false_eq_true]
      exact .cons rfl h (RKs.repl k hv r)
theorem RKs.snoc {k : Key} {v : V} {d : D} (hv : RD K F v d) : ∀ {kvs : List (Key × V)} {ds : List (D × D)}, RKs K F kvs ds → RKs K F (kvs ++ [(k, v)]) (ds ++ [(kD k, d)])
  | _, _, .nil => .cons rfl hv .nil
  | _, _, .cons e h r => .cons e h (RKs.snoc hv r)
theorem RKs.put {kvs : List (Key × V)} {ds : List (D × D)} (r : RKs K F kvs ds) (k : Key) {v : V} {d : D} (hv : RD K F v d) : RKs K F (putK kvs k v) (kvPut ds (kD k) d) := by
  unfold putK kvPut
  rw [r.any k]
  by_cases e : (kvs.any fun kv => decide (kv.1 = k)) = true
  · rw [if_pos e, if_pos e]
    exact r.repl k hv
  · rw [if_neg e, if_neg e]
    exact r.snoc hv
theorem RKs.merge : ∀ {more : List (Key × V)} {ps : List (D × D)} {kvs : List (Key × V)} {ds : List (D × D)}, RKs K F more ps → RKs K F kvs ds → RKs K F (mergeK kvs more) (putAll ds ps)
  | _, _, _, _, .nil, r0 => r0
  | _, _, _, _, .cons (k := k) e h r, r0 => by
    subst e
    have q := RKs.merge r (r0.put k h)
    exact q
/-- pairs in one row -/
def flat : List (V × V) → List V
  | [] => []
  | p :: ps => p.1 :: p.2 :: flat ps
theorem flat_len : ∀ ps : List (V × V), (flat ps).length = 2 * ps.length
  | [] => rfl
  | p :: ps => by
    show (flat ps).length + 1 + 1 = 2 * (ps.length + 1)
    rw [flat_len ps]
    omega
theorem flat_pairs : ∀ {ps : List (V × V)} {xs : List D} {qs : List (D × D)}, RDs K F (flat ps) xs → pairUp xs = some qs → keysOk qs = true → ∃ kvs : List (Key × V), ps = kvs.map (fun kv => (kV kv.1, kv.2)) ∧ RKs K F kvs qs
  | [], _, _, r, e, _ => by
    cases r
    cases e
    exact ⟨[], rfl, .nil⟩
  | p :: ps, _, _, r, e, hk => by
    obtain ⟨p1, p2⟩ := p
    cases r with
    | cons h1 r =>
      cases r with
      | cons h2 r =>
        simp only [pairUp, Option.map_eq_some_iff] at e
        obtain ⟨qs, e, rfl⟩ := e
        simp only [keysOk, List.all_cons, Bool.and_eq_true] at hk
        obtain ⟨kvs, rfl, rk⟩ := flat_pairs r e hk.2
        obtain ⟨k, rfl⟩ := keyOk_kD hk.1
        refine ⟨(k, p2) :: kvs, ?_, .cons rfl h2 rk⟩
        have e1 : p1 = kV k := h1.key
        subst e1
        rfl
end
section
variable {r : Rd} {X : Ctx} {Y : Cx} {pos : Pos}
def dTrs (r : Rd) (X : Ctx) : Es → List (TE × TE)
  | .cons k (.cons v es) => (tD r X k, tD r X v) :: dTrs r X es
  | _ => []
def evenE : Es → Bool
  | .nil => true
  | .cons _ .nil => false
  | .cons _ (.cons _ es) => evenE es
theorem pairs_E {σ : St} : ∀ {es : Es} {F H : Hp} {Γ : Env} {fps : Nat → List Addr} {Q : List (V × V) → Hp → Prop}, evenE es = true → Good r.K F H σ Γ fps → Ev r F H fps σ (evDs X es Γ) (fun xs _ F' H' _ => ∀ ps, RDs r.K F' (flat ps) xs → Q ps H') → tPairs (dTrs r X es) σ H Q
  | .nil, F, H, Γ, fps, Q, _, g, q => by
    have q : Ev r F H fps σ (.ok [] Γ) _ := q
    exact q.ok g [] .nil
  | .cons _ .nil, _, _, _, _, _, h, _, _ => by cases h
  | .cons k (.cons v es), F, H, Γ, fps, Q, h, g, q => by
    have q : Ev r F H fps σ ((evE X k Γ).toD.bind fun x Γ => ((evE X v Γ).toD.bind fun y Γ => (evDs X es Γ).bind fun xs Γ => .ok (y :: xs) Γ).bind fun xs Γ => .ok (x :: xs) Γ) _ := q
    refine ⟨F, Γ, fps, g, q.bind.imp fun x Γ1 F1 H1 fps1 s1 g1 k w hw => ?_⟩
    rw [bind_assoc] at k
    refine ⟨F1, Γ1, fps1, g1, k.bind.imp fun y Γ2 F2 H2 fps2 s2 g2 k u hu => ?_⟩
    rw [bind_assoc] at k
    refine pairs_E (es := es) h g2 (k.bind.imp fun xs Γ3 F3 H3 fps3 s3 g3 k ps rds => ?_)
    exact ((k.bind).ok g3).ok g3 ((w, u) :: ps) (.cons (hw.mono (s2.sub.trans s3.sub)) (.cons (hu.mono s3.sub) rds))
theorem pe_dctE {keys : List (Option Expr)} {values : List Expr} {ms : Es} (h : PPs Y pos keys values (dTrs r X ms)) (hall : keys.all (·.isSome) = true) (hl : keys.length = values.length) (h0 : keys ≠ []) (h15 : keys.length ≤ 15) (hev : evenE ms = true) (hms : ms.len ≤ 30) :
    PE Y (.Dict keys values pos) (tE r X (.dct ms)) :=
  (pe_disp h hall hl h0 h15).imp fun σ H Q ⟨F, Γ, fps, g, q⟩ p hp => by
    have q : Ev r F H fps σ ((evDs X ms Γ).bind fun xs Γ => (optR (pairUp xs) Γ).bind fun ps Γ => match keysOk ps with
      | true => .ok (O.k (putAll [] ps)) Γ
      | false => .bad) _ := q
    have g0 := g.newO (u := .dK []) hp
    cases em : evDs X ms Γ with
    | bad => rw [em] at q; exact q.elim
    | exc c fs Γ1 =>
      rw [em] at q
      exact pairs_E hev g0 (by rw [em]; exact Ev.step (a := (.exc c fs Γ1 : R O)) q (Step.newO hp))
    | ok xs Γ1 =>
      rw [em] at q
      refine pairs_E hev g0 ?_
      rw [em]
      intro F1 H1 fps1 s1 g1 ps rds
      cases eu : pairUp xs with
      | none =>
        have q : Ev r F H fps σ ((optR (pairUp xs) Γ1).bind _) _ := q
        rw [eu] at q; exact q.elim
      | some qs =>
        have q : Ev r F H fps σ ((optR (pairUp xs) Γ1).bind fun ps Γ => match keysOk ps with
          | true => .ok (O.k (putAll [] ps)) Γ
          | false => .bad) _ := q
        rw [eu] at q
        have q : Ev r F H fps σ (match keysOk qs with
          | true => .ok (O.k (putAll [] qs)) Γ1
          | false => .bad) _ := q
        cases hk : keysOk qs with
        | false => rw [hk] at q; exact q.elim
        | true =>
          rw [hk] at q
          obtain ⟨kvs, rfl, rk⟩ := flat_pairs rds eu hk
          have np : ∀ j, p ∉ fps j := g.notIn hp
          have h1 : H1 p = some (.dK []) := s1.keep p _ upd_same np
          have np1 : ∀ j, p ∉ fps1 j := fun j hj => by
            obtain ⟨j', hj'⟩ := s1.own j p hj (by rw [upd_same]; simp)
            exact np j' hj'
          have f1 : F1 p = none := by
            cases ef : F1 p with
            | none => rfl
            | some u =>
              have := s1.frz p u ef (by rw [upd_same]; simp) np
              rw [g.freeF hp] at this
              cases this
          have l1 : kvs.length ≤ 15 := by
            have a1 := rds.length
            rw [flat_len, List.length_map, evDs_len em] at a1
            omega
          refine ⟨h1, kvs, rfl, l1, ?_⟩
          have rk2 : RKs r.K F1 (mergeK [] kvs) (putAll [] qs) := rk.merge .nil
          have l2 : (mergeK [] kvs).length ≤ sizeLine := by
            have := length_mergeK kvs []
            rw [sizeLine_eq]
            simp only [List.length_nil] at this
            omega
          have s0 : Step F H fps F1 H1 fps1 := (Step.newO hp).trans s1
          refine q _ _ _ (s0.over hp) (g1.over np1 f1) (.ref p) [p] ⟨.k upd_same l2 rk2, fun a ha => ?_, by simp⟩
          have ea : a = p := by simpa using ha
          subst ea
          exact ⟨f1, np1, fun hn => absurd hp hn⟩
/-- {} -/
theorem pe_dct0E : PE Y (.Dict [] [] pos) (tE r X (.dct .nil)) :=
  pe_dnewK.imp fun σ H Q ⟨F, Γ, fps, g, q⟩ p hp => by
    have q : Ev r F H fps σ (.ok (O.k []) Γ) _ := q
    exact q _ _ _ (Step.newO hp) (g.newO hp) _ [p] (Tmp.newK Step.refl g hp (Nat.zero_le _) .nil)
/-! ### d.get(k), d.get(k, x) -/
def RelOD (K : PySem.W.Frag) (F : Hp) : Option V → Option D → Prop
  | none, none => True
  | some v, some d => RD K F v d
  | _, _ => False
theorem RKs.dget {K : PySem.W.Frag} {F : Hp} {kvs : List (Key × V)} {ds : List (D × D)} (rk : RKs K F kvs ds) (k : Key) : RelOD K F (valV kvs k) (kvGet ds (kD k)) := by
  have := rk.get k
  cases e : kvGet ds (kD k) with
  | none => rw [e] at this; rw [this]; exact trivial
  | some d =>
    rw [e] at this
    obtain ⟨v, e1, h⟩ := this
    rw [e1]
    exact h
theorem mok_get1 (hu : Y.A.units + 1 < cLine) : MOk Y "get" .get1 1 where
  ids := fun kd hon => by
    cases kd with
    | dct =>
      refine ⟨"dict.get", ⟨PySem.F.plainAttrs_dict, PySem.F.slot_dict_get, PySem.F.type_dict_get⟩, fun pn s σ H v vs u us Q F x xs o I ru rus hk sub rx rds e nv => ?_⟩
      cases x <;> first | cases hk | skip
      rcases xs with _ | ⟨d, _ | ⟨d2, t⟩⟩ <;> simp only [mth] at e <;> try cases e
      split at e <;> cases e
      rename_i kvs hko
      obtain ⟨a, ws, rfl, h1, l1, r1⟩ := rx.dct_inv
      cases rds with
      | cons hd t =>
        cases t
        obtain ⟨uw, rfl, ruw⟩ := vals1 rus
        have kk : keyOk d = true := by simp only [kindOk, Bool.and_eq_true] at hko; exact hko.1
        obtain ⟨k, rfl⟩ := keyOk_kD kk
        rw [hd.key] at ruw
        have ue : u = Value.ref a := ru
        subst ue
        refine d_get1 hu I (DGet.k h1) ruw fun w' s' I' rw' => ⟨_, H, I', rw', nv.1 _ ?_⟩
        have := r1.dget k
        cases e1 : valV ws k <;> cases e2 : kvGet kvs (kD k) <;> rw [e1, e2] at this
        · exact .non
        · exact this.elim
        · exact this.elim
        · exact this
    | _ => cases hon
theorem mok_get2 (hu : Y.A.units + 1 < cLine) : MOk Y "get" .get2 2 where
  ids := fun kd hon => by
    cases kd with
    | dct =>
      refine ⟨"dict.get", ⟨PySem.F.plainAttrs_dict, PySem.F.slot_dict_get, PySem.F.type_dict_get⟩, fun pn s σ H v vs u us Q F x xs o I ru rus hk sub rx rds e nv => ?_⟩
      cases x <;> first | cases hk | skip
      rcases xs with _ | ⟨d, _ | ⟨d2, _ | ⟨d3, t⟩⟩⟩ <;> simp only [mth] at e <;> try cases e
      split at e <;> cases e
      rename_i kvs hko
      obtain ⟨a, ws, rfl, h1, l1, r1⟩ := rx.dct_inv
      cases rds with
      | cons hd t =>
        cases t with
        | cons hd2 t =>
          cases t
          obtain ⟨uw, uz, rfl, ruw, ruz⟩ := vals2 rus
          have kk : keyOk d = true := by simp only [kindOk, Bool.and_eq_true] at hko; exact hko.1
          obtain ⟨k, rfl⟩ := keyOk_kD kk
          rw [hd.key] at ruw
          have ue : u = Value.ref a := ru
          subst ue
          refine d_get2 hu I (DGet.k h1) ruw ruz fun w' s' I' rw' => ⟨_, H, I', rw', nv.1 _ ?_⟩
          have := r1.dget k
          cases e1 : valV ws k <;> cases e2 : kvGet kvs (kD k) <;> rw [e1, e2] at this
          · exact hd2
          · exact this.elim
          · exact this.elim
          · exact this
    | _ => cases hon
/-! ### constants of the module -/
theorem pe_globE {g : Nat} {x : Str} {p : Pos} {v : V} {u : Value} {d : D} (hg : Gl Y x) (hm : Y.mg x = some u) (rv : RelV v u) (hd : (x == ("__debug__" : Str)) = false) (hx : X.gl g = some d) (k : ∀ F, RD r.K F v d) : PE Y (.Name x p) (tE r X (.glob g)) :=
  pe_cE (pe_glob hg hm rv hd) k fun Γ => by
    show (match X.gl g with
      | some x => R.ok (O.d x) Γ
      | none => .bad) = _
    rw [hx]
end
end MI

set_option maxRecDepth 100000
/-! MI10: what is walked; list comprehensions. -/
namespace MI
open L2 PySem PyProof.Rows PySem.Spec
/-- an item as it is served: data, or a tuple just made -/
def Item (K : PySem.W.Frag) (lo : Bool) (F H H' : Hp) (v : V) (d : D) : Prop := (H' = H ∧ RD K F v d) ∨ lo = true ∧ ∃ T vs ds, v = .ref T ∧ H T = none ∧ H' = upd H T (.tup vs) ∧ d = .tuple ds ∧ RDs K F vs ds
/-- J serves xs, in every later state -/
structure Wk (K : PySem.W.Frag) (lo : Bool) (F0 : Hp) (J : It) (xs : List D) : Prop where
  len : xs.length ≤ sizeLine
  stop : ∀ i F H, Sub F0 F → Sub F H → xs.length ≤ i → J.stop i H
  go : ∀ i F H, Sub F0 F → Sub F H → i < xs.length → J.go i H
  yld : ∀ i F H H' v d, Sub F0 F → Sub F H → xs[i]? = some d → J.yld i H v H' → Item K lo F H H' v d
/-- what is walked, by the mini interpreter -/
def tI (r : Rd) (X : Ctx) (it : I) : TI := fun σ H R => ∃ F Γ fps, Good r.K F H σ Γ fps ∧ Ev r F H fps σ (evI X it Γ) fun xs _ F' H' _ => ∀ J, Wk r.K it.lo F' J xs → R J H'
section
variable {r : Rd} {X : Ctx} {Y : Cx} {tg e a b c : Expr} {m ma mb mc : E} {p pos : Pos}
theorem wk_list {K : PySem.W.Frag} {F : Hp} {q : Addr} {vs : List V} {xs : List D} (h : F q = some (.lst vs)) (l : vs.length ≤ sizeLine) (r : RDs K F vs xs) : Wk K false F (Itl K q) xs := by
  have at' : ∀ {G H : Hp}, Sub F G → Sub G H → SqL K H q vs := fun s1 s2 => .inl (.inl (s2 _ _ (s1 _ _ h)))
  refine ⟨by rw [← r.length]; exact l, fun i G H s1 s2 hi => ⟨vs, at' s1 s2, by rw [r.length]; exact hi⟩, fun i G H s1 s2 hi => ?_, fun i G H H' v d s1 s2 hd hy => ?_⟩
  · obtain ⟨v, hv, _⟩ := r.get (List.getElem?_eq_getElem hi)
    exact ⟨vs, v, at' s1 s2, hv⟩
  · obtain ⟨e1, k⟩ := hy
    obtain ⟨v', hv, rv⟩ := r.get hd
    rw [k vs (at' s1 s2)] at hv
    cases hv
    exact .inl ⟨e1, rv.mono s1⟩
theorem wk_tup {K : PySem.W.Frag} {F : Hp} {q : Addr} {vs : List V} {xs : List D} (h : SqN K F q vs) (l : vs.length ≤ sizeLine) (r : RDs K F vs xs) : Wk K false F (Itt K q) xs := by
  have at' : ∀ {G H : Hp}, Sub F G → Sub G H → SqT K H q vs := fun s1 s2 => s2.sqT (s1.sqT h.sq)
  refine ⟨by rw [← r.length]; exact l, fun i G H s1 s2 hi => ⟨vs, at' s1 s2, by rw [r.length]; exact hi⟩, fun i G H s1 s2 hi => ?_, fun i G H H' v d s1 s2 hd hy => ?_⟩
  · obtain ⟨v, hv, _⟩ := r.get (List.getElem?_eq_getElem hi)
    exact ⟨vs, v, at' s1 s2, hv⟩
  · obtain ⟨e1, k⟩ := hy
    obtain ⟨v', hv, rv⟩ := r.get hd
    rw [k vs (at' s1 s2)] at hv
    cases hv
    exact .inl ⟨e1, rv.mono s1⟩
/-- a list or a tuple walked -/
theorem pi_any {tl : TE} (hl : PE Y e tl) : PI Y tg e (fun σ H R => tl σ H fun x H1 => ∃ q xs, x = .ref q ∧ ((SqL Y.K H1 q xs ∧ R (Itl Y.K q) H1) ∨ (SqT Y.K H1 q xs ∧ R (Itt Y.K q) H1))) := by
  refine ⟨fun pn s σ H R I h => thn (hl.run pn s σ H _ I h) fun v s1 ⟨x, H1, I1, r1, q, xs, ex, h2⟩ => ?_⟩
  subst ex
  cases r1
  have here : ∀ b ∈ [s1.heap.objs.size], FpOk Y pn H1 b := fun b hb => by
    have eb : b = s1.heap.objs.size := by simpa using hb
    subst eb
    exact I1.fpOk Nat.le.refl (I1.hok.fresh Nat.le.refl)
  rcases h2 with ⟨hs, k⟩ | ⟨hs, k⟩
  · obtain ⟨its, rv, pl, _⟩ := I1.list hs
    exact wpAny_pyIter_list pl.isList ⟨_, [s1.heap.objs.size], _, _, H1, rfl, I1.kept (t' := s1.toks) fun b o z => Heap.get?_push_of_some _ z, turn_list q _, ⟨_, Heap.get?_push_size _ rfl, rfl, rfl⟩, here, k⟩
  · obtain ⟨its, rv, pl, _⟩ := I1.tuple hs
    exact wpAny_pyIter_tuple (show s1.heap.IsTuple q its.toArray from pl) ⟨_, [s1.heap.objs.size], _, _, H1, rfl, I1.kept (t' := s1.toks) fun b o z => Heap.get?_push_of_some _ z, turn_tuple q _, ⟨_, Heap.get?_push_size _ rfl, rfl, rfl⟩, here, k⟩
theorem pi_seqE (hK : r.K = Y.K) (h : PE Y e (tE r X m)) : PI Y tg e (tI r X (.seq m)) :=
  (pi_any (pe_D h)).imp fun σ H R ⟨F, Γ, fps, g, q⟩ => ⟨F, Γ, fps, g, by
    have q : Ev r F H fps σ ((evE X m Γ).toD.bind fun x Γ => optR (items x) Γ) _ := q
    refine q.bind.imp fun x Γ1 F1 H1 fps1 s1 g1 k v hv => ?_
    obtain ⟨xs, e, k2⟩ := k.opt g1
    clear k
    rw [← hK]
    cases x <;> simp only [items] at e <;> cases e
    · cases hv with
      | lst h l r => exact ⟨_, _, rfl, .inl ⟨.inl (.inl (g1.sub _ _ h)), k2 _ (wk_list h l r)⟩⟩
    · cases hv with
      | tup h l r => exact ⟨_, _, rfl, .inr ⟨g1.sub.sqT h.sq, k2 _ (wk_tup h l r)⟩⟩⟩
theorem wk_rng {K : PySem.W.Frag} {F : Hp} {lo : Int} {n : Nat} {xs : List D} (e : xs = (List.range n).map fun (k : Nat) => PyData.int (lo + k)) (hn : n ≤ sizeLine) : Wk K false F (Itr lo n) xs := by
  subst e
  refine ⟨by simpa using hn, fun i G H _ _ hi => by simpa [Itr] using hi, fun i G H _ _ hi => by simpa [Itr] using hi, fun i G H H' v d _ _ hd hy => ?_⟩
  obtain ⟨e1, rfl⟩ := hy
  rw [List.getElem?_map, Option.map_eq_some_iff] at hd
  obtain ⟨k, hk, rfl⟩ := hd
  have : k = i := by
    rw [List.getElem?_eq_some_iff] at hk
    obtain ⟨h1, h2⟩ := hk
    simpa using h2.symm
  subst this
  exact .inl ⟨e1, .int _⟩
theorem pi_rng1E (hg : Gl Y "range") (hm : Y.mg "range" = none) (ha : PE Y a (tE r X ma)) (hs : starEach [a] Y.env = [(false, eval a Y.env)]) (hs2 : starEach [a] Y.env = (false, eval a Y.env) :: starEach [] Y.env) :
    PI Y tg (.Call (.Name "range" p) [a] [] pos) (tI r X (.rng1 ma)) :=
  (pi_range1 hg hm (pa_consD ha pa_nilD hs2) hs).imp fun σ H R ⟨F, Γ, fps, g, q⟩ => ⟨F, Γ, fps, g, by
    have q : Ev r F H fps σ ((evE X ma Γ).toD.bind fun x Γ => optR (rngD [x]) Γ) _ := q
    refine Ev.ret (f := fun x => [x]) (q.bind.imp fun x Γ1 F1 H1 fps1 s1 g1 k vs rds => ?_)
    obtain ⟨xs, e, k⟩ := k.opt g1
    cases rds with
    | cons hd t =>
      cases t
      cases x <;> simp only [rngD] at e <;> try cases e
      rename_i j
      split at e
      · cases e
        rename_i hr
        simp only [rngOk, Bool.and_eq_true, small_iff] at hr
        refine ⟨j, by rw [hd.int_inv], by omega, by omega, k _ (wk_rng ?_ ?_)⟩
        · simp
        · rw [sizeLine_eq]; omega
      · cases e⟩
theorem pi_rng2E (hg : Gl Y "range") (hm : Y.mg "range" = none) (ha : PE Y a (tE r X ma)) (hb : PE Y b (tE r X mb)) (hs : starEach [a, b] Y.env = [(false, eval a Y.env), (false, eval b Y.env)]) (hs2 : starEach [b] Y.env = [(false, eval b Y.env)])
    (hs3 : starEach [a, b] Y.env = (false, eval a Y.env) :: starEach [b] Y.env) (hs4 : starEach [b] Y.env = (false, eval b Y.env) :: starEach [] Y.env) : PI Y tg (.Call (.Name "range" p) [a, b] [] pos) (tI r X (.rng2 ma mb)) :=
  (pi_range2 hg hm (pa_consD ha (pa_consD hb pa_nilD hs4) hs3) hs hs2).imp fun σ H R ⟨F, Γ, fps, g, q⟩ => ⟨F, Γ, fps, g, by
    have q : Ev r F H fps σ ((evE X ma Γ).toD.bind fun x Γ => (evE X mb Γ).toD.bind fun y Γ => optR (rngD [x, y]) Γ) _ := q
    have e0 : evDs X (.cons ma (.cons mb .nil)) Γ = (evE X ma Γ).toD.bind fun x Γ => ((evE X mb Γ).toD.bind fun y Γ => .ok [y] Γ).bind fun xs Γ => .ok (x :: xs) Γ := rfl
    show Ev r F H fps σ (evDs X (.cons ma (.cons mb .nil)) Γ) _
    rw [e0]
    cases e1 : (evE X ma Γ).toD with
    | bad => rw [e1] at q; exact q
    | exc c fs Γ1 => rw [e1] at q; exact q
    | ok x Γ1 =>
      rw [e1] at q
      have q : Ev r F H fps σ ((evE X mb Γ1).toD.bind fun y Γ => optR (rngD [x, y]) Γ) _ := q
      show Ev r F H fps σ (((evE X mb Γ1).toD.bind fun y Γ => .ok [y] Γ).bind fun xs Γ => .ok (x :: xs) Γ) _
      refine Ev.ret (f := fun xs => x :: xs) (Ev.ret (f := fun y => [y]) (q.bind.imp fun y Γ2 F2 H2 fps2 s2 g2 k vs rds => ?_))
      obtain ⟨xs, e, k2⟩ := k.opt g2
      clear k
      cases rds with
      | cons hd t =>
        cases t with
        | cons hd2 t =>
          cases t
          clear e1 q
          cases x <;> cases y <;> simp only [rngD] at e <;> try cases e
          rename_i i j
          split at e
          · cases e
            rename_i hr
            simp only [rngOk, Bool.and_eq_true, small_iff] at hr
            refine ⟨i, j, by rw [hd.int_inv, hd2.int_inv], by omega, k2 _ (wk_rng rfl ?_)⟩
            rw [sizeLine_eq]; omega
          · cases e⟩
end

/-! ### targets -/
theorem wipe_get {σ : St} {j : Nat} : ∀ {is : List Nat}, (L2.wipe σ is)[j]? = if j ∈ is then (σ[j]?).map fun _ => none else σ[j]?
  | [] => by simp [L2.wipe]
  | i :: is => by
    unfold L2.wipe
    by_cases e : i = j
    · subst e
      by_cases h : i < σ.length
      · rw [List.getElem?_set_self (by rw [wipe_length]; exact h), List.getElem?_eq_getElem h]
        simp
      · rw [List.getElem?_eq_none (by rw [List.length_set, wipe_length]; omega), List.getElem?_eq_none (by omega)]
        simp
    · rw [List.getElem?_set_ne e, wipe_get (is := is)]
      have : (j ∈ i :: is) ↔ j ∈ is := by simp [Ne.symm e]
      simp [this]
theorem wipeE_len {Γ : Env} : ∀ is : List Nat, (MI.wipe Γ is).length = Γ.length
  | [] => rfl
  | i :: is => by
    show ((MI.wipe Γ is).set i none).length = _
    rw [List.length_set, wipeE_len is]
theorem wipeE_get {Γ : Env} {j : Nat} : ∀ {is : List Nat}, (MI.wipe Γ is)[j]? = if j ∈ is then (Γ[j]?).map fun _ => none else Γ[j]?
  | [] => by simp [MI.wipe]
  | i :: is => by
    show ((MI.wipe Γ is).set i none)[j]? = _
    by_cases e : i = j
    · subst e
      by_cases h : i < Γ.length
      · rw [List.getElem?_set_self (by rw [wipeE_len]; exact h), List.getElem?_eq_getElem h]
        simp
      · rw [List.getElem?_eq_none (by rw [List.length_set, wipeE_len]; omega), List.getElem?_eq_none (by omega)]
        simp
    · rw [List.getElem?_set_ne e, wipeE_get (is := is)]
      have : (j ∈ i :: is) ↔ j ∈ is := by simp [Ne.symm e]
      simp [this]
theorem wipe_same {σ σ2 : St} {is : List Nat} (hl : σ2.length = σ.length) (h : ∀ j, j ∉ is → σ2[j]? = σ[j]?) : L2.wipe σ2 is = L2.wipe σ is := by
  apply List.ext_getElem?
  intro j
  rw [wipe_get, wipe_get]
  by_cases e : j ∈ is
  · rw [if_pos e, if_pos e]
    by_cases l : j < σ.length
    · rw [List.getElem?_eq_getElem l, List.getElem?_eq_getElem (by omega)]
      rfl
    · rw [List.getElem?_eq_none (by omega), List.getElem?_eq_none (by omega)]
  · rw [if_neg e, if_neg e, h j e]
section
variable {K : PySem.W.Frag} {F0 H0 F H : Hp} {σ : St} {Γ : Env} {fps0 fps : Nat → List Addr} {v : V} {d : D}
def wipeF (fps : Nat → List Addr) (is : List Nat) : Nat → List Addr := fun j => if j ∈ is then [] else fps j
theorem wipeF_cons (fps : Nat → List Addr) (i : Nat) (is : List Nat) : (fun j => if j = i then [] else wipeF fps is j) = wipeF fps (i :: is) := by
  funext j
  unfold wipeF
  by_cases e : j = i
  · simp [e]
  · by_cases e2 : j ∈ is <;> simp [e, e2]
theorem Good.wipe (G : Good K F H σ Γ fps) : ∀ is : List Nat, Good K F H (L2.wipe σ is) (MI.wipe Γ is) (wipeF fps is)
  | [] => by
    have : wipeF fps [] = fps := by funext j; simp [wipeF]
    rw [this]
    exact G
  | i :: is => by
    have g1 := ((G.wipe is).drop i)
    rw [wipeF_cons] at g1
    refine g1.forget (i := i) (fun o e => ?_) none
    by_cases h : i < (MI.wipe Γ is).length
    · rw [List.getElem?_set_self h] at e; cases e
    · rw [List.getElem?_eq_none (by rw [List.length_set]; omega)] at e; cases e
theorem Step.wipe (s : Step F0 H0 fps0 F H fps) (is : List Nat) : Step F0 H0 fps0 F H (wipeF fps is) :=
  ⟨s.sub, s.keep, s.frz, fun j a ha hn => by
    unfold wipeF at ha
    split at ha
    · cases ha
    · exact s.own j a ha hn⟩
/-- data stored in a slot -/
theorem Good.put (G : Good K F H σ Γ fps) (h : RD K F v d) (i : Nat) : Good K F H (σ.set i (some v)) (Γ.set i (some (.d d))) (fun j => if j = i then [] else fps j) := by
  by_cases hi : i < σ.length
  · exact G.store (F0 := F) (H0 := H) (fps0 := fps) (Tmp.data h) hi
  · rw [List.set_eq_of_length_le (by omega), List.set_eq_of_length_le (by rw [G.len]; omega)]
    have : (fun j => if j = i then [] else fps j) = fps := by
      funext j
      by_cases e : j = i
      · subst e
        rw [if_pos rfl, G.nil j fun o e => ?_]
        rw [List.getElem?_eq_none (by rw [G.len]; omega)] at e
        cases e
      · rw [if_neg e]
    rw [this]
    exact G
theorem Step.put (s : Step F0 H0 fps0 F H fps) (i : Nat) : Step F0 H0 fps0 F H (fun j => if j = i then [] else fps j) := s.drop i
def T.slots : T → List Nat
  | .nm i => [i]
  | .tp is => is
def gAll : List Nat → TGs
  | [] => gNil
  | i :: is => gCons (gName i) (gAll is)
def gT (K : PySem.W.Frag) : T → TG
  | .nm i => gName i
  | .tp is => gTup K is.length (gAll is)
theorem all_ok {Q : St → Hp → Prop} : ∀ {is : List Nat} {vs : List V} {xs : List D} {σ : St} {Γ Γ' : Env} {fps : Nat → List Addr}, Good K F H σ Γ fps → Step F0 H0 fps0 F H fps → RDs K F vs xs → setAll is xs Γ = some Γ' →
    (∀ σ' fps', Good K F H σ' Γ' fps' → Step F0 H0 fps0 F H fps' → σ'.length = σ.length → (∀ j, j ∉ is → σ'[j]? = σ[j]?) → (∀ j a, a ∈ fps' j → a ∈ fps j) → Q σ' H) → gAll is vs σ H Q
  | [], _, _, σ, Γ, Γ', fps, g, s, .nil, e, k => by
    cases e
    exact ⟨rfl, k σ fps g s rfl (fun _ _ => rfl) fun _ _ h => h⟩
  | [], _, _, _, _, _, _, _, _, .cons _ _, e, _ => by cases e
  | i :: is, _, _, _, _, _, _, _, _, .nil, e, _ => by cases e
  | i :: is, _, _, σ, Γ, Γ', fps, g, s, .cons (v := v) (vs := vs) h r, e, k => by
    refine ⟨v, vs, rfl, ?_⟩
    refine all_ok (g.put h i) (s.put i) r e fun σ' fps' g' s' hl hk hf => k σ' fps' g' s' (by rw [hl, List.length_set]) (fun j hj => ?_) fun j a ha => ?_
    · simp only [List.mem_cons, not_or] at hj
      rw [hk j hj.2, List.getElem?_set_ne (Ne.symm hj.1)]
    · have := hf j a ha
      by_cases e : j = i
      · simp [e] at this
      · simpa [e] using this
/-- an item goes to a target -/
theorem asg_ok {Q : St → Hp → Prop} {t : T} {Γ' : Env} (g : Good K F H σ Γ fps) (s : Step F0 H0 fps0 F H fps) (hv : RD K F v d ∨ (∃ is, t = .tp is) ∧ ∃ p vs ds, v = .ref p ∧ SqT K H p vs ∧ d = .tuple ds ∧ RDs K F vs ds) (e : asgT t d Γ = some Γ')
    (k : ∀ σ' fps', Good K F H σ' Γ' fps' → Step F0 H0 fps0 F H fps' → σ'.length = σ.length → (∀ j, j ∉ t.slots → σ'[j]? = σ[j]?) → (∀ j a, a ∈ fps' j → a ∈ fps j) → Q σ' H) : gT K t v σ H Q := by
  cases t with
  | nm i =>
    cases e
    rcases hv with hv | ⟨⟨is, h⟩, _⟩
    · refine k _ _ (g.put hv i) (s.put i) (by rw [List.length_set]) (fun j hj => ?_) fun j a ha => ?_
      · rw [List.getElem?_set_ne]
        intro z
        exact hj (by simp [T.slots, z])
      · by_cases e : j = i
        · simp [e] at ha
        · simpa [e] using ha
    · cases h
  | tp is =>
    have key : ∀ p vs ds, v = .ref p → SqT K H p vs → d = .tuple ds → RDs K F vs ds → gT K (.tp is) v σ H Q := fun p vs ds ev hs ed hr => by
      subst ed
      have el : vs.length = is.length := by
        have : ∀ (is : List Nat) (xs : List D) (Γ Γ' : Env), setAll is xs Γ = some Γ' → xs.length = is.length := by
          intro is
          induction is with
          | nil => intro xs Γ Γ' h; cases xs <;> first | rfl | cases h
          | cons i is ih => intro xs Γ Γ' h; cases xs with
            | nil => cases h
            | cons x xs => exact congrArg (· + 1) (ih xs _ _ h)
        rw [hr.length]
        exact this is ds Γ Γ' e
      exact ⟨p, vs, ev, hs, el, all_ok g s hr e k⟩
    rcases hv with hv | ⟨_, p, vs, ds, ev, hs, ed, hr⟩
    · cases hv <;> simp only [asgT] at e <;> try cases e
      rename_i a vs ds h l r
      exact key _ _ _ rfl (g.sub.sqT h.sq) rfl r
    · exact key p vs ds ev hs ed hr
end
end MI

set_option maxRecDepth 100000
/-! MI11: list comprehensions. -/
namespace MI
open L2 PySem PyProof.Rows PySem.Spec
/-- no exception is let out -/
abbrev Rd.quiet (r : Rd) : Rd := { r with W := fun _ _ _ _ => False }
section
variable {K : PySem.W.Frag} {F0 H0 F1 H1 F H : Hp} {σ : St} {Γ1 Γ2 : Env} {fps1 fps : Nat → List Addr}
theorem restore_len : ∀ is : List Nat, (restore Γ1 Γ2 is).length = Γ2.length
  | [] => rfl
  | i :: is => by
    show ((restore Γ1 Γ2 is).set i _).length = _
    rw [List.length_set, restore_len is]
theorem restore_get {j : Nat} : ∀ {is : List Nat}, (restore Γ1 Γ2 is)[j]? = if j ∈ is then (Γ2[j]?).map fun _ => keepD (Γ1[j]?.getD none) else Γ2[j]?
  | [] => by simp [restore]
  | i :: is => by
    show ((restore Γ1 Γ2 is).set i _)[j]? = _
    by_cases e : i = j
    · subst e
      by_cases h : i < Γ2.length
      · rw [List.getElem?_set_self (by rw [restore_len]; exact h), List.getElem?_eq_getElem h]
        simp
      · have h2 : Γ2[i]? = none := List.getElem?_eq_none (by omega)
        rw [List.getElem?_eq_none (by rw [List.length_set, restore_len]; omega), h2]
        simp
    · rw [List.getElem?_set_ne e, restore_get (is := is)]
      have : (j ∈ i :: is) ↔ j ∈ is := by simp [Ne.symm e]
      simp [this]
theorem keepD_some {o : Option O} {o' : O} (h : keepD o = some o') : ∃ x, o = some (.d x) ∧ o' = .d x := by
  cases o with
  | none => cases h
  | some o => cases o <;> cases h <;> exact ⟨_, rfl, rfl⟩
/-- the block's names stand as ahead -/
theorem Good.restore (G1 : Good K F1 H1 σ Γ1 fps1) (s : Sub F1 F) {is : List Nat} (G : Good K F H (L2.wipe σ is) (MI.wipe Γ2 is) fps) : Good K F H σ (restore Γ1 Γ2 is) fps := by
  have emp : ∀ i ∈ is, fps i = [] := fun i hi => G.nil i fun o e => by
    rw [wipeE_get, if_pos hi] at e
    cases h : Γ2[i]? <;> rw [h] at e <;> cases e
  refine ⟨G.sub, ?_, fun i o e => ?_, fun i hn => ?_, G.own, G.dis, G.nd⟩
  · have := G.len
    rw [wipeE_len, wipe_length] at this
    rw [restore_len]; exact this
  · rw [restore_get] at e
    by_cases hi : i ∈ is
    · rw [if_pos hi] at e
      cases h : Γ2[i]? with
      | none => rw [h] at e; cases e
      | some z =>
        rw [h] at e
        have e2 : keepD (Γ1[i]?.getD none) = some o := by simpa using e
        obtain ⟨x, e3, rfl⟩ := keepD_some e2
        have e4 : Γ1[i]? = some (some (.d x)) := by
          cases h2 : Γ1[i]? with
          | none => rw [h2] at e3; cases e3
          | some y => rw [h2] at e3; exact congrArg some e3
        obtain ⟨v, ev, ro⟩ := G1.env i _ e4
        rw [emp i hi]
        exact ⟨v, ev, .d (ro.inv_d.2.mono s)⟩
    · rw [if_neg hi] at e
      have e2 : (MI.wipe Γ2 is)[i]? = some (some o) := by rw [wipeE_get, if_neg hi]; exact e
      obtain ⟨v, ev, ro⟩ := G.env i o e2
      rw [wipe_get, if_neg hi] at ev
      exact ⟨v, ev, ro⟩
  · by_cases hi : i ∈ is
    · exact emp i hi
    · refine G.nil i fun o e => hn o ?_
      rw [wipeE_get, if_neg hi] at e
      rw [restore_get, if_neg hi]
      exact e
/-- an own list just made -/
theorem Tmp.freshL {fps0 : Nat → List Addr} {p : Addr} {vs : List V} {xs : List D} (s : Step F0 H0 fps0 F1 H1 fps1) (hp : H1 p = none) (h : H p = some (.lst vs)) (hl : vs.length ≤ sizeLine) (hr : RDs K F vs xs) (n : ∀ j, p ∉ fps j) (hF : F p = none) :
    Tmp K F0 H0 fps0 F H fps (.ref p) (.l xs) [p] := by
  refine ⟨.l h hl hr, fun a ha => ?_, by simp⟩
  have e : a = p := by simpa using ha
  subst e
  refine ⟨hF, n, fun hn => ?_⟩
  cases e : H0 a with
  | none => exact absurd e hn
  | some w =>
    apply Classical.byContradiction
    intro hx
    have n : ∀ j, a ∉ fps0 j := fun j hj => hx ⟨j, hj⟩
    rw [s.keep a w e n] at hp
    cases hp
end
section
variable {r : Rd} {X : Ctx} {Y : Cx} {e c tg iter : Expr} {me mc : E} {it : I} {t : T} {ifs : List Expr} {scope : Scope} {own : List Nat} {pos : Pos}
theorem pts_nilE : PTs Y [] (tT r X (.cst (.bool true))) := ⟨fun pn s σ H Q I ⟨F, Γ, fps, g, q⟩ => pts_nil.run pn s σ H Q I (by
  have q : Ev r F H fps σ (.ok true Γ) _ := q
  exact q.ok g)⟩
theorem pts_oneE (h : PT Y c (tT r X mc)) : PTs Y [c] (tT r X mc) := pts_one h
abbrev turns (X : Ctx) (own : List Nat) (t : T) (mc me : E) := lcLoop own t (fun Γ => (evE X mc Γ).toB) (fun Γ => (evE X me Γ).toD)
/-- a comprehension's turns hold this -/
def LcW (r : Rd) (X : Ctx) (own : List Nat) (t : T) (mc me : E) (xs ys : List D) (Γ2 : Env) (σ : St) (F1 H1 : Hp) (fps1 : Nat → List Addr) (L : Addr) (i m : Nat) (H : Hp) : Prop :=
  m = xs.length - i ∧ i ≤ xs.length ∧ ∃ F Γ fps acc accD ys', Step F1 H1 fps1 F H fps ∧ Good r.K F H (L2.wipe σ own) (MI.wipe Γ own) fps ∧ H L = some (.lst acc) ∧ (∀ j, L ∉ fps j) ∧ F L = none ∧ RDs r.K F acc accD ∧ acc.length ≤ i ∧
    turns X own t mc me (xs.drop i) Γ = .ok ys' Γ2 ∧ accD ++ ys' = ys
theorem lc_turn {σ : St} {F1 H1 : Hp} {fps1 : Nat → List Addr} {L : Addr} {xs ys : List D} {Γ2 : Env} {J : It} {i m : Nat} {H : Hp} {Q : VK} (hlo : it.lo = true → ∃ is, t = .tp is) (hsl : ∀ j ∈ t.slots, j ∈ own) (hD : H1 L = none) (wk : Wk r.K it.lo F1 J xs)
    (fin : ∀ F H fps acc, Step F1 H1 fps1 F H fps → Good r.K F H (L2.wipe σ own) (MI.wipe Γ2 own) fps → H L = some (.lst acc) → (∀ j, L ∉ fps j) → F L = none → RDs r.K F acc ys → acc.length ≤ sizeLine → Q (.ref L) H)
    (w : LcW r X own t mc me xs ys Γ2 σ F1 H1 fps1 L i m H) :
    (J.stop i H ∧ Q (.ref L) H) ∨ (J.go i H ∧ ∃ Nx : Hp → Prop, (∀ H', Nx H' → ∃ m', m' < m ∧ LcW r X own t mc me xs ys Γ2 σ F1 H1 fps1 L (i + 1) m' H') ∧ ∀ x H', J.yld i H x H' → gT r.K t x (L2.wipe σ own) H' fun σ2 H2 => L2.wipe σ2 own = L2.wipe σ own ∧ tT r.quiet X mc σ2 H2 fun b H3 =>
      if b = true then tD r.quiet X me σ2 H3 fun y H4 => ∃ acc, H4 L = some (.lst acc) ∧ acc.length < sizeLine ∧ Nx (upd H4 L (.lst (acc ++ [y]))) else Nx H3) := by
  obtain ⟨em, hi, F, Γ, fps, acc, accD, ys', s, g, hd, np, hF, ra, la, el, ey⟩ := w
  have sub1 : Sub F1 F := s.sub
  by_cases he : i < xs.length
  · right
    refine ⟨wk.go i F H sub1 g.sub he, LcW r X own t mc me xs ys Γ2 σ F1 H1 fps1 L (i + 1) (xs.length - (i + 1)), fun H' n => ⟨_, by omega, n⟩, fun v H' hy => ?_⟩
    have dr : xs.drop i = xs[i] :: xs.drop (i + 1) := List.drop_eq_getElem_cons he
    rw [dr] at el
    -- the item, and the heap it stands in
    have item := wk.yld i F H H' v xs[i] sub1 g.sub (List.getElem?_eq_getElem he) hy
    obtain ⟨g1, s1, hd1, rv⟩ : Good r.K F H' (L2.wipe σ own) (MI.wipe Γ own) fps ∧ Step F H fps F H' fps ∧ H' L = some (.lst acc) ∧ (RD r.K F v xs[i] ∨ (∃ is, t = .tp is) ∧ ∃ p vs ds, v = .ref p ∧ SqT r.K H' p vs ∧ xs[i] = .tuple ds ∧ RDs r.K F vs ds) := by
      rcases item with ⟨rfl, rv⟩ | ⟨lo, p, vs, ds, rfl, hp, rfl, ed, rd⟩
      · exact ⟨g, Step.refl, hd, .inl rv⟩
      · have : L ≠ p := fun z => by subst z; rw [hp] at hd; cases hd
        exact ⟨g.newO hp, Step.newO hp, by rw [upd_ne this]; exact hd, .inr ⟨hlo lo, p, vs, ds, rfl, .inl (.inl upd_same), ed, rd⟩⟩
    have el : (match asgT t xs[i] (MI.wipe Γ own) with
      | none => R.bad
      | some Γ1 => match (evE X mc Γ1).toB with
        | .ok true Γ2 => ((evE X me Γ2).toD).bind fun y Γ3 => (turns X own t mc me (xs.drop (i + 1)) Γ3).bind fun ys Γ4 => .ok (y :: ys) Γ4
        | .ok false Γ2 => turns X own t mc me (xs.drop (i + 1)) Γ2
        | _ => .bad) = .ok ys' Γ2 := el
    cases ea : asgT t xs[i] (MI.wipe Γ own) with
    | none => rw [ea] at el; cases el
    | some Γa =>
      rw [ea] at el
      replace el : (match (evE X mc Γa).toB with
        | .ok true Γ2 => ((evE X me Γ2).toD).bind fun y Γ3 => (turns X own t mc me (xs.drop (i + 1)) Γ3).bind fun ys Γ4 => .ok (y :: ys) Γ4
        | .ok false Γ2 => turns X own t mc me (xs.drop (i + 1)) Γ2
        | _ => .bad) = .ok ys' Γ2 := el
      refine asg_ok g1 s1 rv ea fun σ2 fps2 g2 s2 hl2 hk2 hf2 => ⟨?_, ?_⟩
      · rw [wipe_same (σ := L2.wipe σ own) hl2 fun j hj => hk2 j fun z => hj (hsl j z)]
        exact wipe_same (wipe_length σ own) fun j hj => by rw [wipe_get, if_neg hj]
      have hw : L2.wipe σ2 own = L2.wipe σ own := by
        rw [wipe_same (σ := L2.wipe σ own) hl2 fun j hj => hk2 j fun z => hj (hsl j z)]
        exact wipe_same (wipe_length σ own) fun j hj => by rw [wipe_get, if_neg hj]
      have np2 : ∀ j, L ∉ fps2 j := fun j z => np j (hf2 j L z)
      refine ⟨F, Γa, fps2, g2, ?_⟩
      -- L through a further step
      have thru : ∀ {Fa Ha : Hp} {fa : Nat → List Addr} {Fb Hb : Hp} {fb : Nat → List Addr}, Step Fa Ha fa Fb Hb fb → Ha L = some (.lst acc) → (∀ j, L ∉ fa j) → Fa L = none → Hb L = some (.lst acc) ∧ (∀ j, L ∉ fb j) ∧ Fb L = none := fun {Fa Ha fa Fb Hb fb} st h n f => by
        refine ⟨st.keep L _ h n, fun j z => ?_, ?_⟩
        · obtain ⟨j', hj'⟩ := st.own j L z (by rw [h]; simp)
          exact n j' hj'
        · cases q : Fb L with
          | none => rfl
          | some u =>
            have := st.frz L u q (by rw [h]; simp) n
            rw [f] at this
            cases this
      cases ec : (evE X mc Γa).toB with
      | bad => rw [ec] at el; cases el
      | exc c fs Γb => rw [ec] at el; cases el
      | ok b Γb =>
        rw [ec] at el
        intro F3 H3 fps3 s3 g3
        obtain ⟨hd3, np3, f3⟩ := thru s3 hd1 np2 hF
        cases b with
        | false =>
          refine iteF ⟨rfl, he, F3, Γb, wipeF fps3 own, acc, accD, ys', (s.trans (s2.trans s3)).wipe own, ?_, hd3, fun j z => ?_, f3, ra.mono s3.sub, by omega, el, ey⟩
          · have := g3.wipe own
            rw [hw] at this
            exact this
          · unfold wipeF at z
            split at z
            · cases z
            · exact np3 j z
        | true =>
          refine iteT ⟨F3, Γb, fps3, g3, ?_⟩
          obtain ⟨y, Γc, e1, e2⟩ := bind_ok (show ((evE X me Γb).toD.bind fun y Γ3 => (turns X own t mc me (xs.drop (i + 1)) Γ3).bind fun ys Γ4 => .ok (y :: ys) Γ4) = .ok ys' Γ2 from el)
          obtain ⟨yr, Γd, e3, e4⟩ := bind_ok e2
          cases e4
          rw [e1]
          intro F4 H4 fps4 s4 g4 u hu
          obtain ⟨hd4, np4, f4⟩ := thru s4 hd3 np3 f3
          have ll : acc.length < sizeLine := by have := wk.len; omega
          refine ⟨acc, hd4, ll, rfl, he, F4, Γc, wipeF fps4 own, acc ++ [u], accD ++ [y], yr, ?_, ?_, upd_same, fun j z => ?_, f4, (ra.mono (s3.sub.trans s4.sub)).append (.cons hu .nil), by simp; omega, e3, by rw [← ey]; simp⟩
          · exact Step.over ((s.trans (s2.trans (s3.trans s4))).wipe own) hD
          · have := (g4.wipe own)
            rw [hw] at this
            refine this.over (fun j z => ?_) f4
            unfold wipeF at z
            split at z
            · cases z
            · exact np4 j z
          · unfold wipeF at z
            split at z
            · cases z
            · exact np4 j z
  · left
    have e0 : xs.drop i = [] := List.drop_eq_nil_of_le (by omega)
    rw [e0] at el
    cases el
    refine ⟨wk.stop i F H sub1 g.sub (by omega), fin F H fps acc s g hd np hF (by rw [← ey]; simpa using ra) (by have := wk.len; omega)⟩
theorem lc_read {σ : St} {H : Hp} {Q : VK} (hlo : it.lo = true → ∃ is, t = .tp is) (hsl : ∀ j ∈ t.slots, j ∈ own) (q : tE r X (.lc own t it mc me) σ H Q) : tLc (tI r X it) (gT r.K t) (tT r.quiet X mc) (tD r.quiet X me) own σ H Q := by
  obtain ⟨F, Γ, fps, g, q⟩ := q
  have q : Ev r F H fps σ ((evI X it Γ).bind fun xs Γ1 => match turns X own t mc me xs Γ1 with
    | .ok ys Γ2 => .ok (O.l ys) (restore Γ1 Γ2 own)
    | _ => .bad) _ := q
  refine ⟨F, Γ, fps, g, Ev.imp q.bind fun xs Γ1 F1 H1 fps1 s1 g1 k J wk L hL => ?_⟩
  cases el : turns X own t mc me xs Γ1 with
  | bad => rw [el] at k; exact k.elim
  | exc c fs Γ2 => rw [el] at k; exact k.elim
  | ok ys Γ2 =>
    rw [el] at k
    have nL : ∀ j, L ∉ fps1 j := g1.notIn hL
    refine ⟨LcW r X own t mc me xs ys Γ2 σ F1 H1 fps1 L, ⟨_, rfl, Nat.zero_le _, F1, Γ1, wipeF fps1 own, [], [], ys, ?_, ?_, upd_same, fun j z => ?_, g1.freeF hL, .nil, Nat.le_refl _, el, rfl⟩, fun i m H' w => lc_turn hlo hsl hL wk (fun F2 H2 fps2 acc s2 g2 h2 n2 f2 ra la => ?_) w⟩
    · exact (Step.refl.wipe own).over hL
    · exact (g1.wipe own).newO hL
    · unfold wipeF at z
      split at z
      · cases z
      · exact nL j z
    · exact k F2 H2 fps2 s2 (g1.restore s2.sub g2) _ [L] (Tmp.freshL s1 hL h2 la ra n2 f2)
theorem pe_lcE {ownN : List (Str × Nat)} (ho : own = ownN.map (·.2)) (hc : Y.calm = true) (hN : Y.N.Nodup) (hK : r.K = Y.K) (hlo : it.lo = true → ∃ is, t = .tp is) (hsl : ∀ j ∈ t.slots, j ∈ own) (hi : PI Y tg iter (tI r X it)) (ok : BlkOk Y.N Y.env.scope scope ownN)
    (hg : ∀ (s : Shared) (H : Hp) (C : Addr) (cl : List (Str × Addr)) (fp : List Addr), PG (Y.blk s H scope (compEnvC scope cl C Y.env) fp) tg (gT Y.K t)) (ht : ∀ (s : Shared) (H : Hp) (C : Addr) (cl : List (Str × Addr)) (fp : List Addr), PTs (Y.blk s H scope (compEnvC scope cl C Y.env) fp) ifs (tT r.quiet X mc))
    (he : ∀ (s : Shared) (H : Hp) (C : Addr) (cl : List (Str × Addr)) (fp : List Addr), PE (Y.blk s H scope (compEnvC scope cl C Y.env) fp) e (tE r.quiet X me)) (hs : ∀ x, foldedSetIterable iter Y.env x = pure x) : PE Y (.ListComp e [⟨tg, iter, ifs, 0⟩] scope pos) (tE r X (.lc own t it mc me)) := by
  subst ho
  exact (pe_lc hc hN hi ok hg ht (fun s H C cl fp => pe_D (he s H C cl fp)) hs).imp fun σ H Q q => hK ▸ lc_read hlo hsl q
end
end MI

set_option maxRecDepth 100000
/-! MI12: statements. -/
namespace MI
open L2 PySem PyProof.Rows PySem.Spec
/-- the fixed slots keep their values -/
def Kp (fix : Nat → Bool) (σ σ' : St) : Prop := ∀ i, fix i = true → σ'[i]? = σ[i]?
theorem Kp.refl {fix : Nat → Bool} {σ : St} : Kp fix σ σ := fun _ _ => rfl
theorem Kp.trans {fix : Nat → Bool} {σ σ1 σ2 : St} (a : Kp fix σ σ1) (b : Kp fix σ1 σ2) : Kp fix σ σ2 := fun i h => (b i h).trans (a i h)
theorem Kp.set {fix : Nat → Bool} {σ : St} {i : Nat} {x : Option V} (h : fix i = false) : Kp fix σ (σ.set i x) := fun j hj => by
  have : i ≠ j := fun z => by subst z; rw [h] at hj; cases hj
  rw [List.getElem?_set_ne this]
/-- from here the ends of a statement hold D -/
def EvS (r : Rd) (fix : Nat → Bool) (F H : Hp) (fps : Nat → List Addr) (σ : St) (D : Ends) : SR → Prop
  | .nx Γ' => ∀ F' H' fps' σ', Step F H fps F' H' fps' → Good r.K F' H' σ' Γ' fps' → Kp fix σ σ' → D.nx σ' H'
  | .rt o Γ' => ∀ F' H' fps' σ' v fp, Step F H fps F' H' fps' → Good r.K F' H' σ' Γ' fps' → Kp fix σ σ' → Tmp r.K F H fps F' H' fps' v o fp → D.rt v H'
  | .bk Γ' => ∀ F' H' fps' σ', Step F H fps F' H' fps' → Good r.K F' H' σ' Γ' fps' → Kp fix σ σ' → D.bk σ' H'
  | .ct Γ' => ∀ F' H' fps' σ', Step F H fps F' H' fps' → Good r.K F' H' σ' Γ' fps' → Kp fix σ σ' → D.ct σ' H'
  | .exc c fs Γ' => ∀ F' H' fps' σ' cls d, Step F H fps F' H' fps' → Good r.K F' H' σ' Γ' fps' → Kp fix σ σ' → r.X c fs cls d F' H' → r.W cls d σ' H'
  | .bad => False
section
variable {r : Rd} {fix : Nat → Bool} {F H F' H' : Hp} {fps fps' : Nat → List Addr} {σ σ' : St} {D : Ends} {α : Type} {Γ : Env}
theorem EvS.step {sr : SR} (h : EvS r fix F H fps σ D sr) (s : Step F H fps F' H' fps') (kp : Kp fix σ σ') : EvS r fix F' H' fps' σ' D sr := by
  cases sr with
  | nx Γ' => exact fun F2 H2 fps2 σ2 s2 g k => h F2 H2 fps2 σ2 (s.trans s2) g (kp.trans k)
  | rt o Γ' => exact fun F2 H2 fps2 σ2 v fp s2 g k t => h F2 H2 fps2 σ2 v fp (s.trans s2) g (kp.trans k) (t.back s)
  | bk Γ' => exact fun F2 H2 fps2 σ2 s2 g k => h F2 H2 fps2 σ2 (s.trans s2) g (kp.trans k)
  | ct Γ' => exact fun F2 H2 fps2 σ2 s2 g k => h F2 H2 fps2 σ2 (s.trans s2) g (kp.trans k)
  | exc c fs Γ' => exact fun F2 H2 fps2 σ2 cls d s2 g k => h F2 H2 fps2 σ2 cls d (s.trans s2) g (kp.trans k)
  | bad => exact h
theorem EvS.st {a : R α} {f : α → Env → SR} (h : EvS r fix F H fps σ D (a.st f)) : Ev r F H fps σ a fun x Γ1 F1 H1 fps1 => EvS r fix F1 H1 fps1 σ D (f x Γ1) := by
  cases a with
  | ok x Γ' => exact fun F2 H2 fps2 s _ => EvS.step (sr := f x Γ') h s Kp.refl
  | exc c fs Γ' => exact fun F2 H2 fps2 cls d s g x => h F2 H2 fps2 σ cls d s g Kp.refl x
  | bad => exact h
theorem EvS.nx (h : EvS r fix F H fps σ D (.nx Γ)) (g : Good r.K F H σ Γ fps) : D.nx σ H := h F H fps σ Step.refl g Kp.refl
/-- the same ends but one -/
theorem EvS.seq {a : SR} {f : Env → SR} {P : St → Hp → Prop} (h : EvS r fix F H fps σ D (a.seq f)) (k : ∀ Γ1 F1 H1 fps1 σ1, Good r.K F1 H1 σ1 Γ1 fps1 → EvS r fix F1 H1 fps1 σ1 D (f Γ1) → P σ1 H1) : EvS r fix F H fps σ { D with nx := P } a := by
  cases a with
  | nx Γ' => exact fun F2 H2 fps2 σ2 s g kp => k Γ' F2 H2 fps2 σ2 g (EvS.step (sr := f Γ') h s kp)
  | rt o Γ' => exact h
  | bk Γ' => exact h
  | ct Γ' => exact h
  | exc c fs Γ' => exact h
  | bad => exact h
end
def tS (r : Rd) (X : Ctx) (fix : Nat → Bool) (m : S) : TS := fun D σ H => ∃ F Γ fps, Good r.K F H σ Γ fps ∧ EvS r fix F H fps σ D (evS X m Γ)
def tSs (r : Rd) (X : Ctx) (fix : Nat → Bool) (m : Ss) : TS := fun D σ H => ∃ F Γ fps, Good r.K F H σ Γ fps ∧ EvS r fix F H fps σ D (evSs X m Γ)
section
variable {r : Rd} {X : Ctx} {Y : Cx} {fix : Nat → Bool} {st : Stmt} {sts : List Stmt} {ms : S} {mss : Ss} {e e2 : Expr} {m m2 : E} {pos p p2 apos cpos : Pos} {i : Nat} {x : Str}
theorem pss_nilE : PSs Y [] (tSs r X fix .nil) := pss_nil.imp fun D σ H ⟨F, Γ, fps, g, q⟩ => by
  have q : EvS r fix F H fps σ D (.nx Γ) := q
  exact q.nx g
theorem pss_consE (h1 : PS Y st (tS r X fix ms)) (h2 : PSs Y sts (tSs r X fix mss)) : PSs Y (st :: sts) (tSs r X fix (.cons ms mss)) := (pss_cons h1 h2).imp fun D σ H ⟨F, Γ, fps, g, q⟩ => ⟨F, Γ, fps, g, by
  have q : EvS r fix F H fps σ D ((evS X ms Γ).seq (evSs X mss)) := q
  exact q.seq fun Γ1 F1 H1 fps1 σ1 g1 k => ⟨F1, Γ1, fps1, g1, k⟩⟩
/-! ### values dropped, stored, told -/
theorem ps_exprE (h : PE Y e (tE r X m)) (hs : swapsWith e none pos.line Y.env = pure false) : PS Y (.Expr e pos) (tS r X fix (.expr m)) := (ps_expr h hs).imp fun D σ H ⟨F, Γ, fps, g, q⟩ => ⟨F, Γ, fps, g, by
  have q : EvS r fix F H fps σ D ((evE X m Γ).st fun _ Γ => .nx Γ) := q
  exact q.st.imp fun o Γ1 F1 H1 fps1 s1 g1 k v fp t => k.nx g1⟩
theorem Good.putT {K : PySem.W.Frag} {F0 H0 F H : Hp} {σ : St} {Γ : Env} {fps0 fps : Nat → List Addr} {v : V} {o : O} {fp : List Addr} (g : Good K F H σ Γ fps) (s : Step F0 H0 fps0 F H fps) (t : Tmp K F0 H0 fps0 F H fps v o fp) (i : Nat) :
    ∃ fps', Good K F H (σ.set i (some v)) (Γ.set i (some o)) fps' ∧ Step F0 H0 fps0 F H fps' := by
  by_cases hi : i < σ.length
  · exact ⟨_, g.store t hi, s.store t⟩
  · rw [List.set_eq_of_length_le (by omega), List.set_eq_of_length_le (by rw [g.len]; omega)]
    exact ⟨fps, g, s⟩
theorem asg_read {D : Ends} {σ : St} {H : Hp} (hf : fix i = false) (h : tS r X fix (.asg i m) D σ H) : tE r X m σ H fun v H1 => gName i v σ H1 D.nx := by
  obtain ⟨F, Γ, fps, g, q⟩ := h
  have q : EvS r fix F H fps σ D ((evE X m Γ).st fun o Γ => .nx (Γ.set i (some o))) := q
  refine ⟨F, Γ, fps, g, ?_⟩
  cases em : evE X m Γ with
  | bad => rw [em] at q; exact q
  | exc c fs Γ1 => rw [em] at q; exact fun F2 H2 fps2 cls d s g x => q F2 H2 fps2 σ cls d s g Kp.refl x
  | ok o Γ1 =>
    rw [em] at q
    intro F1 H1 fps1 s1 g1 v fp t
    obtain ⟨fps2, g2, s2⟩ := g1.putT s1 t i
    exact q F1 H1 fps2 _ s2 g2 (Kp.set hf)
theorem ps_asgE (hN : Y.N.Nodup) (hi : Y.N[i]? = some x) (hx : Loc Y.env.scope x) (h : PE Y e (tE r X m)) (hf : fix i = false) (hs : swapsWith e (some (.Name x p)) pos.line Y.env = pure false) (hfn : Y.fn x = true ∨ Y.env.scope.names.lookup x = some .local) :
    PS Y (.Assign [.Name x p] e pos) (tS r X fix (.asg i m)) := (ps_set hN hi hx h hs hfn).imp fun D σ H q => asg_read hf q
theorem ps_retE (h : PE Y e (tE r X m)) : PS Y (.Return (some e) pos) (tS r X fix (.ret m)) := (ps_ret h).imp fun D σ H ⟨F, Γ, fps, g, q⟩ => by
  have q : EvS r fix F H fps σ D ((evE X m Γ).st fun o Γ => .rt o Γ) := q
  refine ⟨F, Γ, fps, g, ?_⟩
  cases em : evE X m Γ with
  | bad => rw [em] at q; exact q
  | exc c fs Γ1 => rw [em] at q; exact fun F2 H2 fps2 cls d s g x => q F2 H2 fps2 σ cls d s g Kp.refl x
  | ok o Γ1 =>
    rw [em] at q
    exact fun F1 H1 fps1 s1 g1 v fp t => q F1 H1 fps1 σ v fp s1 g1 Kp.refl t
theorem ps_retvE (h : PE Y (.Name x p) (tVar i)) : PS Y (.Return (some (.Name x p)) pos) (tS r X fix (.retv i)) := (ps_ret h).imp fun D σ H ⟨F, Γ, fps, g, q⟩ => by
  have q : EvS r fix F H fps σ D (match slot Γ i with
    | some o => .rt o (Γ.set i none)
    | none => .bad) := q
  cases es : slot Γ i with
  | none => rw [es] at q; exact q.elim
  | some o =>
    rw [es] at q
    obtain ⟨v, ev, ro⟩ := g.env i o (slot_some es)
    refine ⟨v, ev, q F H _ σ v (fps i) (Step.refl.drop i) (g.drop i) Kp.refl ⟨ro, fun a ha => ⟨(g.own i a ha).1, fun j hj => ?_, fun _ => ⟨i, ha⟩⟩, g.nd i⟩⟩
    by_cases e : j = i
    · simp [e] at hj
    · simp only [e, if_false] at hj
      exact e (g.dis j i a hj ha)
theorem ps_retnE : PS Y (.Return none pos) (tS r X fix .retn) := ps_retN.imp fun D σ H ⟨F, Γ, fps, g, q⟩ => by
  have q : EvS r fix F H fps σ D (.rt (.d .none) Γ) := q
  exact q F H fps σ .non [] Step.refl g Kp.refl (Tmp.data .non)
theorem ps_passE : PS Y (.Pass pos) (tS r X fix .pass) := ps_pass.imp fun D σ H ⟨F, Γ, fps, g, q⟩ => by
  have q : EvS r fix F H fps σ D (.nx Γ) := q
  exact q.nx g
theorem ps_brkE : PS Y (.Break pos) (tS r X fix .brk) := ps_break.imp fun D σ H ⟨F, Γ, fps, g, q⟩ => by
  have q : EvS r fix F H fps σ D (.bk Γ) := q
  exact q F H fps σ Step.refl g Kp.refl
theorem ps_contE : PS Y (.Continue pos) (tS r X fix .cont) := ps_continue.imp fun D σ H ⟨F, Γ, fps, g, q⟩ => by
  have q : EvS r fix F H fps σ D (.ct Γ) := q
  exact q F H fps σ Step.refl g Kp.refl
/-! ### if, for, while -/
variable {c : Expr} {mc : E} {a b : List Stmt} {ma mb : Ss}
theorem ps_ifE (hc : PT Y c (tT r X mc)) (ha : PSs Y a (tSs r X fix ma)) (hb : PSs Y b (tSs r X fix mb)) : PS Y (.If c a b pos) (tS r X fix (.ife mc ma mb)) := (ps_if hc ha hb).imp fun D σ H ⟨F, Γ, fps, g, q⟩ => ⟨F, Γ, fps, g, by
  have q : EvS r fix F H fps σ D ((evE X mc Γ).toB.st fun b Γ => match b with
    | true => evSs X ma Γ
    | false => evSs X mb Γ) := q
  refine q.st.imp fun t Γ1 F1 H1 fps1 s1 g1 k => ?_
  cases t with
  | true => exact iteT ⟨F1, Γ1, fps1, g1, k⟩
  | false => exact iteF ⟨F1, Γ1, fps1, g1, k⟩⟩
/-- the turns of a for hold this -/
def ForW (r : Rd) (X : Ctx) (fix : Nat → Bool) (t : T) (mb : Ss) (xs : List D) (σ0 : St) (F1 H1 : Hp) (fps1 : Nat → List Addr) (D : Ends) (i m : Nat) (σ : St) (H : Hp) : Prop :=
  m = xs.length - i ∧ i ≤ xs.length ∧ ∃ F Γ fps, Step F1 H1 fps1 F H fps ∧ Kp fix σ0 σ ∧ Good r.K F H σ Γ fps ∧ EvS r fix F H fps σ D (forLoop t (evSs X mb) (xs.drop i) Γ)
variable {tg iter : Expr} {it : I} {t : T}
theorem ps_forE (hp : PassesOwn (model Y.prog Y.w) Y.A Y.env Y.xe) (hc : Y.calm = true) (hlo : it.lo = true → ∃ is, t = .tp is) (hfx : ∀ j ∈ t.slots, fix j = false) (hK : r.K = Y.K) (hi : PI Y tg iter (tI r X it)) (hg : PG Y tg (gT Y.K t)) (hb : PSs Y b (tSs r X fix mb))
    (hs : ∀ x, foldedSetIterable iter Y.env x = pure x) : PS Y (.For tg iter b [] pos) (tS r X fix (.for t it mb)) := (ps_for hp hc hi hg hb hs).imp fun D σ H ⟨F, Γ, fps, g, q⟩ => ⟨F, Γ, fps, g, by
  have q : EvS r fix F H fps σ D ((evI X it Γ).st fun xs Γ => forLoop t (evSs X mb) xs Γ) := q
  refine q.st.imp fun xs Γ1 F1 H1 fps1 s1 g1 k J wk => ⟨ForW r X fix t mb xs σ F1 H1 fps1 D, ⟨_, rfl, Nat.zero_le _, F1, Γ1, fps1, Step.refl, Kp.refl, g1, k⟩, fun i m σ2 H2 w => ?_⟩
  obtain ⟨em, hi, F2, Γ2, fps2, s2, kp2, g2, k2⟩ := w
  by_cases he : i < xs.length
  · right
    refine ⟨wk.go i F2 H2 s2.sub g2.sub he, ForW r X fix t mb xs σ F1 H1 fps1 D (i + 1) (xs.length - (i + 1)), fun σ' H' n => ⟨_, by omega, n⟩, fun v H' hy => ?_⟩
    rw [List.drop_eq_getElem_cons he] at k2
    obtain ⟨g3, s3, rv⟩ : Good r.K F2 H' σ2 Γ2 fps2 ∧ Step F2 H2 fps2 F2 H' fps2 ∧ (RD r.K F2 v xs[i] ∨ (∃ is, t = .tp is) ∧ ∃ p vs ds, v = .ref p ∧ SqT r.K H' p vs ∧ xs[i] = .tuple ds ∧ RDs r.K F2 vs ds) := by
      rcases wk.yld i F2 H2 H' v xs[i] s2.sub g2.sub (List.getElem?_eq_getElem he) hy with ⟨rfl, rv⟩ | ⟨lo, p, vs, ds, rfl, hp, rfl, ed, rd⟩
      · exact ⟨g2, Step.refl, .inl rv⟩
      · exact ⟨g2.newO hp, Step.newO hp, .inr ⟨hlo lo, p, vs, ds, rfl, .inl (.inl upd_same), ed, rd⟩⟩
    replace k2 : EvS r fix F2 H2 fps2 σ2 D (match asgT t xs[i] Γ2 with
      | none => .bad
      | some Γ1 => match evSs X mb Γ1 with
        | .nx Γ2 => forLoop t (evSs X mb) (xs.drop (i + 1)) Γ2
        | .ct Γ2 => forLoop t (evSs X mb) (xs.drop (i + 1)) Γ2
        | .bk Γ2 => .nx Γ2
        | r => r) := k2
    rw [← hK]
    cases ea : asgT t xs[i] Γ2 with
    | none => rw [ea] at k2; exact k2.elim
    | some Γa =>
      rw [ea] at k2
      replace k2 : EvS r fix F2 H2 fps2 σ2 D (match evSs X mb Γa with
        | .nx Γ2 => forLoop t (evSs X mb) (xs.drop (i + 1)) Γ2
        | .ct Γ2 => forLoop t (evSs X mb) (xs.drop (i + 1)) Γ2
        | .bk Γ2 => .nx Γ2
        | r => r) := k2
      refine asg_ok g3 s3 rv ea fun σ4 fps4 g4 s4 hl4 hk4 _ => ⟨F2, Γa, fps4, g4, ?_⟩
      have kp4 : Kp fix σ2 σ4 := fun j hj => hk4 j fun z => by rw [hfx j z] at hj; cases hj
      have k5 := EvS.step k2 s4 kp4
      cases eb : evSs X mb Γa with
      | bad => rw [eb] at k5; exact k5
      | nx Γb =>
        rw [eb] at k5
        exact fun F6 H6 fps6 σ6 s6 g6 kp6 => ⟨rfl, he, F6, Γb, fps6, s2.trans (s4.trans s6), kp2.trans (kp4.trans kp6), g6, EvS.step k5 s6 kp6⟩
      | ct Γb =>
        rw [eb] at k5
        exact fun F6 H6 fps6 σ6 s6 g6 kp6 => ⟨rfl, he, F6, Γb, fps6, s2.trans (s4.trans s6), kp2.trans (kp4.trans kp6), g6, EvS.step k5 s6 kp6⟩
      | bk Γb => rw [eb] at k5; exact k5
      | rt o Γb => rw [eb] at k5; exact k5
      | exc c fs Γb => rw [eb] at k5; exact k5
  · left
    have e0 : xs.drop i = [] := List.drop_eq_nil_of_le (by omega)
    rw [e0] at k2
    exact ⟨wk.stop i F2 H2 s2.sub g2.sub (by omega), EvS.nx k2 g2⟩⟩
theorem ps_whlE (hp : PassesOwn (model Y.prog Y.w) Y.A Y.env Y.xe) (hc : PT Y c (tT r X mc)) (hb : PSs Y b (tSs r X fix mb)) : PS Y (.While c b [] pos) (tS r X fix (.whl mc mb)) := (ps_while hp hc hb).imp fun D σ H ⟨F, Γ, fps, g, q⟩ => by
  have q : EvS r fix F H fps σ D (whlLoop (fun Γ => (evE X mc Γ).toB) (evSs X mb) X.fu Γ) := q
  refine ⟨fun m σ H => ∃ F Γ fps, Good r.K F H σ Γ fps ∧ EvS r fix F H fps σ D (whlLoop (fun Γ => (evE X mc Γ).toB) (evSs X mb) m Γ), ⟨X.fu, F, Γ, fps, g, q⟩, fun m σ1 H1 ⟨F1, Γ1, fps1, g1, q1⟩ => ?_⟩
  cases m with
  | zero => exact q1.elim
  | succ n =>
    have q1 : EvS r fix F1 H1 fps1 σ1 D ((evE X mc Γ1).toB.st fun t Γ => match t with
      | false => .nx Γ
      | true => match evSs X mb Γ with
        | .nx Γ2 => whlLoop (fun Γ => (evE X mc Γ).toB) (evSs X mb) n Γ2
        | .ct Γ2 => whlLoop (fun Γ => (evE X mc Γ).toB) (evSs X mb) n Γ2
        | .bk Γ2 => .nx Γ2
        | r => r) := q1
    refine ⟨F1, Γ1, fps1, g1, q1.st.imp fun t Γ2 F2 H2 fps2 s2 g2 k => ?_⟩
    cases t with
    | false => exact iteF (EvS.nx k g2)
    | true =>
      refine iteT ⟨fun σ H => ∃ F Γ fps, Good r.K F H σ Γ fps ∧ EvS r fix F H fps σ D (whlLoop (fun Γ => (evE X mc Γ).toB) (evSs X mb) n Γ), fun σ' H' w => ⟨n, Nat.lt_succ_self n, w⟩, F2, Γ2, fps2, g2, ?_⟩
      have k : EvS r fix F2 H2 fps2 σ1 D (match evSs X mb Γ2 with
        | .nx Γ2 => whlLoop (fun Γ => (evE X mc Γ).toB) (evSs X mb) n Γ2
        | .ct Γ2 => whlLoop (fun Γ => (evE X mc Γ).toB) (evSs X mb) n Γ2
        | .bk Γ2 => .nx Γ2
        | r => r) := k
      cases eb : evSs X mb Γ2 with
      | bad => rw [eb] at k; exact k
      | nx Γb => rw [eb] at k; exact fun F6 H6 fps6 σ6 s6 g6 kp6 => ⟨F6, Γb, fps6, g6, EvS.step k s6 kp6⟩
      | ct Γb => rw [eb] at k; exact fun F6 H6 fps6 σ6 s6 g6 kp6 => ⟨F6, Γb, fps6, g6, EvS.step k s6 kp6⟩
      | bk Γb => rw [eb] at k; exact k
      | rt o Γb => rw [eb] at k; exact k
      | exc c fs Γb => rw [eb] at k; exact k
end
end MI

set_option maxRecDepth 100000
/-! MI13: statements that change own objects; several targets. -/
namespace MI
open L2 PySem PyProof.Rows PySem.Spec
section
variable {ms : S} {r : Rd} {X : Ctx} {Y : Cx} {fix : Nat → Bool} {e e2 a b c : Expr} {m m2 ma mb mc : E} {pos p p2 p3 apos cpos : Pos} {i : Nat} {x y z : Str}
theorem Ev.st {F H : Hp} {fps : Nat → List Addr} {σ : St} {D : Ends} {α : Type} {a : R α} {f : α → Env → SR} (h : EvS r fix F H fps σ D (a.st f)) : Ev r F H fps σ a fun x Γ1 F1 H1 fps1 => EvS r fix F1 H1 fps1 σ D (f x Γ1) := EvS.st h
/-! ### o[k] = v -/
def rSub (H : Hp) (x y v : V) (Q : Hp → Prop) : Prop := (∃ p vs k j, x = .ref p ∧ y = .int k ∧ H p = some (.lst vs) ∧ ixN vs.length k = some j ∧ Q (upd H p (.lst (vs.set j v)))) ∨ ∃ p H2, x = .ref p ∧ DPut H p y v H2 ∧ Q H2
theorem ps_sub {o i : Expr} {to ti tv : TE} (hu : Y.A.units + 1 < cLine) (ho : PE Y o to) (hi : PE Y i ti) (hv : PE Y e tv) (hs : swapsWith e (some (.Subscript o i p)) pos.line Y.env = pure false) :
    PS Y (.Assign [.Subscript o i p] e pos) (fun D σ H => tv σ H fun v H1 => to σ H1 fun x H2 => ti σ H2 fun y H3 => rSub H3 x y v fun H4 => D.nx σ H4) := by
  refine ⟨fun pn s σ H D I h => wpAny_Assign_Subscript (thn (hv.run pn s σ H _ I h) fun w s1 ⟨v, H1, I1, rv, q1⟩ => thn (ho.run pn s1 σ H1 _ I1 q1) fun u s2 ⟨x, H2, I2, rx, q2⟩ => thn (hi.run pn s2 σ H2 _ I2 q2) fun iv s3 ⟨y, H3, I3, ry, q3⟩ => ?_) hs⟩
  rcases q3 with ⟨q, vs, k, j, rfl, rfl, h1, h2, q3⟩ | ⟨q, H4, rfl, g, q3⟩
  · exact thn (set_list pn s3 σ H3 (.ref q) (.int k) v u iv w (fun H4 => D.nx σ H4) I3 rx ry rv ⟨q, vs, k, j, rfl, rfl, h1, h2, q3⟩) fun _ s4 ⟨H4, I4, q4⟩ => ⟨σ, H4, I4, q4⟩
  · obtain rfl : u = Value.ref q := rx
    exact d_setItem hu I3 g ry rv (fun s4 I4 => ⟨_, _, I4, q3⟩)
theorem Good.lst' {K : PySem.W.Frag} {F H : Hp} {σ : St} {Γ : Env} {fps : Nat → List Addr} {ds : List (D × D)} (g : Good K F H σ Γ fps) (e : Γ[i]? = some (some (.k ds))) :
    ∃ a vs, σ[i]? = some (some (.ref a)) ∧ fps i = [a] ∧ H a = some (.dK vs) ∧ vs.length ≤ sizeLine ∧ RKs K F vs ds := by
  obtain ⟨v, ev, ro⟩ := g.env i _ e
  obtain ⟨a, vs, rfl, hf, h1, l1, r1⟩ := ro.inv_k
  exact ⟨a, vs, ev, hf, h1, l1, r1⟩
theorem ps_setE (hu : Y.A.units + 1 < cLine) (ho : PE Y (.Name x p2) (tVar i)) (hi : PE Y a (tE r X ma)) (hv : PE Y e (tE r X m)) (hs : swapsWith e (some (.Subscript (.Name x p2) a p)) pos.line Y.env = pure false) :
    PS Y (.Assign [.Subscript (.Name x p2) a p] e pos) (tS r X fix (.set i ma m)) := (ps_sub hu ho (pe_D hi) (pe_D hv) hs).imp fun D σ H ⟨F, Γ, fps, g, q⟩ => ⟨F, Γ, fps, g, by
  have q : EvS r fix F H fps σ D ((evE X m Γ).toD.st fun y Γ => match (slot Γ i).isSome with
    | false => .bad
    | true => (evE X ma Γ).toD.st fun x Γ => putSlot Γ i (setIt (slot Γ i) x y)) := q
  refine q.st.imp fun yd Γ1 F1 H1 fps1 s1 g1 k v hv => ?_
  cases hs : slot Γ1 i with
  | none => rw [hs] at k; exact k.elim
  | some o0 =>
    rw [hs] at k
    obtain ⟨u, eu, _⟩ := g1.env i o0 (slot_some hs)
    have k : EvS r fix F1 H1 fps1 σ D ((evE X ma Γ1).toD.st fun x Γ => putSlot Γ i (setIt (slot Γ i) x yd)) := k
    refine ⟨u, eu, F1, Γ1, fps1, g1, k.st.imp fun kd Γ2 F2 H2 fps2 s2 g2 k w hw => ?_⟩
    have hv := hv.mono s2.sub
    cases e2 : setIt (slot Γ2 i) kd yd with
    | none => rw [e2] at k; exact k.elim
    | some o2 =>
      rw [e2] at k
      have k : EvS r fix F2 H2 fps2 σ D (.nx (Γ2.set i (some o2))) := k
      cases es : slot Γ2 i with
      | none => rw [es] at e2; cases e2
      | some o => cases o with
        | k ds =>
          rw [es] at e2
          replace e2 : (if (kindOk ds kd && decide (ds.length < lim)) = true then some (O.k (kvPut ds kd yd)) else none) = some o2 := e2
          split at e2
          · rename_i hk
            cases e2
            rw [Bool.and_eq_true, decide_eq_true_eq] at hk
            have hk1 := hk.1
            simp only [kindOk, Bool.and_eq_true] at hk1
            obtain ⟨q, vs, ev, hf, h1, l1, r1⟩ := g2.lst' (slot_some es)
            rw [eu] at ev
            cases ev
            obtain ⟨kk, rfl⟩ := keyOk_kD hk1.1
            rw [hw.key]
            have ll : vs.length < sizeLine := by rw [r1.length, ← lim_eq]; exact hk.2
            refine .inr ⟨q, _, rfl, DPut.k h1 ll, ?_⟩
            refine k _ _ _ σ (Step.refl.write (i := i) (by rw [hf]; simp)) (g2.write hf eu (.k upd_same ?_ (r1.put kk hv))) Kp.refl
            have := length_putK vs kk v
            omega
          · cases e2
        | l xs =>
          rw [es] at e2
          cases kd <;> try cases e2
          rename_i j
          replace e2 : ((nix xs.length j).map fun j => O.l (xs.set j yd)) = some o2 := e2
          rw [Option.map_eq_some_iff] at e2
          obtain ⟨n, e3, rfl⟩ := e2
          obtain ⟨q, vs, ev, hf, h1, l1, r1⟩ := g2.lst (slot_some es)
          rw [eu] at ev
          cases ev
          refine .inl ⟨q, vs, j, n, rfl, hw.int_inv, h1, by rw [r1.length]; exact e3, ?_⟩
          exact k _ _ _ σ (Step.refl.write (i := i) (by rw [hf]; simp)) (g2.write hf eu (.l upd_same (by rw [List.length_set]; exact l1) (r1.set hv n))) Kp.refl
        | _ => rw [es] at e2; cases e2⟩
/-! ### methods of an own list -/
/-- a method of the list in slot i with one value, as a statement -/
theorem ps_mth1 {name : Str} {id : String} {f : Option O → D → Option O} {rr : V → List V → Hp → VK → Prop} (sl : Slot "list" name id) (ty : typeOf (.builtin id) = pure (.type "method_descriptor")) (mt : MtR Y id rr) (hm : ∀ Γ, evS X ms Γ = match isL (slot Γ i) with
      | false => .bad
      | true => (evE X m Γ).toD.st fun x Γ => putSlot Γ i (f (slot Γ i) x))
    (hf : ∀ o d o2, f o d = some o2 → ∃ xs, o = some (.l xs) ∧ ∃ ys, o2 = .l ys ∧ ∀ F H a vs w (Q : VK), Sub F H → H a = some (.lst vs) → vs.length ≤ sizeLine → RDs r.K F vs xs → RD r.K F w d → (∀ us, us.length ≤ sizeLine → RDs r.K F us ys → Q .non (upd H a (.lst us))) → rr (.ref a) [w] H Q)
    (ho : PE Y (.Name x p2) (tVar i)) (ha : PE Y e (tE r X m)) (hbase : attributeBase (.Name x p2) name Y.env (eval (.Name x p2) Y.env) = eval (.Name x p2) Y.env)
    (hfew : ((backTo cpos (starEach [e] Y.env)).all (fun x => !x.1) && (backToKw cpos (keywordEach [] Y.env)).all (fun x => x.1.isSome) && decide ([e].length + ([] : List Keyword).length + (if ([] : List Keyword).isEmpty then 0 else 1) < 30)) = true)
    (hline : (apos.endLine == cpos.line) = true) (hs : starEach [e] Y.env = (false, eval e Y.env) :: starEach [] Y.env) : PS Y (.Expr (.Call (.Attribute (.Name x p2) name apos) [e] [] cpos) pos) (tS r X fix ms) :=
  (ps_expr (pe_bm PySem.F.plainAttrs_list sl ty mt ho (pa_consD ha pa_nilD hs) hbase hfew hline hs (by rfl))).imp fun D σ H ⟨F, Γ, fps, g, q⟩ => by
    rw [hm] at q
    cases hl : isL (slot Γ i) with
    | false => rw [hl] at q; exact q.elim
    | true =>
      rw [hl] at q
      have q : EvS r fix F H fps σ D ((evE X m Γ).toD.st fun x Γ => putSlot Γ i (f (slot Γ i) x)) := q
      obtain ⟨xs0, e0⟩ := isL_at hl
      obtain ⟨a, vs0, ev, _, h0, _⟩ := g.lst e0
      refine ⟨.ref a, ev, .inl ⟨rfl, vs0, .inl (.inl h0)⟩, F, Γ, fps, g, Ev.ret (f := fun x => [x]) (q.st.imp fun d Γ1 F1 H1 fps1 s1 g1 k ws rds => ?_)⟩
      cases rds with
      | cons hd t =>
        cases t
        cases e2 : f (slot Γ1 i) d with
        | none => rw [e2] at k; exact k.elim
        | some o2 =>
          rw [e2] at k
          obtain ⟨xs, es, ys, rfl, go⟩ := hf _ _ _ e2
          obtain ⟨a', vs, ev', hfp, h1, l1, r1⟩ := g1.lst (slot_some es)
          rw [ev] at ev'
          cases ev'
          have k : EvS r fix F1 H1 fps1 σ D (.nx (Γ1.set i (some (.l ys)))) := k
          exact go F1 H1 a vs _ _ g1.sub h1 l1 r1 hd fun us lu ru => k _ _ _ σ (Step.refl.write (i := i) (by rw [hfp]; simp)) (g1.write hfp ev (.l upd_same lu ru)) Kp.refl
theorem app_ok {K : PySem.W.Frag} (o : Option O) (d : D) (o2 : O) (h : appIt o d = some o2) : ∃ xs, o = some (.l xs) ∧ ∃ ys, o2 = .l ys ∧ ∀ (F H : Hp) (a : Addr) (vs : List V) (w : V) (Q : VK), Sub F H → H a = some (.lst vs) → vs.length ≤ sizeLine → RDs K F vs xs → RD K F w d →
    (∀ us, us.length ≤ sizeLine → RDs K F us ys → Q .non (upd H a (.lst us))) → rAppend (.ref a) [w] H Q := by
  cases o with
  | none => cases h
  | some o => cases o with
    | l xs =>
      simp only [appIt] at h
      split at h
      · cases h
        rename_i hl
        refine ⟨xs, rfl, _, rfl, fun F H a vs w Q sub h1 l1 r1 hw k => ?_⟩
        have ll : vs.length < sizeLine := by rw [r1.length, ← lim_eq]; exact hl
        exact ⟨a, vs, w, rfl, rfl, h1, ll, k _ (by simp; omega) (r1.append (.cons hw .nil))⟩
      · cases h
    | _ => cases h
/-- list.extend of a tuple, whatever it bears beside its items -/
theorem grow_by_tup {l b : Addr} {mine theirs : Array Value} {n m : Nat} {dd : Option Addr} {sl : Array (Option Value)} (short : mine.size + theirs.size ≤ sizeLine) :
    Meets (Builtin.«list.extend» ⟨[.ref l, .ref b], []⟩) (fun _ R s => s.heap.get? l = some { cls := .type "list", dict := none, data := .seq mine n, slots := #[] } ∧ s.heap.get? b = some { cls := .type "tuple", dict := dd, data := .seq theirs m, slots := sl } ∧
      R (.ok (.ret Value.none)) { s with heap := s.heap.update l (Obj.mapSeq fun x => x ++ theirs), toks := s.toks }) := by
  refine Meets.of_wp fun pr wo ar post sh ⟨lies, other, k⟩ => ?_
  obtain ⟨h0, g0, d0, t0, o0⟩ := sh
  have room : mine.size ≤ sizeLine := by omega
  have most : (mine ++ theirs).size ≤ sizeLine + 1 := by
    rw [Array.size_append]
    omega
  have fits : ¬ (!mine.isEmpty && Builtin.List.listTooLong (mine.size + theirs.size)) = true := by
    rw [notLongL short]
    simp
  have ix := AutoSeq1.idx_int
  have s1 := AutoSeq1.sub_list_tuple
  have s2 := AutoSeq1.sub_list_list
  have s3 := AutoSeq1.sub_tuple_tuple
  have s4 := AutoSeq1.sub_tuple_list
  wp_walk using (wpAny_updateSeq lies rfl (hz := room) (_hz' := most)), (wpAny_loadPart' lies), (wpAny_loadPart' other)
  exact ⟨_, rfl, k⟩
def rExtA (K : PySem.W.Frag) : V → List V → Hp → VK → Prop := fun x vs H Q => ∃ l b xs zs, x = .ref l ∧ vs = [.ref b] ∧ H l = some (.lst xs) ∧ (H b = some (.lst zs) ∨ SqT K H b zs) ∧ xs.length + zs.length ≤ sizeLine ∧ Q .non (upd H l (.lst (xs ++ zs)))
theorem mt_extA : MtM Y "list.extend" (rExtA Y.K) := by
  rintro pn s σ H _ _ v us Q I u1 rv ⟨l, b, mine, theirs, rfl, rfl, own, other, room, next⟩
  cases other with
  | inl other => exact mt_extend pn s σ H _ _ v us Q I u1 rv ⟨l, b, mine, theirs, rfl, rfl, own, other, room, next⟩
  | inr other =>
    cases u1
    obtain ⟨u, rfl, u2⟩ := rv.one
    cases u2
    obtain ⟨-, ia, n, wa, na, lies⟩ := I.lstM own
    obtain ⟨ib, wb, ⟨⟨c, dd, da, sl⟩, lies2, ec, m, ed⟩, -⟩ := I.tuple other
    dsimp only at ec ed
    subst ec ed
    have nb := wb.length
    have short : ia.toArray.size + ib.toArray.size ≤ sizeLine := by
      simp only [List.size_toArray]
      omega
    refine call_meets F.slot_list_extend ⟨_, lies, rfl⟩ F.entry_list_extend (F.args_list_extend_2 _ _) (grow_by_tup short) ⟨lies, lies2, ?_⟩
    refine ⟨.non, _, I.lset (its' := ia ++ ib) own lies (by simp) (wa.append wb) ?_, rfl, next⟩
    rw [List.length_append]
    exact room
/-- list.extend takes a list or a tuple -/
theorem ext_ok {K : PySem.W.Frag} (o : Option O) (d : D) (o2 : O) (h : extIt o d = some o2) : ∃ xs, o = some (.l xs) ∧ ∃ ys, o2 = .l ys ∧ ∀ (F H : Hp) (a : Addr) (vs : List V) (w : V) (Q : VK), Sub F H → H a = some (.lst vs) → vs.length ≤ sizeLine → RDs K F vs xs → RD K F w d →
    (∀ us, us.length ≤ sizeLine → RDs K F us ys → Q .non (upd H a (.lst us))) → rExtA K (.ref a) [w] H Q := by
  cases o with
  | none => cases h
  | some o => cases o with
    | l xs =>
      cases d <;> simp only [extIt] at h <;> try cases h
      · split at h
        · cases h
          rename_i zs hl
          refine ⟨xs, rfl, _, rfl, fun F H a vs w Q sub h1 l1 r1 hw k => ?_⟩
          cases hw with
          | @lst b ws _ h2 l2 r2 =>
            have ll : vs.length + ws.length ≤ sizeLine := by rw [r1.length, r2.length, ← lim_eq]; exact hl
            exact ⟨a, _, vs, _, rfl, rfl, h1, .inl (sub _ _ h2), ll, k _ (by rw [List.length_append]; exact ll) (r1.append r2)⟩
        · cases h
      · split at h
        · cases h
          rename_i zs hl
          refine ⟨xs, rfl, _, rfl, fun F H a vs w Q sub h1 l1 r1 hw k => ?_⟩
          cases hw with
          | @tup b ws _ h2 l2 r2 =>
            have ll : vs.length + ws.length ≤ sizeLine := by rw [r1.length, r2.length, ← lim_eq]; exact hl
            exact ⟨a, _, vs, _, rfl, rfl, h1, .inr (sub.sqT h2.sq), ll, k _ (by rw [List.length_append]; exact ll) (r1.append r2)⟩
        · cases h
    | _ => cases h
/-! ### several targets -/
theorem ps_tasgE {tg : Expr} {is : List Nat} (hK : r.K = Y.K) (he : PE Y e (tE r X m)) (hg : PG Y tg (gT Y.K (.tp is))) (hfx : ∀ j ∈ is, fix j = false) (hs : swapsWithSole [tg] e pos.line Y.env = pure false) (hw : swappedStores [tg] e Y.env = pure none) (h1 : (assignEach [tg] Y.env).map (·.2) = [assign tg Y.env]) :
    PS Y (.Assign [tg] e pos) (tS r X fix (.tasg is m)) := (ps_asg (pe_D he) hg hs hw h1).imp fun D σ H ⟨F, Γ, fps, g, q⟩ => ⟨F, Γ, fps, g, by
  have q : EvS r fix F H fps σ D ((evE X m Γ).toD.st fun x Γ => optS (asgT (.tp is) x Γ)) := q
  refine q.st.imp fun d Γ1 F1 H1 fps1 s1 g1 k v hv => ?_
  cases ea : asgT (.tp is) d Γ1 with
  | none => rw [ea] at k; exact k.elim
  | some Γ2 =>
    rw [ea] at k
    have k : EvS r fix F1 H1 fps1 σ D (.nx Γ2) := k
    rw [← hK]
    exact asg_ok g1 Step.refl (.inl hv) ea fun σ2 fps2 g2 s2 _ hk2 _ => k F1 H1 fps2 σ2 s2 g2 fun j hj => hk2 j fun z => by rw [hfx j z] at hj; cases hj⟩
theorem evDs_st {D : Ends} {σ : St} {F H : Hp} {Γ : Env} {fps : Nat → List Addr} {es : Es} {is : List Nat} {Q : List V → Hp → Prop} (hfx : ∀ j ∈ is, fix j = false) (q : EvS r fix F H fps σ D ((evDs X es Γ).st fun xs Γ => optS (setAll is xs Γ)))
    (k : ∀ F1 H1 Γ1 fps1 vs xs Γ2, Good r.K F1 H1 σ Γ1 fps1 → RDs r.K F1 vs xs → setAll is xs Γ1 = some Γ2 → (∀ σ2 fps2, Good r.K F1 H1 σ2 Γ2 fps2 → Step F1 H1 fps1 F1 H1 fps2 → (∀ j, j ∉ is → σ2[j]? = σ[j]?) → D.nx σ2 H1) → Q vs H1) :
    Ev r F H fps σ (evDs X es Γ) fun xs _ F' H' _ => ∀ vs, RDs r.K F' vs xs → Q vs H' := by
  refine q.st.imp fun xs Γ1 F1 H1 fps1 s1 g1 k1 vs rds => ?_
  cases ea : setAll is xs Γ1 with
  | none => rw [ea] at k1; exact k1.elim
  | some Γ2 =>
    rw [ea] at k1
    have k1 : EvS r fix F1 H1 fps1 σ D (.nx Γ2) := k1
    exact k F1 H1 Γ1 fps1 vs xs Γ2 g1 rds ea fun σ2 fps2 g2 s2 hk2 => k1 F1 H1 fps2 σ2 s2 g2 fun j hj => hk2 j fun z => by rw [hfx j z] at hj; cases hj
theorem ps_parE {i j : Nat} {px py pt : Pos} {kt k2 : Nat} {pt2 : Pos} (hc : Y.calm = true) (hN : Y.N.Nodup) (hi : Y.N[i]? = some x) (hj : Y.N[j]? = some y) (hij : i ≠ j) (hx : Y.env.scope.names.lookup x = some .local) (hy : Y.env.scope.names.lookup y = some .local) (hfi : fix i = false) (hfj : fix j = false)
    (ha : PA Y [a, b] (tDs r X (.cons ma (.cons mb .nil)))) (hw : swappedStores [.Tuple [.Name x px, .Name y py] kt pt] (.Tuple [a, b] k2 pt2) Y.env = pure (some [x, y])) :
    PS Y (.Assign [.Tuple [.Name x px, .Name y py] kt pt] (.Tuple [a, b] k2 pt2) pos) (tS r X fix (.par [i, j] (.cons ma (.cons mb .nil)))) := (ps_par hc hN hi hj hij hx hy ha hw (by rfl)).imp fun D σ H ⟨F, Γ, fps, g, q⟩ => ⟨F, Γ, fps, g, by
  refine evDs_st (is := [i, j]) (fun l hl => ?_) q fun F1 H1 Γ1 fps1 vs xs Γ2 g1 rds ea k => ?_
  · rcases List.mem_cons.mp hl with rfl | hl
    · exact hfi
    · rcases List.mem_cons.mp hl with rfl | hl
      · exact hfj
      · cases hl
  · cases rds with
    | nil => cases ea
    | cons h1 t =>
      cases t with
      | nil => cases ea
      | cons h2 t =>
        cases t with
        | cons h3 t => cases ea
        | nil =>
          cases ea
          refine ⟨_, _, rfl, k _ _ ((g1.put h1 i).put h2 j) ((Step.refl.put i).put j) fun l hl => ?_⟩
          simp only [List.mem_cons, not_or] at hl
          rw [List.getElem?_set_ne (Ne.symm hl.2.1), List.getElem?_set_ne (Ne.symm hl.1)]⟩
theorem ps_par3E {i j l : Nat} {px py pz pt : Pos} {kt k2 : Nat} {pt2 : Pos} (hc : Y.calm = true) (hN : Y.N.Nodup) (hi : Y.N[i]? = some x) (hj : Y.N[j]? = some y) (hl : Y.N[l]? = some z) (hij : i ≠ j) (hil : i ≠ l) (hjl : j ≠ l) (hx : Y.env.scope.names.lookup x = some .local)
    (hy : Y.env.scope.names.lookup y = some .local) (hz : Y.env.scope.names.lookup z = some .local) (hfi : fix i = false) (hfj : fix j = false) (hfl : fix l = false)
    (ha : PA Y [a, b, c] (tDs r X (.cons ma (.cons mb (.cons mc .nil))))) (hw : swappedStores [.Tuple [.Name x px, .Name y py, .Name z pz] kt pt] (.Tuple [a, b, c] k2 pt2) Y.env = pure (some [x, y, z])) :
    PS Y (.Assign [.Tuple [.Name x px, .Name y py, .Name z pz] kt pt] (.Tuple [a, b, c] k2 pt2) pos) (tS r X fix (.par [i, j, l] (.cons ma (.cons mb (.cons mc .nil))))) := (ps_par3 hc hN hi hj hl hij hil hjl hx hy hz ha hw (by rfl)).imp fun D σ H ⟨F, Γ, fps, g, q⟩ => ⟨F, Γ, fps, g, by
  refine evDs_st (is := [i, j, l]) (fun n hn => ?_) q fun F1 H1 Γ1 fps1 vs xs Γ2 g1 rds ea k => ?_
  · simp only [List.mem_cons, List.not_mem_nil, or_false] at hn
    rcases hn with rfl | rfl | rfl
    · exact hfi
    · exact hfj
    · exact hfl
  · cases rds with
    | nil => cases ea
    | cons h1 t =>
      cases t with
      | nil => cases ea
      | cons h2 t =>
        cases t with
        | nil => cases ea
        | cons h3 t =>
          cases t with
          | cons h4 t => cases ea
          | nil =>
            cases ea
            refine ⟨_, _, _, rfl, k _ _ (((g1.put h1 i).put h2 j).put h3 l) (((Step.refl.put i).put j).put l) fun n hn => ?_⟩
            simp only [List.mem_cons, not_or] at hn
            rw [List.getElem?_set_ne (Ne.symm hn.2.2.1), List.getElem?_set_ne (Ne.symm hn.2.1), List.getElem?_set_ne (Ne.symm hn.1)]⟩
end
end MI

set_option maxRecDepth 100000
/-! MIt: dict of pairs, list of a range. -/
namespace MI
open L2 PySem PyProof.Rows PySem.Spec
section
variable {X : Cx}
theorem pairD_inv {x : D} {p : D × D} (h : pairD x = some p) : x = .tuple [p.1, p.2] := by
  unfold pairD at h
  split at h
  · cases h; rfl
  · cases h
theorem RDs.two {K : PySem.W.Frag} {F : Hp} {vs : List V} {a b : D} (h : RDs K F vs [a, b]) : ∃ v w, vs = [v, w] ∧ RD K F v a ∧ RD K F w b := by
  cases h with
  | cons h1 t =>
    cases t with
    | cons h2 t =>
      cases t
      exact ⟨_, _, rfl, h1, h2⟩
/-- a row of pairs with keys -/
theorem pairs_read {K : PySem.W.Frag} {F H : Hp} (sub : Sub F H) : ∀ {vs : List V} {xs : List D} {ps : List (D × D)}, RDs K F vs xs → pairsD xs = some ps → keysOk ps = true →
    ∃ (as : List Addr) (kvs : List (Key × V)), vs = as.map V.ref ∧ Paired (fun p kv => SqT K H p [kV kv.1, kv.2]) as kvs ∧ RKs K F kvs ps ∧ kvs.length = vs.length
  | _, _, ps, .nil, e, _ => by
    cases e
    exact ⟨[], [], rfl, .nil, .nil, rfl⟩
  | _, _, ps, .cons (v := v) (vs := vs) (d := d) (ds := ds) h r, e, k => by
    replace e : (match pairD d, pairsD ds with
      | some p, some ps => some (p :: ps)
      | _, _ => none) = some ps := e
    cases e1 : pairD d with
    | none => rw [e1] at e; cases e
    | some p =>
      cases e2 : pairsD ds with
      | none => rw [e1, e2] at e; cases e
      | some qs =>
        rw [e1, e2] at e
        cases e
        replace k : (keyOk p.1 && keysOk qs) = true := k
        rw [Bool.and_eq_true] at k
        obtain ⟨as, kvs, rfl, h1, h2, h3⟩ := pairs_read sub r e2 k.2
        rw [pairD_inv e1] at h
        obtain ⟨q, ws, rfl, t1, _, t2⟩ := h.tup_inv
        obtain ⟨x, y, rfl, rx, ry⟩ := t2.two
        obtain ⟨kk, ek⟩ := keyOk_kD k.1
        rw [ek] at rx
        rw [rx.key] at t1
        exact ⟨q :: as, (kk, y) :: kvs, rfl, .cons (sub.sqT t1.sq) h1, .cons ek ry h2, congrArg (· + 1) h3⟩
theorem cr_dict (hcalm : X.calm = true) : CallR X (.type "dict") (r1 X.K (blt .dict)) := by
  intro pn s σ H xs us Q I rv h
  obtain ⟨F, v, x, o, rfl, sub, hx, e, nv⟩ := h
  cases x <;> simp only [blt, Option.bind_eq_some_iff] at e <;> try cases e
  · rename_i w1 w2
    obtain ⟨e1, e2⟩ := w2
    split at e2 <;> cases e2
    rename_i hk
    obtain ⟨a, vs, rfl, h1, l1, r1⟩ := hx.lst_inv
    obtain ⟨as, kvs, rfl, k1, k2, k3⟩ := pairs_read sub r1 e1 hk
    refine call_dictP hcalm pn s σ H _ us Q I rv ⟨a, as, kvs, rfl, .inl (.inl h1), k1, fun p hp => nv p _ hp ?_ (k2.merge .nil)⟩
    have := length_mergeK kvs []
    simp only [List.length_nil, Nat.zero_add] at this
    omega
  · split at e <;> cases e
    obtain ⟨a, kvs, rfl, h1, l1, r1⟩ := hx.dct_inv
    exact call_dictD pn s σ H _ us Q I rv ⟨a, kvs, rfl, .inl h1, fun p hp => nv p _ hp l1 r1⟩
end
section
variable {r : Rd} {X : Ctx} {Y : Cx} {a b : Expr} {ma mb : E} {p p2 pos pos2 : Pos}
theorem bind1 {X : Ctx} {α : Type} {m : E} {Γ : Env} (G : List D → Env → R α) : ((evDs X (.cons m .nil) Γ).bind G) = (evE X m Γ).toD.bind fun x Γ => G [x] Γ := by
  show (((evE X m Γ).toD.bind fun x Γ => (R.ok [] Γ).bind fun xs Γ => .ok (x :: xs) Γ).bind G) = _
  cases (evE X m Γ).toD <;> rfl
theorem bind2 {X : Ctx} {α : Type} {m m2 : E} {Γ : Env} (G : List D → Env → R α) : ((evDs X (.cons m (.cons m2 .nil)) Γ).bind G) = (evE X m Γ).toD.bind fun x Γ => (evE X m2 Γ).toD.bind fun y Γ => G [x, y] Γ := by
  show (((evE X m Γ).toD.bind fun x Γ => (evDs X (.cons m2 .nil) Γ).bind fun xs Γ => .ok (x :: xs) Γ).bind G) = _
  cases (evE X m Γ).toD with
  | ok x Γ1 =>
    show (((evDs X (.cons m2 .nil) Γ1).bind fun xs Γ => .ok (x :: xs) Γ).bind G) = _
    rw [bind1]
    show (((evE X m2 Γ1).toD.bind fun y Γ => .ok [x, y] Γ).bind G) = (evE X m2 Γ1).toD.bind fun y Γ => G [x, y] Γ
    cases (evE X m2 Γ1).toD <;> rfl
  | exc c fs Γ1 => rfl
  | bad => rfl
theorem rgV_reads {K : PySem.W.Frag} {F : Hp} (i j : Int) : RDs K F (rgV i j) ((List.range (j - i).toNat).map fun (k : Nat) => PyData.int (i + k)) := by
  have e1 : rgV i j = ((List.range (j - i).toNat).map fun (k : Nat) => i + (k : Int)).map V.int := by
    rw [List.map_map]
    rfl
  have e2 : ((List.range (j - i).toNat).map fun (k : Nat) => PyData.int (i + k)) = ((List.range (j - i).toNat).map fun (k : Nat) => i + (k : Int)).map PyData.int := by
    rw [List.map_map]
    rfl
  rw [e1, e2]
  exact RDs.ofInts _
theorem rng_read {i j : Int} {K : PySem.W.Frag} {F H : Hp} {o : O} {Q : VK} (h1 : rngOk i = true) (h2 : rngOk j = true) (e : o = .l ((List.range (j - i).toNat).map fun (k : Nat) => PyData.int (i + k))) (nv : NewV K F H o Q) :
    RgOk i j ∧ ∀ q, H q = none → Q (.ref q) (upd H q (.lst (rgV i j))) := by
  subst e
  simp only [rngOk, small_iff] at h1 h2
  refine ⟨⟨by omega, by omega, by omega, by omega, by omega⟩, fun q hq => nv q _ hq ?_ (rgV_reads i j)⟩
  rw [rgV_length, sizeLine_eq]
  omega
theorem pe_lrng1E (hc : Y.calm = true) (hg : Gl Y "list") (hm : Y.mg "list" = none) (hg2 : Gl Y "range") (hm2 : Y.mg "range" = none) (ha : PE Y a (tE r X ma)) (na : starEach [a] Y.env = (false, eval a Y.env) :: starEach [] Y.env) :
    PE Y (.Call (.Name "list" p) [.Call (.Name "range" p2) [a] [] pos2] [] pos) (tE r X (.blts .lrange1 (.cons ma .nil))) :=
  (pe_listRg hc hg hm (prg_1 hg2 hm2 (pe_D ha) na) rfl).imp fun σ H Q ⟨F, Γ, fps, g, q⟩ => ⟨F, Γ, fps, g, by
    have q : Ev r F H fps σ ((evDs X (.cons ma .nil) Γ).bind fun xs Γ => optR (blt .lrange1 xs) Γ) _ := q
    rw [bind1] at q
    refine q.bind.imp fun x Γ1 F1 H1 fps1 s1 g1 k v hv => ?_
    cases eb : blt .lrange1 [x] with
    | none => rw [eb] at k; exact k.elim
    | some o =>
      rw [eb] at k
      have nv := newV_of (Step.refl.trans s1) g1 (blt_new eb) k
      cases x <;> try cases eb
      rename_i j
      replace eb : ((if rngOk j then some ((List.range j.toNat).map fun (k : Nat) => PyData.int k) else none).map O.l) = some o := eb
      split at eb <;> cases eb
      rename_i hr
      refine ⟨j, hv.int_inv, rng_read (i := 0) (by decide) hr ?_ nv⟩
      congr 1
      simp⟩
theorem pe_lrng2E (hc : Y.calm = true) (hg : Gl Y "list") (hm : Y.mg "list" = none) (hg2 : Gl Y "range") (hm2 : Y.mg "range" = none) (ha : PE Y a (tE r X ma)) (hb : PE Y b (tE r X mb)) (na : starEach [a, b] Y.env = (false, eval a Y.env) :: starEach [b] Y.env) (nb : starEach [b] Y.env = (false, eval b Y.env) :: starEach [] Y.env) (hp : (backTo pos2 (starEach [b] Y.env)).any (·.1) = false) :
    PE Y (.Call (.Name "list" p) [.Call (.Name "range" p2) [a, b] [] pos2] [] pos) (tE r X (.blts .lrange2 (.cons ma (.cons mb .nil)))) :=
  (pe_listRg hc hg hm (prg_2 hg2 hm2 (pe_D ha) (pe_D hb) na nb hp) rfl).imp fun σ H Q ⟨F, Γ, fps, g, q⟩ => ⟨F, Γ, fps, g, by
    have q : Ev r F H fps σ ((evDs X (.cons ma (.cons mb .nil)) Γ).bind fun xs Γ => optR (blt .lrange2 xs) Γ) _ := q
    rw [bind2] at q
    refine q.bind.imp fun x Γ1 F1 H1 fps1 s1 g1 k v hv => ⟨F1, Γ1, fps1, g1, ?_⟩
    refine k.bind.imp fun y Γ2 F2 H2 fps2 s2 g2 k w hw => ?_
    cases eb : blt .lrange2 [x, y] with
    | none => rw [eb] at k; exact k.elim
    | some o =>
      rw [eb] at k
      have nv := newV_of (s1.trans s2) g2 (blt_new eb) k
      cases x <;> cases y <;> try cases eb
      rename_i i j
      replace eb : ((if rngOk i && rngOk j then some ((List.range (j - i).toNat).map fun (k : Nat) => PyData.int (i + k)) else none).map O.l) = some o := eb
      split at eb <;> cases eb
      rename_i hr
      rw [Bool.and_eq_true] at hr
      exact ⟨i, j, hv.int_inv, hw.int_inv, rng_read hr.1 hr.2 rfl nv⟩⟩
end
end MI

set_option maxRecDepth 100000
/-! MIu: own lists of own lists. -/
namespace MI
open L2 PySem PyProof.Rows PySem.Spec
section
variable {K : PySem.W.Frag} {F0 H0 F H : Hp} {σ : St} {Γ : Env} {fps0 fps : Nat → List Addr} {i : Nat} {a : Addr} {u : HO} {v : V} {o : O} {fp : List Addr}
/-- slot i's objects: one of them written, others taken in -/
def fpsAt (fps : Nat → List Addr) (i : Nat) (fp : List Addr) : Nat → List Addr := fun j => if j = i then fp else fps j
theorem Good.grow (G : Good K F H σ Γ fps) (hv : σ[i]? = some (some v)) (ha : a ∈ fps i) (hr : RO K F (upd H a u) v o fp) (ow : ∀ b ∈ fp, b ∈ fps i ∨ F b = none ∧ ∀ j, b ∉ fps j) (nd : fp.Nodup) :
    Good K F (upd H a u) σ (Γ.set i (some o)) (fpsAt fps i fp) := by
  have hF : F a = none := (G.own i a ha).1
  have il : i < Γ.length := by
    rw [G.len]
    exact (List.getElem?_eq_some_iff.mp hv).1
  have at_i : fpsAt fps i fp i = fp := by simp [fpsAt]
  have at_j : ∀ j, j ≠ i → fpsAt fps i fp j = fps j := fun j h => by simp [fpsAt, h]
  refine ⟨fun b w h => ?_, by simpa using G.len, fun j oj e => ?_, fun j hj => ?_, fun j b hb => ?_, fun j k b hj hk => ?_, fun j => ?_⟩
  · have : b ≠ a := fun z => by
      subst z
      rw [hF] at h
      cases h
    rw [upd_ne this]
    exact G.sub b w h
  · by_cases e1 : j = i
    · subst e1
      rw [List.getElem?_set_self il] at e
      cases e
      exact ⟨v, hv, by rw [at_i]; exact hr⟩
    · rw [List.getElem?_set_ne (Ne.symm e1)] at e
      obtain ⟨w, ew, ro⟩ := G.env j oj e
      rw [at_j j e1]
      refine ⟨w, ew, ro.step (Sub.refl F) fun b hb x hx => ?_⟩
      have : b ≠ a := fun z => e1 (G.dis j i b hb (z ▸ ha))
      rw [upd_ne this]
      exact hx
  · by_cases e1 : j = i
    · subst e1
      exact absurd (List.getElem?_set_self il) (hj o)
    · rw [at_j j e1]
      exact G.nil j fun oj e => hj oj (by rw [List.getElem?_set_ne (Ne.symm e1)]; exact e)
  · by_cases e1 : j = i
    · subst e1
      rw [at_i] at hb
      refine ⟨?_, hr.there b hb⟩
      rcases ow b hb with h | h
      · exact (G.own j b h).1
      · exact h.1
    · rw [at_j j e1] at hb
      refine ⟨(G.own j b hb).1, ?_⟩
      by_cases e2 : b = a
      · subst e2; rw [upd_same]; simp
      · rw [upd_ne e2]; exact (G.own j b hb).2
  · have one : ∀ j, j ≠ i → b ∈ fps j → b ∈ fp → False := fun j hne hb h => by
      rcases ow b h with h | h
      · exact hne (G.dis j i b hb h)
      · exact h.2 j hb
    by_cases e1 : j = i
    · by_cases e2 : k = i
      · rw [e1, e2]
      · rw [e1, at_i] at hj
        rw [at_j k e2] at hk
        exact (one k e2 hk hj).elim
    · rw [at_j j e1] at hj
      by_cases e2 : k = i
      · rw [e2, at_i] at hk
        exact (one j e1 hj hk).elim
      · rw [at_j k e2] at hk
        exact G.dis j k b hj hk
  · by_cases e1 : j = i
    · subst e1; rw [at_i]; exact nd
    · rw [at_j j e1]; exact G.nd j
theorem Step.grow (s : Step F0 H0 fps0 F H fps) (ha : a ∈ fps i) (ow : ∀ b ∈ fp, b ∈ fps i ∨ (H0 b ≠ none → ∃ j, b ∈ fps0 j)) : Step F0 H0 fps0 F (upd H a u) (fpsAt fps i fp) := by
  refine ⟨s.sub, fun b w h n => ?_, s.frz, fun j b hb hn => ?_⟩
  · have hb := s.keep b w h n
    have : b ≠ a := fun z => by
      subst z
      obtain ⟨j, hj⟩ := s.own i b ha (by rw [h]; simp)
      exact n j hj
    rw [upd_ne this]
    exact hb
  · by_cases e1 : j = i
    · subst e1
      have hb : b ∈ fp := by simpa [fpsAt] using hb
      rcases ow b hb with h | h
      · exact s.own j b h hn
      · exact h hn
    · have hb : b ∈ fps j := by simpa [fpsAt, e1] using hb
      exact s.own j b hb hn
theorem Good.lls {xss : List (List D)} (g : Good K F H σ Γ fps) (e : Γ[i]? = some (some (.ll xss))) :
    ∃ a bs, σ[i]? = some (some (.ref a)) ∧ fps i = a :: bs ∧ H a = some (.lst (bs.map V.ref)) ∧ bs.length ≤ sizeLine ∧ RLs K F H bs xss := by
  obtain ⟨v, ev, ro⟩ := g.env i _ e
  obtain ⟨a, bs, rfl, hf, h1, l1, r1⟩ := ro.inv_ll
  exact ⟨a, bs, ev, hf, h1, l1, r1⟩
theorem RLs.len : ∀ {bs : List Addr} {xss : List (List D)}, RLs K F H bs xss → bs.length = xss.length
  | _, _, .nil => rfl
  | _, _, .cons _ _ _ t => congrArg (· + 1) (RLs.len t)
theorem RLs.snoc {b : Addr} {ws : List V} {ys : List D} (h : H b = some (.lst ws)) (l : ws.length ≤ sizeLine) (r : RDs K F ws ys) : ∀ {bs : List Addr} {xss : List (List D)}, RLs K F H bs xss → RLs K F H (bs ++ [b]) (xss ++ [ys])
  | _, _, .nil => .cons h l r .nil
  | _, _, .cons h1 l1 r1 t => .cons h1 l1 r1 (RLs.snoc h l r t)
theorem RLs.at {bs : List Addr} {xss : List (List D)} (r : RLs K F H bs xss) : ∀ {n : Nat} {ys : List D}, xss[n]? = some ys → ∃ b ws, bs[n]? = some b ∧ H b = some (.lst ws) ∧ ws.length ≤ sizeLine ∧ RDs K F ws ys := by
  induction r with
  | nil => intro n ys e; simp at e
  | cons h l r t ih =>
    intro n ys e
    cases n with
    | zero =>
      rw [List.getElem?_cons_zero] at e
      cases e
      exact ⟨_, _, rfl, h, l, r⟩
    | succ n => exact ih (n := n) (by simpa using e)
theorem RLs.put {b : Addr} {ws : List V} {ys : List D} (l : ws.length ≤ sizeLine) (r2 : RDs K F ws ys) : ∀ {bs : List Addr} {xss : List (List D)} {n : Nat}, RLs K F H bs xss → bs.Nodup → bs[n]? = some b → RLs K F (upd H b (.lst ws)) bs (xss.set n ys)
  | _, _, _, .nil, _, e => False.elim (by simp at e)
  | _, _, 0, .cons (b := c) (bs := bs) h1 l1 r1 t, nd, e => by
    rw [List.getElem?_cons_zero] at e
    cases e
    rw [List.nodup_cons] at nd
    exact .cons upd_same l r2 (t.step (Sub.refl F) fun d hd x hx => by
      rw [upd_ne (fun z : d = b => nd.1 (by rw [← z]; exact hd))]
      exact hx)
  | _, _, n + 1, .cons (b := c) (bs := bs) h1 l1 r1 t, nd, e => by
    rw [List.nodup_cons] at nd
    rw [List.getElem?_cons_succ] at e
    have hm : b ∈ bs := List.mem_of_getElem? e
    refine .cons ?_ l1 r1 (RLs.put l r2 t nd.2 e)
    rw [upd_ne (fun z : c = b => nd.1 (by rw [z]; exact hm))]
    exact h1
theorem RLs.dps (sub : Sub F H) : ∀ {bs : List Addr} {xss : List (List D)}, RLs K F H bs xss → PyData.canLayAll0 (xss.map .list) = true → DpAll K H (bs.map V.ref) (xss.map .list)
  | _, _, .nil, _ => .nil
  | _, _, .cons h l r t, c => by
    rw [List.map_cons] at c
    obtain ⟨c1, c2⟩ := Bool.and_eq_true_iff.mp (show (PyData.canLay0 _ && PyData.canLayAll0 _) = true from c)
    exact .cons (.lst (.inl (.inl h)) (RDs.dp sub r c1)) (RLs.dps sub t c2)
end
section
variable {r : Rd} {X : Ctx} {Y : Cx} {fix : Nat → Bool} {e ji : Expr} {m mj : E} {pos p p2 p3 p4 apos cpos : Pos} {i h : Nat} {x y : Str}
theorem pe_lls0E : PE Y (.List [] pos) (tE r X (.lls .nil)) :=
  (pe_lst (pa_nilD (r := r) (X := X))).imp fun σ H Q ⟨F, Γ, fps, g, q⟩ => ⟨F, Γ, fps, g, by
    have q : Ev r F H fps σ (.ok (O.ll []) Γ) _ := q
    show Ev r F H fps σ (.ok [] Γ) _
    intro F1 H1 fps1 s1 g1 vs rds
    cases rds
    refine ⟨Nat.zero_le _, fun p hp => ?_⟩
    refine q _ _ _ (s1.trans (Step.newO hp)) (g1.newO hp) _ [p] ?_
    have t := Tmp.newL s1 g1 hp (Nat.zero_le _) (.nil : RDs r.K F1 [] [])
    exact ⟨.ll (bs := []) upd_same (Nat.zero_le _) .nil, t.own, t.nd⟩⟩
theorem ps_applE (ho : PE Y (.Name x p2) (tVar i)) (ha : PE Y e (tE r X m)) (hbase : attributeBase (.Name x p2) "append" Y.env (eval (.Name x p2) Y.env) = eval (.Name x p2) Y.env)
    (hfew : ((backTo cpos (starEach [e] Y.env)).all (fun x => !x.1) && (backToKw cpos (keywordEach [] Y.env)).all (fun x => x.1.isSome) && decide ([e].length + ([] : List Keyword).length + (if ([] : List Keyword).isEmpty then 0 else 1) < 30)) = true)
    (hline : (apos.endLine == cpos.line) = true) (hs : starEach [e] Y.env = (false, eval e Y.env) :: starEach [] Y.env) : PS Y (.Expr (.Call (.Attribute (.Name x p2) "append" apos) [e] [] cpos) pos) (tS r X fix (.appl i m)) :=
  (ps_expr (pe_bm PySem.F.plainAttrs_list PySem.F.slot_list_append PySem.F.type_list_append (fun pn s σ H x xs v us Q I rx rv h => mt_append pn s σ H x xs v us Q I rx rv h) ho (pa_cons ha pa_nil hs) hbase hfew hline hs (by rfl))).imp fun D σ H ⟨F, Γ, fps, g, q⟩ => by
    have q : EvS r fix F H fps σ D (match isLL (slot Γ i) with
      | false => .bad
      | true => (evE X m Γ).st fun o Γ => putSlot Γ i (applIt (slot Γ i) o)) := q
    cases hl : isLL (slot Γ i) with
    | false => rw [hl] at q; exact q.elim
    | true =>
      rw [hl] at q
      have q : EvS r fix F H fps σ D ((evE X m Γ).st fun o Γ => putSlot Γ i (applIt (slot Γ i) o)) := q
      obtain ⟨a, vs0, ev, h0⟩ : ∃ a vs0, σ[i]? = some (some (.ref a)) ∧ H a = some (.lst vs0) := by
        cases es : slot Γ i with
        | none => rw [es] at hl; cases hl
        | some o => cases o with
          | l xs =>
            obtain ⟨a, vs, ev, _, h0, _⟩ := g.lst (slot_some es)
            exact ⟨a, vs, ev, h0⟩
          | ll xss =>
            obtain ⟨a, bs, ev, _, h0, _⟩ := g.lls (slot_some es)
            exact ⟨a, _, ev, h0⟩
          | _ => rw [es] at hl; cases hl
      refine ⟨.ref a, ev, .inl ⟨rfl, vs0, .inl (.inl h0)⟩, F, Γ, fps, g, ?_⟩
      cases em : evE X m Γ with
      | bad => rw [em] at q; exact q
      | exc c fs Γ1 => rw [em] at q; exact fun F2 H2 fps2 cls d s g x => q F2 H2 fps2 σ cls d s g Kp.refl x
      | ok o Γ1 =>
        rw [em] at q
        intro F1 H1 fps1 s1 g1 v fp t
        have q : EvS r fix F H fps σ D (putSlot Γ1 i (applIt (slot Γ1 i) o)) := q
        cases e2 : applIt (slot Γ1 i) o with
        | none => rw [e2] at q; exact q.elim
        | some o2 =>
          rw [e2] at q
          have q : EvS r fix F H fps σ D (.nx (Γ1.set i (some o2))) := q
          cases es : slot Γ1 i with
          | none => rw [es] at e2; cases e2
          | some o1 =>
            rw [es] at e2
            cases o1 <;> cases o <;> try cases e2
            rename_i xss ys
            replace e2 : (if xss.length < lim then some (O.ll (xss ++ [ys])) else none) = some o2 := e2
            by_cases hl2 : xss.length < lim
            case neg => rw [if_neg hl2] at e2; cases e2
            rw [if_pos hl2] at e2
            cases e2
            obtain ⟨a', bs, ev', hf, h1, l1, r1⟩ := g1.lls (slot_some es)
            rw [ev] at ev'
            cases ev'
            obtain ⟨b, ws, rfl, rfl, hb, lb, rb⟩ := t.rep.inv_l
            have ll : bs.length < sizeLine := by rw [r1.len, ← lim_eq]; exact hl2
            have hnb : ∀ j, b ∉ fps1 j := (t.own b (by simp)).2.1
            have hna : b ≠ a := fun z => hnb i (by rw [hf, z]; simp)
            have ha : a ∈ fps1 i := by rw [hf]; simp
            have nda := g1.nd i
            rw [hf, List.nodup_cons] at nda
            have nb : ∀ c ∈ bs, c ≠ a := fun c hc z => nda.1 (z ▸ hc)
            refine ⟨a, bs.map V.ref, .ref b, rfl, rfl, h1, by rw [List.length_map]; exact ll, ?_⟩
            have em2 : bs.map V.ref ++ [V.ref b] = (bs ++ [b]).map V.ref := by rw [List.map_append]; rfl
            rw [em2]
            have ro : RO r.K F1 (upd H1 a (.lst ((bs ++ [b]).map V.ref))) (.ref a) (.ll (xss ++ [ys])) (a :: (bs ++ [b])) := by
              refine .ll upd_same (by rw [List.length_append]; exact ll) ?_
              refine RLs.snoc (by rw [upd_ne hna]; exact hb) lb rb ?_
              refine r1.step (Sub.refl F1) fun c hc w hw => ?_
              rw [upd_ne (nb c hc)]
              exact hw
            refine q F1 _ _ σ (s1.grow (i := i) (fp := a :: (bs ++ [b])) ha fun c hc => ?_) (g1.grow ev ha ro (fun c hc => ?_) ?_) Kp.refl
            · obtain rfl | hc := List.mem_cons.mp hc
              · exact .inl ha
              obtain hc | hc := List.mem_append.mp hc
              · exact .inl (by rw [hf]; simp [hc])
              · have : c = b := by simpa using hc
                subst this
                exact .inr (t.own c (by simp)).2.2
            · obtain rfl | hc := List.mem_cons.mp hc
              · exact .inl ha
              obtain hc | hc := List.mem_append.mp hc
              · exact .inl (by rw [hf]; simp [hc])
              · have : c = b := by simpa using hc
                subst this
                exact .inr ⟨(t.own c (by simp)).1, hnb⟩
            · have nbb : b ∉ bs := fun hb => hnb i (by rw [hf]; simp [hb])
              rw [List.nodup_cons]
              refine ⟨fun hm => ?_, ?_⟩
              · obtain hm | hm := List.mem_append.mp hm
                · exact nda.1 hm
                · exact hna (List.mem_singleton.mp hm).symm
              · rw [List.nodup_append]
                exact ⟨nda.2, by simp, fun c hc d hd z => nbb (by rw [List.mem_singleton] at hd; rw [← hd, ← z]; exact hc)⟩
theorem isLL_at {F H : Hp} {σ : St} {Γ : Env} {fps : Nat → List Addr} (g : Good r.K F H σ Γ fps) (hl : isLL (slot Γ i) = true) : ∃ a vs, σ[i]? = some (some (.ref a)) ∧ H a = some (.lst vs) := by
  cases es : slot Γ i with
  | none => rw [es] at hl; cases hl
  | some o => cases o with
    | l xs =>
      obtain ⟨a, vs, ev, _, h0, _⟩ := g.lst (slot_some es)
      exact ⟨a, vs, ev, h0⟩
    | ll xss =>
      obtain ⟨a, bs, ev, _, h0, _⟩ := g.lls (slot_some es)
      exact ⟨a, _, ev, h0⟩
    | _ => rw [es] at hl; cases hl
theorem app2It_inv {o : Option O} {j : D} {z : Option O} {o2 : O} (e : app2It o j z = some o2) : ∃ xss jn x n ys, o = some (.ll xss) ∧ j = .int jn ∧ z = some (.d x) ∧ nix xss.length jn = some n ∧ xss[n]? = some ys ∧ ys.length < lim ∧ o2 = .ll (xss.set n (ys ++ [x])) := by
  unfold app2It at e
  split at e
  · rename_i xss jn x
    rw [Option.bind_eq_some_iff] at e
    obtain ⟨n, e1, e⟩ := e
    rw [Option.bind_eq_some_iff] at e
    obtain ⟨ys, e2, e⟩ := e
    split at e <;> cases e
    rename_i hl
    exact ⟨xss, jn, x, n, ys, rfl, rfl, rfl, e1, e2, hl, rfl⟩
  · cases e
theorem ps_app2E (ho : PE Y (.Name x p2) (tVar i)) (hj : PE Y ji (tE r X mj)) (hix : PlainIx ji) (hh : PE Y (.Name y p4) (tVar h)) (hbase : attributeBase (.Subscript (.Name x p2) ji p3) "append" Y.env (eval (.Subscript (.Name x p2) ji p3) Y.env) = eval (.Subscript (.Name x p2) ji p3) Y.env)
    (hfew : ((backTo cpos (starEach [.Name y p4] Y.env)).all (fun x => !x.1) && (backToKw cpos (keywordEach [] Y.env)).all (fun x => x.1.isSome) && decide ([Expr.Name y p4].length + ([] : List Keyword).length + (if ([] : List Keyword).isEmpty then 0 else 1) < 30)) = true)
    (hline : (apos.endLine == cpos.line) = true) (hs : starEach [.Name y p4] Y.env = (false, eval (.Name y p4) Y.env) :: starEach [] Y.env) : PS Y (.Expr (.Call (.Attribute (.Subscript (.Name x p2) ji p3) "append" apos) [.Name y p4] [] cpos) pos) (tS r X fix (.app2 i mj (.var h))) :=
  (ps_expr (pe_bm PySem.F.plainAttrs_list PySem.F.slot_list_append PySem.F.type_list_append (fun pn s σ H x xs v us Q I rx rv h => mt_append pn s σ H x xs v us Q I rx rv h) (pe_ix ix_list ho (pe_D hj) hix) (pa_cons hh pa_nil hs) hbase hfew hline hs (by rfl))).imp fun D σ H ⟨F, Γ, fps, g, q⟩ => by
    have q : EvS r fix F H fps σ D (match isLL (slot Γ i) with
      | false => .bad
      | true => (evE X mj Γ).toD.st fun j Γ => putSlot Γ i (app2It (slot Γ i) j (slot Γ h))) := q
    cases hl : isLL (slot Γ i) with
    | false => rw [hl] at q; exact q.elim
    | true =>
      rw [hl] at q
      have q : EvS r fix F H fps σ D ((evE X mj Γ).toD.st fun j Γ => putSlot Γ i (app2It (slot Γ i) j (slot Γ h))) := q
      obtain ⟨a, vs0, ev, h0⟩ := isLL_at g hl
      refine ⟨.ref a, ev, F, Γ, fps, g, q.st.imp fun j Γ1 F1 H1 fps1 s1 g1 k w hw => ?_⟩
      cases e2 : app2It (slot Γ1 i) j (slot Γ1 h) with
      | none => rw [e2] at k; exact k.elim
      | some o2 =>
        rw [e2] at k
        have k : EvS r fix F1 H1 fps1 σ D (.nx (Γ1.set i (some o2))) := k
        obtain ⟨xss, jn, x, n, ys, es, rfl, ez, en, ey, hl2, rfl⟩ := app2It_inv e2
        obtain ⟨a', bs, ev', hf, h1, l1, r1⟩ := g1.lls (slot_some es)
        rw [ev] at ev'
        cases ev'
        obtain ⟨b, ws, hbn, hb, lb, rb⟩ := r1.at ey
        obtain ⟨vx, evx, rox⟩ := g1.env h _ (slot_some ez)
        obtain ⟨-, rx⟩ := rox.inv_d
        have hbm : b ∈ bs := List.mem_of_getElem? hbn
        have hbi : b ∈ fps1 i := by rw [hf]; simp [hbm]
        have nda := g1.nd i
        rw [hf] at nda
        have ndb := (List.nodup_cons.mp nda)
        have hab : a ≠ b := fun z => ndb.1 (z ▸ hbm)
        have lw : ws.length < sizeLine := by rw [rb.length, ← lim_eq]; exact hl2
        refine ⟨a, bs.map V.ref, jn, .ref b, rfl, hw.int_inv, .inl (.inl h1), ?_, .inl ⟨rfl, ws, .inl (.inl hb)⟩, vx, evx, b, ws, vx, rfl, rfl, hb, lw, ?_⟩
        · show (nix (bs.map V.ref).length jn).bind (fun j => (bs.map V.ref)[j]?) = _
          rw [List.length_map, r1.len, en]
          show (bs.map V.ref)[n]? = _
          rw [List.getElem?_map, hbn]
          rfl
        · have ro : RO r.K F1 (upd H1 b (.lst (ws ++ [vx]))) (.ref a) (.ll (xss.set n (ys ++ [x]))) (a :: bs) := by
            refine .ll (by rw [upd_ne hab]; exact h1) l1 (RLs.put ?_ (rb.append (.cons rx .nil)) r1 ndb.2 hbn)
            rw [List.length_append]
            exact lw
          exact k F1 _ _ σ (Step.refl.grow (i := i) (fp := a :: bs) hbi fun c hc => .inl (by rw [hf]; exact hc)) (g1.grow ev hbi ro (fun c hc => .inl (by rw [hf]; exact hc)) nda) Kp.refl
/-- x == [], an own list of own lists -/
theorem llnil_read {σ : St} {H : Hp} {F : Hp} {Γ : Env} {fps : Nat → List Addr} {α : Type} {P : Pst α} {RR : V → V → Hp → Prop} {f : Bool → R α} (g : Good r.K F H σ Γ fps)
    (q : Ev r F H fps σ (match slot Γ i with
      | some (.ll xss) => if SeqAt.shaped (.list (xss.map .list)) then f xss.isEmpty else .bad
      | _ => .bad) P)
    (k : ∀ (xss : List (List D)) F1 H1 fps1 v p, SeqAt.shaped (.list (xss.map .list)) = true → Ev r F H fps σ (f xss.isEmpty) P → Step F H fps F1 (upd H1 p (.lst [])) fps1 → Good r.K F1 (upd H1 p (.lst [])) σ Γ fps1 → Dp r.K (upd H1 p (.lst [])) v (.list (xss.map .list)) → σ[i]? = some (some v) → RR v (.ref p) (upd H1 p (.lst []))) :
    ∃ v, σ[i]? = some (some v) ∧ Ev r F H fps σ (.ok ([] : List D) Γ) fun xs _ F' H' _ => ∀ vs, RDs r.K F' vs xs → vs.length ≤ sizeLine ∧ ∀ p, H' p = none → RR v (.ref p) (upd H' p (.lst vs)) := by
  cases es : slot Γ i with
  | none => rw [es] at q; exact q.elim
  | some o =>
    cases o with
    | ll xss =>
      rw [es] at q
      replace q : Ev r F H fps σ (if SeqAt.shaped (.list (xss.map .list)) then f xss.isEmpty else .bad) P := q
      split at q
      · rename_i hs
        obtain ⟨a, bs, ev, hf, h1, l1, r1⟩ := g.lls (slot_some es)
        refine ⟨.ref a, ev, ?_⟩
        intro F1 H1 fps1 s1 g1 vs rds
        cases rds
        refine ⟨Nat.zero_le _, fun p hp => ?_⟩
        have g2 := g1.newO (u := .lst []) hp
        obtain ⟨a', bs', ev', hf', h1', l1', r1'⟩ := g2.lls (slot_some es)
        rw [ev] at ev'
        cases ev'
        exact k xss F1 H1 fps1 (.ref a) p hs q (s1.trans (Step.newO hp)) g2 (.lst (.inl (.inl h1')) (r1'.dps g2.sub (SeqAt.canLay_of_shaped hs))) ev
      · exact q.elim
    | _ => rw [es] at q; exact q.elim
theorem eqv_nil (xss : List (List D)) : PyData.eqv (.list (xss.map .list)) (.list []) = xss.isEmpty := by cases xss <;> rfl
theorem pe_llnilE (hK : r.K = Y.K) (hu : Y.A.units + 64 < cLine) (ho : PE Y (.Name x p2) (tVar i)) : PE Y (.Compare (.Name x p2) [.Eq] [.List [] p3] pos) (tE r X (.llnil i)) :=
  (pe_cmpR (op_eqD hu) ho (pe_lst (pa_nilD (r := r) (X := X))) (by rfl)).imp fun σ H Q ⟨F, Γ, fps, g, q⟩ => by
    have q : Ev r F H fps σ (match slot Γ i with
      | some (.ll xss) => if SeqAt.shaped (.list (xss.map .list)) then (fun b => R.ok (O.d (.bool b)) Γ) xss.isEmpty else .bad
      | _ => .bad) (fun o _ F' H' fps' => ∀ v fp, Tmp r.K F H fps F' H' fps' v o fp → Q v H') := q
    obtain ⟨v, ev, k⟩ := llnil_read (i := i) (RR := fun v w H2 => rEqD Y.K v w H2 Q) (f := fun b => R.ok (O.d (.bool b)) Γ) g q fun xss F1 H1 fps1 v p hs q s g2 dp ev => by
      refine ⟨_, .list [], hK ▸ dp, .lst (.inl (.inl upd_same)) .nil, hs, rfl, ?_⟩
      rw [eqv_nil]
      exact q F1 _ fps1 s g2 _ [] (Tmp.data (.bl _))
    exact ⟨v, ev, F, Γ, fps, g, k⟩
theorem pt_llnilT (hK : r.K = Y.K) (hu : Y.A.units + 64 < cLine) (ho : PE Y (.Name x p2) (tVar i)) : PT Y (.Compare (.Name x p2) [.Eq] [.List [] p3] pos) (tT r X (.llnil i)) :=
  (pt_cmpR (op_eqD hu) ho (pe_lst (pa_nilD (r := r) (X := X))) (by rfl)).imp fun σ H Q ⟨F, Γ, fps, g, q⟩ => by
    have q : Ev r F H fps σ (match slot Γ i with
      | some (.ll xss) => if SeqAt.shaped (.list (xss.map .list)) then .ok xss.isEmpty Γ else .bad
      | _ => .bad) fun b _ _ H' _ => Q b H' := by
      have q : Ev r F H fps σ (evE X (.llnil i) Γ).toB fun b _ _ H' _ => Q b H' := q
      have e : (evE X (.llnil i) Γ).toB = (match slot Γ i with
      | some (.ll xss) => if SeqAt.shaped (.list (xss.map .list)) then R.ok xss.isEmpty Γ else .bad
      | _ => .bad) := by
        show R.toB (match slot Γ i with
          | some (.ll xss) => if SeqAt.shaped (.list (xss.map .list)) then R.ok (O.d (.bool xss.isEmpty)) Γ else .bad
          | _ => .bad) = _
        cases slot Γ i with
        | none => rfl
        | some o =>
          cases o <;> first | rfl | skip
          rename_i xss
          dsimp only
          split <;> rfl
      rw [e] at q
      exact q
    obtain ⟨v, ev, k⟩ := llnil_read (RR := fun v w H2 => rEqD Y.K v w H2 fun x H' => ∃ k, x = .bl k ∧ Q k H') (f := fun b => R.ok b Γ) g q fun xss F1 H1 fps1 v p hs q s g2 dp ev => by
      refine ⟨_, .list [], hK ▸ dp, .lst (.inl (.inl upd_same)) .nil, hs, rfl, ?_⟩
      rw [eqv_nil]
      exact ⟨_, rfl, q F1 _ fps1 s g2⟩
    exact ⟨v, ev, F, Γ, fps, g, k⟩
end
end MI

set_option maxRecDepth 100000
/-! MI14: does the program's text say what the mini program says? -/
namespace MI
open L2 PySem PyProof.Rows PySem.Spec
/-! ### texts, names -/
def nsEq : List Nat → List Nat → Bool
  | [], [] => true
  | a :: as, b :: bs => Nat.beq a b && nsEq as bs
  | _, _ => false
theorem nsEq_eq : ∀ {as bs : List Nat}, nsEq as bs = true → as = bs
  | [], [], _ => rfl
  | a :: as, b :: bs, h => by
    simp only [nsEq, Bool.and_eq_true] at h
    rw [Nat.eq_of_beq_eq_true h.1, nsEq_eq h.2]
  | [], _ :: _, h => by cases h
  | _ :: _, [], h => by cases h
def sEq (a b : Str) : Bool := nsEq a.cps.toList b.cps.toList
theorem sEq_eq {a b : Str} (h : sEq a b = true) : a = b := by
  have := nsEq_eq h
  cases a; cases b
  simp only [Array.toList_inj] at this
  rw [this]
theorem nsEq_refl : ∀ as : List Nat, nsEq as as = true
  | [] => rfl
  | a :: as => by simp only [nsEq, Bool.and_eq_true]; exact ⟨Nat.beq_refl a, nsEq_refl as⟩
theorem sEq_ne {a b : Str} (h : sEq a b = false) : (a == b) = false := by
  rw [beq_eq_false_iff_ne]
  rintro rfl
  unfold sEq at h
  rw [nsEq_refl] at h
  cases h
def lkS {α : Type} : List (Str × α) → Str → Option α
  | [], _ => none
  | (n, k) :: r, x => match sEq x n with
    | true => some k
    | false => lkS r x
theorem lkS_eq {α : Type} {x : Str} {k : α} : ∀ {l : List (Str × α)}, lkS l x = some k → l.lookup x = some k
  | [], h => by cases h
  | (n, j) :: r, h => by
    simp only [lkS] at h
    cases e : sEq x n with
    | true =>
      rw [e] at h
      cases h
      rw [sEq_eq e, List.lookup_cons_self]
    | false =>
      rw [e] at h
      rw [List.lookup_cons, sEq_ne e]
      exact lkS_eq h
def atS (l : List Str) (i : Nat) (x : Str) : Bool := match l[i]? with
  | some y => sEq y x
  | none => false
def atT (t : Tab Str) (i : Nat) (x : Str) : Bool := match t[i]? with
  | some y => sEq y x
  | none => false
theorem atT_eq {t : Tab Str} {i : Nat} {x : Str} (h : atT t i x = true) : t[i]? = some x := by
  unfold atT at h
  split at h
  · rename_i y e; rw [e, sEq_eq h]
  · cases h
theorem atS_eq {l : List Str} {i : Nat} {x : Str} (h : atS l i x = true) : l[i]? = some x := by
  unfold atS at h
  split at h
  · rename_i y e
    rw [e, sEq_eq h]
  · cases h
def s__debug : Str := "__debug__"
def s__cd : Str := "__classdict__"
def s__name : Str := "__name__"
def plainN (x : Str) : Bool := !sEq x s__debug && !sEq x s__cd && !sEq x s__name
theorem plainN_ok {x : Str} (h : plainN x = true) : (x == ("__debug__" : Str)) = false ∧ (x == ("__classdict__" : Str)) = false ∧ x ≠ "__name__" := by
  simp only [plainN, Bool.and_eq_true, Bool.not_eq_true'] at h
  exact ⟨sEq_ne h.1.1, sEq_ne h.1.2, beq_eq_false_iff_ne.mp (sEq_ne h.2)⟩

/-! ### what a check knows -/
theorem and_inv {x y : Bool} (h : (x && y) = true) : x = true ∧ y = true := by simpa using h
structure Tb where
  fs : Tab (Str × Nat)
  gs : Tab Str
  xs : List Str
theorem fnsT {Q : Nat → Str × Nat → Prop} {l : List (Nat × Str × Nat)} (h : ∀ q ∈ l, Q q.1 q.2) : ∀ (f : Nat) (p : Str × Nat), (⟨l⟩ : Tab (Str × Nat))[f]? = some p → Q f p := fun f p e => h (f, p) (Tab.mem e)
structure Ck where
  N : List Str
  sc : Scope
  fn : Option Scope
  tb : Tb
def Ck.kind (c : Ck) (x : Str) : Option NameKind := lkS c.sc.names x
def Ck.vis (c : Ck) (x : Str) : Bool := match c.kind x with
  | some .local => true | some .cell => true | some .free => true | _ => false
def Ck.loc (c : Ck) (x : Str) : Bool := match c.kind x with
  | some .local => true | some .cell => true | _ => false
def Ck.isLocal (c : Ck) (x : Str) : Bool := match c.kind x with
  | some .local => true | _ => false
def Ck.gl (c : Ck) (x : Str) : Bool := match c.kind x with
  | some .globalImplicit => true | _ => false
def Ck.var (c : Ck) (i : Nat) (x : Str) : Bool := atS c.N i x && c.vis x && plainN x
def Ck.fnOk (c : Ck) (x : Str) : Bool := match c.fn with
  | none => true
  | some sc => (match lkS sc.names x with | some .cell => true | _ => false) || c.isLocal x
def Ck.tgt (c : Ck) (i : Nat) (x : Str) : Bool := atS c.N i x && c.loc x && c.fnOk x
def Ck.blk (c : Ck) (scope : Scope) : Ck := { c with sc := relS scope c.sc, fn := some scope }
section
variable {c : Ck} {x : Str}
theorem Ck.vis_ok (h : c.vis x = true) : Vis c.sc x := by
  unfold Ck.vis Ck.kind at h
  split at h
  · exact .inl (lkS_eq (by assumption))
  · exact .inr (.inl (lkS_eq (by assumption)))
  · exact .inr (.inr (lkS_eq (by assumption)))
  · cases h
theorem Ck.loc_ok (h : c.loc x = true) : Loc c.sc x := by
  unfold Ck.loc Ck.kind at h
  split at h
  · exact .inl (lkS_eq (by assumption))
  · exact .inr (lkS_eq (by assumption))
  · cases h
theorem Ck.isLocal_ok (h : c.isLocal x = true) : c.sc.names.lookup x = some .local := by
  unfold Ck.isLocal Ck.kind at h
  split at h
  · exact lkS_eq (by assumption)
  · cases h
theorem Ck.gl_ok (h : c.gl x = true) : c.sc.names.lookup x = some .globalImplicit := by
  unfold Ck.gl Ck.kind at h
  split at h
  · exact lkS_eq (by assumption)
  · cases h
end
/-! ### the built-ins' names -/
def bltN : Blt → Option String
  | .len => some "len" | .all => some "all" | .any => some "any" | .tuple => some "tuple" | .list => some "list" | .sorted => some "sorted" | .repr => some "repr" | .str => some "str" | .int => some "int"
  | .max1 => some "max" | .min1 => some "min" | .sum => some "sum" | .dict => some "dict"
  | _ => none
def bltN2 : Blt → Option String
  | .max2 => some "max" | .min2 => some "min"
  | _ => none
def bltR : Blt → Option Nat
  | .lrange1 => some 1 | .lrange2 => some 2
  | _ => none
def mthN : Mth → Option (String × Nat)
  | .count => some ("count", 1) | .index => some ("index", 1) | .get1 => some ("get", 1) | .get2 => some ("get", 2) | .upper => some ("upper", 0)
  | _ => none
def bltNames : List String := ["len", "all", "any", "tuple", "list", "sorted", "repr", "str", "int", "max", "min", "sum", "bool", "dict", "isinstance", "range", "ValueError", "enumerate", "zip", "set"]
def isN (s : String) (x : Str) : Bool := sEq x (Str.ofString s)
theorem isN_eq {s : String} {x : Str} (h : isN s x = true) : x = Str.ofString s := sEq_eq h
/-! ### the forms -/
def noStar : Expr → Bool
  | .Starred _ _ => false
  | _ => true
def noSlice : Expr → Bool
  | .Slice _ _ _ _ => false
  | _ => true
def noIf : Expr → Bool
  | .IfExp _ _ _ _ => false
  | _ => true
def noSet : Expr → Bool
  | .Set _ _ _ => false
  | _ => true
def noLc : Expr → Bool
  | .ListComp _ _ _ _ => false
  | .SetComp _ _ _ _ => false
  | .DictComp _ _ _ _ _ => false
  | _ => true
def noCall : Expr → Bool
  | .Call _ _ _ _ => false
  | _ => true
def kC : PyData → Expr → Bool
  | .none, .Constant .none _ _ => true
  | .bool b, .Constant (.bool d) _ _ => b == d
  | .int i, .Constant (.int j) _ _ => decide (i = j)
  | .int i, .UnaryOp .USub (.Constant (.int j) _ _) _ => decide (i = -j)
  | .str x, .Constant (.str y) _ _ => sEq x y
  | _, _ => false
def opEq : Bop → Operator → Bool
  | .add, .Add => true | .sub, .Sub => true | .mul, .Mult => true | .fdiv, .FloorDiv => true | .mod, .Mod => true | .pow, .Pow => true
  | _, _ => false
def cpEq : Cop → CmpOp → Bool
  | .eq, .Eq => true | .ne, .NotEq => true | .lt, .Lt => true | .le, .LtE => true | .gt, .Gt => true | .ge, .GtE => true | .isin, .In => true | .notin, .NotIn => true | .is, .Is => true | .isnt, .IsNot => true
  | _, _ => false
theorem opEq_eq {a : Bop} {b : Operator} (h : opEq a b = true) : b = opOf a := by cases a <;> cases b <;> first | rfl | cases h
theorem cpEq_eq {a : Cop} {b : CmpOp} (h : cpEq a b = true) : b = cmpOf a := by cases a <;> cases b <;> first | rfl | cases h
def kNames (c : Ck) : List Nat → List Expr → Bool
  | [], [] => true
  | i :: is, .Name x _ :: es => c.tgt i x && kNames c is es
  | _, _ => false
/-- a target -/
def kT (c : Ck) : T → Expr → Bool
  | .nm i, .Name x _ => c.tgt i x
  | .tp is, .Tuple es _ _ => kNames c is es
  | _, _ => false
def tpOnly (lo : Bool) (t : T) : Bool := match lo, t with
  | false, _ => true
  | true, .tp _ => true
  | true, .nm _ => false
def ownOk (N : List Str) (own : List Nat) : List (Str × Nat) := own.filterMap fun i => (N[i]?).map fun x => (x, i)
/-- a comprehension's names -/
def kBlk (c : Ck) (scope : Scope) (own : List Nat) : Bool :=
  (match scope.kind with | .function => true | _ => false) && (scope.names.all fun y => match lkS scope.names y.1 with | some k => decide (k = y.2) | none => false) && own.all (fun i => decide (i < c.N.length)) &&
    (scope.names.all fun y =>
      match y.2 with
      | .free => c.vis y.1 && !c.isLocal y.1
      | .local => (ownOk c.N own).any (fun p => sEq y.1 p.1) || !c.N.any (fun n => sEq y.1 n)
      | .cell => (ownOk c.N own).any (fun p => sEq y.1 p.1) || !c.N.any (fun n => sEq y.1 n)
      | _ => true)
theorem ownOk_map {N : List Str} : ∀ {own : List Nat}, own.all (fun i => decide (i < N.length)) = true → (ownOk N own).map (·.2) = own
  | [], _ => rfl
  | i :: is, h => by
    simp only [List.all_cons, Bool.and_eq_true, decide_eq_true_eq] at h
    unfold ownOk
    rw [List.filterMap_cons, List.getElem?_eq_getElem h.1]
    exact congrArg (i :: ·) (ownOk_map (own := is) h.2)
theorem ownOk_at {N : List Str} {own : List Nat} {p : Str × Nat} (h : p ∈ ownOk N own) : N[p.2]? = some p.1 := by
  unfold ownOk at h
  rw [List.mem_filterMap] at h
  obtain ⟨i, _, h⟩ := h
  rw [Option.map_eq_some_iff] at h
  obtain ⟨x, h, rfl⟩ := h
  exact h
theorem kBlk_ok {c : Ck} {scope : Scope} {own : List Nat} (h : kBlk c scope own = true) : BlkOk c.N c.sc scope (ownOk c.N own) ∧ (ownOk c.N own).map (·.2) = own := by
  unfold kBlk at h
  simp only [Bool.and_eq_true, List.all_eq_true] at h
  obtain ⟨⟨⟨h1, h2⟩, h3⟩, h4⟩ := id h
  have names : ∀ y ∈ scope.names, ((ownOk c.N own).any (fun p => sEq y.1 p.1) || !c.N.any (fun n => sEq y.1 n)) = true → y.1 ∈ (ownOk c.N own).map (·.1) ∨ y.1 ∉ c.N := fun y _ q => by
    rw [Bool.or_eq_true] at q
    rcases q with q | q
    · rw [List.any_eq_true] at q
      obtain ⟨p, hp, e⟩ := q
      exact .inl (List.mem_map.mpr ⟨p, hp, (sEq_eq e).symm⟩)
    · refine .inr fun hm => ?_
      rw [Bool.not_eq_true', List.any_eq_false] at q
      exact q _ hm (nsEq_refl _)
  refine ⟨⟨?_, fun y hy => ?_, fun p hp => ownOk_at hp, fun y hy e => ?_, fun y hy e => ?_⟩, ownOk_map (by simpa [List.all_eq_true] using h3)⟩
  · split at h1
    · assumption
    · cases h1
  · have q := h2 y hy
    split at q
    · rename_i k e
      rw [lkS_eq e, of_decide_eq_true q]
    · cases q
  · have q := h4 y hy
    simp only [e, Bool.and_eq_true, Bool.not_eq_true'] at q
    rcases Ck.vis_ok q.1 with z | z
    · exfalso
      have z2 : c.isLocal y.1 = true := by
        have z3 := q.1
        unfold Ck.vis at z3
        unfold Ck.isLocal
        split at z3
        · rename_i e2; rw [e2]
        · rename_i e2
          have := lkS_eq (l := c.sc.names) e2
          rw [z] at this; cases this
        · rename_i e2
          have := lkS_eq (l := c.sc.names) e2
          rw [z] at this; cases this
        · cases z3
      rw [z2] at q
      cases q.2
    · exact z
  · have q := h4 y hy
    rcases e with e | e
    · simp only [e] at q
      exact names y hy q
    · simp only [e] at q
      exact names y hy q
def esNil : Es → Bool
  | .nil => true
  | _ => false
def exNil : Expr → Bool
  | .List [] _ => true
  | _ => false
mutual
def kE (c : Ck) : E → Expr → Bool
  | .var i, e => match e with
    | .Name x _ => c.var i x
    | _ => false
  | .cst d, e => kC d e
  | .glob g, e => match e with
    | .Name x _ => atT c.tb.gs g x && c.gl x && plainN x
    | _ => false
  | .bin op a b, e => match e with
    | .BinOp l o r _ => opEq op o && kE c a l && kE c b r
    | _ => false
  | .not a, e => match e with
    | .UnaryOp .Not x _ => kE c a x && noIf x
    | _ => false
  | .neg a, e => match e with
    | .UnaryOp .USub x _ => kE c a x
    | _ => false
  | .and a b, e => match e with
    | .BoolOp .And [x, y] _ => kE c a x && noIf x && kE c b y && noIf y
    | .BoolOp .And (x :: y :: z :: rest) p => kE c a x && noIf x && kE c b (.BoolOp .And (y :: z :: rest) p)
    | _ => false
  | .or a b, e => match e with
    | .BoolOp .Or [x, y] _ => kE c a x && noIf x && kE c b y && noIf y
    | .BoolOp .Or (x :: y :: z :: rest) p => kE c a x && noIf x && kE c b (.BoolOp .Or (y :: z :: rest) p)
    | _ => false
  | .cmp op a b, e => match e with
    | .Compare l [o] [r] _ => cpEq op o && kE c a l && kE c b r && !behindInMarks o r
    | _ => false
  | .chain op op2 a b d, e => match e with
    | .Compare l [o, o2] [m, r] _ => cpEq op o && cpEq op2 o2 && kE c a l && kE c b m && kE c d r && !lastMarks [o, o2] [m, r]
    | _ => false
  | .ite d a b, e => match e with
    | .IfExp t x y _ => kE c d t && noIf t && kE c a x && kE c b y
    | _ => false
  | .tup es, e => match e with
    | .Tuple xs _ _ => kEs c es xs && Nat.ble es.len 1000
    | _ => false
  | .lst es, e => match e with
    | .List xs _ => kEs c es xs && Nat.ble es.len 1000
    | _ => false
  | .lls es, e => esNil es && exNil e
  | .dct es, e => match e with
    | .Dict keys vals _ => kPs c es keys vals && Nat.ble es.len 30
    | _ => false
  | .lc own t it d m, e => match e with
    | .ListComp elt [⟨tg, iter, ifs, asy⟩] scope _ => decide (asy = 0) && kBlk c scope own && kT (c.blk scope) t tg && t.slots.all (fun j => own.any (Nat.beq j)) && tpOnly it.lo t && kI c it iter && noSet iter && kE (c.blk scope) m elt &&
      (match ifs with
      | [] => (match d with | .cst (.bool true) => true | _ => false)
      | [x] => kE (c.blk scope) d x && noIf x
      | _ => false)
    | _ => false
  | .idx a i, e => match e with
    | .Subscript x s _ => kE c a x && kE c i s && noSlice s
    | _ => false
  | .slh a h, e => match e with
    | .Subscript x (.Slice none (some u) none _) _ => kE c a x && kE c h u
    | _ => false
  | .sll a l, e => match e with
    | .Subscript x (.Slice (some u) none none _) _ => kE c a x && kE c l u
    | _ => false
  | .slb a l h, e => match e with
    | .Subscript x (.Slice (some u) (some w) none _) _ => kE c a x && kE c l u && kE c h w
    | _ => false
  | .scut i n, e => match e with
    | .Subscript (.Name x _) (.Slice none (some (.Constant (.int m) _ _)) none _) _ => c.var i x && decide (m = n)
    | _ => false
  | .rev a, e => match e with
    | .Subscript x (.Slice none none (some (.UnaryOp .USub (.Constant (.int 1) _ _) _)) _) _ => kE c a x
    | _ => false
  | .call f args, e => match e with
    | .Call (.Name x _) es [] _ => (match c.tb.fs[f]? with | some p => sEq p.1 x && Nat.beq args.len p.2 | none => false) && c.gl x && plainN x && kEs c args es
    | _ => false
  | .blt b a, e => match e with
    | .Call (.Name x _) [y] [] _ => (match bltN b with | some s => isN s x | none => false) && c.gl x && kE c a y && noStar y
    | _ => false
  | .blts b args, e => match e with
    | .Call (.Name x _) es [] _ => ((match bltN2 b with | some s => isN s x | none => false) && c.gl x && kEs c args es && Nat.beq args.len 2) || ((match bltR b with | some n => Nat.beq args.len n | none => false) && isN "list" x && c.gl x && (match es with
      | [.Call (.Name z _) zs [] _] => isN "range" z && c.gl z && kEs c args zs
      | _ => false))
    | _ => false
  | .mth m a args, e => match e with
    | .Call (.Attribute o name apos) es [] cpos => (match mthN m with | some (s, n) => isN s name && Nat.beq args.len n | none => false) && kE c a o && noCall o && kEs c args es && Nat.beq apos.endLine cpos.line
    | _ => false
  | .pop i, e => match e with
    | .Call (.Attribute (.Name x _) name apos) [] [] cpos => c.var i x && isN "pop" name && Nat.beq apos.endLine cpos.line
    | _ => false
  | .popat i m, e => match e with
    | .Call (.Attribute (.Name x _) name apos) [y] [] cpos => c.var i x && isN "pop" name && Nat.beq apos.endLine cpos.line && kE c m y && noStar y
    | _ => false
  | .att _ _, _ => false
  | .isi a ty, e => match e with
    | .Call (.Name x _) [y, .Name z _] [] _ => isN "isinstance" x && c.gl x && isN (tyS ty) z && c.gl z && kE c a y && noStar y
    | _ => false
  | .isx _ _, _ => false
  | .llnil i, e => match e with
    | .Compare (.Name x _) [.Eq] [.List [] _] _ => c.var i x
    | _ => false
def kEs (c : Ck) : Es → List Expr → Bool
  | .nil, es => match es with
    | [] => true
    | _ :: _ => false
  | .cons m ms, es => match es with
    | e :: es => kE c m e && noStar e && kEs c ms es
    | [] => false
def kPs (c : Ck) : Es → List (Option Expr) → List Expr → Bool
  | .nil, ks, vs => match ks, vs with
    | [], [] => true
    | _, _ => false
  | .cons m (.cons m2 ms), ks, vs => match ks, vs with
    | some k :: ks, v :: vs => kE c m k && kE c m2 v && kPs c ms ks vs
    | _, _ => false
  | .cons _ .nil, _, _ => false
def kI (c : Ck) : I → Expr → Bool
  | .seq m, e => kE c m e && (match e with | .Call (.Name x _) _ _ _ => !isN "range" x | _ => true)
  | .rng1 a, e => match e with
    | .Call (.Name x _) [y] [] _ => isN "range" x && c.gl x && kE c a y && noStar y
    | _ => false
  | .rng2 a b, e => match e with
    | .Call (.Name x _) [y, z] [] _ => isN "range" x && c.gl x && kE c a y && noStar y && kE c b z && noStar z
    | _ => false
  | .enum a, e => match e with
    | .Call (.Name x _) [y] [] _ => isN "enumerate" x && c.gl x && kE c a y && noStar y
    | _ => false
  | .zip a b, e => match e with
    | .Call (.Name x _) [y, z] [] _ => isN "zip" x && c.gl x && kE c a y && noStar y && kE c b z && noStar z
    | _ => false
  | _, _ => false
end
/-! ### the check, one step -/
theorem kE_var_eq (c : Ck) (i : Nat) (e : Expr) : kE c (.var i) e = (match e with
    | .Name x _ => c.var i x
    | _ => false) := rfl
theorem kE_glob_eq (c : Ck) (g : Nat) (e : Expr) : kE c (.glob g) e = (match e with
    | .Name x _ => atT c.tb.gs g x && c.gl x && plainN x
    | _ => false) := rfl
theorem kE_bin_eq (c : Ck) (op : Bop) (a b : E) (e : Expr) : kE c (.bin op a b) e = (match e with
    | .BinOp l o r _ => opEq op o && kE c a l && kE c b r
    | _ => false) := rfl
theorem kE_not_eq (c : Ck) (a : E) (e : Expr) : kE c (.not a) e = (match e with
    | .UnaryOp .Not x _ => kE c a x && noIf x
    | _ => false) := rfl
theorem kE_neg_eq (c : Ck) (a : E) (e : Expr) : kE c (.neg a) e = (match e with
    | .UnaryOp .USub x _ => kE c a x
    | _ => false) := rfl
theorem kE_and_eq (c : Ck) (a b : E) (e : Expr) : kE c (.and a b) e = (match e with
    | .BoolOp .And [x, y] _ => kE c a x && noIf x && kE c b y && noIf y
    | .BoolOp .And (x :: y :: z :: rest) p => kE c a x && noIf x && kE c b (.BoolOp .And (y :: z :: rest) p)
    | _ => false) := rfl
theorem kE_or_eq (c : Ck) (a b : E) (e : Expr) : kE c (.or a b) e = (match e with
    | .BoolOp .Or [x, y] _ => kE c a x && noIf x && kE c b y && noIf y
    | .BoolOp .Or (x :: y :: z :: rest) p => kE c a x && noIf x && kE c b (.BoolOp .Or (y :: z :: rest) p)
    | _ => false) := rfl
theorem kE_cmp_eq (c : Ck) (op : Cop) (a b : E) (e : Expr) : kE c (.cmp op a b) e = (match e with
    | .Compare l [o] [r] _ => cpEq op o && kE c a l && kE c b r && !behindInMarks o r
    | _ => false) := rfl
theorem kE_chain_eq (c : Ck) (op op2 : Cop) (a b d : E) (e : Expr) : kE c (.chain op op2 a b d) e = (match e with
    | .Compare l [o, o2] [m, r] _ => cpEq op o && cpEq op2 o2 && kE c a l && kE c b m && kE c d r && !lastMarks [o, o2] [m, r]
    | _ => false) := rfl
theorem kE_ite_eq (c : Ck) (d a b : E) (e : Expr) : kE c (.ite d a b) e = (match e with
    | .IfExp t x y _ => kE c d t && noIf t && kE c a x && kE c b y
    | _ => false) := rfl
theorem kE_tup_eq (c : Ck) (es : Es) (e : Expr) : kE c (.tup es) e = (match e with
    | .Tuple xs _ _ => kEs c es xs && Nat.ble es.len 1000
    | _ => false) := rfl
theorem kE_lst_eq (c : Ck) (es : Es) (e : Expr) : kE c (.lst es) e = (match e with
    | .List xs _ => kEs c es xs && Nat.ble es.len 1000
    | _ => false) := rfl
theorem kE_dct_eq (c : Ck) (es : Es) (e : Expr) : kE c (.dct es) e = (match e with
    | .Dict keys vals _ => kPs c es keys vals && Nat.ble es.len 30
    | _ => false) := rfl
theorem kE_lc_eq (c : Ck) (own : List Nat) (t : T) (it : I) (d m : E) (e : Expr) : kE c (.lc own t it d m) e = (match e with
    | .ListComp elt [⟨tg, iter, ifs, asy⟩] scope _ => decide (asy = 0) && kBlk c scope own && kT (c.blk scope) t tg && t.slots.all (fun j => own.any (Nat.beq j)) && tpOnly it.lo t && kI c it iter && noSet iter && kE (c.blk scope) m elt &&
      (match ifs with
      | [] => (match d with | .cst (.bool true) => true | _ => false)
      | [x] => kE (c.blk scope) d x && noIf x
      | _ => false)
    | _ => false) := rfl
theorem kE_idx_eq (c : Ck) (a i : E) (e : Expr) : kE c (.idx a i) e = (match e with
    | .Subscript x s _ => kE c a x && kE c i s && noSlice s
    | _ => false) := rfl
theorem kE_slh_eq (c : Ck) (a h : E) (e : Expr) : kE c (.slh a h) e = (match e with
    | .Subscript x (.Slice none (some u) none _) _ => kE c a x && kE c h u
    | _ => false) := rfl
theorem kE_sll_eq (c : Ck) (a l : E) (e : Expr) : kE c (.sll a l) e = (match e with
    | .Subscript x (.Slice (some u) none none _) _ => kE c a x && kE c l u
    | _ => false) := rfl
theorem kE_slb_eq (c : Ck) (a l h : E) (e : Expr) : kE c (.slb a l h) e = (match e with
    | .Subscript x (.Slice (some u) (some w) none _) _ => kE c a x && kE c l u && kE c h w
    | _ => false) := rfl
theorem kE_scut_eq (c : Ck) (i : Nat) (n : Int) (e : Expr) : kE c (.scut i n) e = (match e with
    | .Subscript (.Name x _) (.Slice none (some (.Constant (.int m) _ _)) none _) _ => c.var i x && decide (m = n)
    | _ => false) := rfl
theorem kE_rev_eq (c : Ck) (a : E) (e : Expr) : kE c (.rev a) e = (match e with
    | .Subscript x (.Slice none none (some (.UnaryOp .USub (.Constant (.int 1) _ _) _)) _) _ => kE c a x
    | _ => false) := rfl
theorem kE_call_eq (c : Ck) (f : Nat) (args : Es) (e : Expr) : kE c (.call f args) e = (match e with
    | .Call (.Name x _) es [] _ => (match c.tb.fs[f]? with | some p => sEq p.1 x && Nat.beq args.len p.2 | none => false) && c.gl x && plainN x && kEs c args es
    | _ => false) := rfl
theorem kE_blt_eq (c : Ck) (b : Blt) (a : E) (e : Expr) : kE c (.blt b a) e = (match e with
    | .Call (.Name x _) [y] [] _ => (match bltN b with | some s => isN s x | none => false) && c.gl x && kE c a y && noStar y
    | _ => false) := rfl
theorem kE_blts_eq (c : Ck) (b : Blt) (args : Es) (e : Expr) : kE c (.blts b args) e = (match e with
    | .Call (.Name x _) es [] _ => ((match bltN2 b with | some s => isN s x | none => false) && c.gl x && kEs c args es && Nat.beq args.len 2) || ((match bltR b with | some n => Nat.beq args.len n | none => false) && isN "list" x && c.gl x && (match es with
      | [.Call (.Name z _) zs [] _] => isN "range" z && c.gl z && kEs c args zs
      | _ => false))
    | _ => false) := rfl
theorem kE_lls_eq (c : Ck) (es : Es) (e : Expr) : kE c (.lls es) e = (esNil es && exNil e) := rfl
theorem kE_llnil_eq (c : Ck) (i : Nat) (e : Expr) : kE c (.llnil i) e = (match e with
    | .Compare (.Name x _) [.Eq] [.List [] _] _ => c.var i x
    | _ => false) := rfl
theorem kE_mth_eq (c : Ck) (m : Mth) (a : E) (args : Es) (e : Expr) : kE c (.mth m a args) e = (match e with
    | .Call (.Attribute o name apos) es [] cpos => (match mthN m with | some (s, n) => isN s name && Nat.beq args.len n | none => false) && kE c a o && noCall o && kEs c args es && Nat.beq apos.endLine cpos.line
    | _ => false) := rfl
theorem kE_pop_eq (c : Ck) (i : Nat) (e : Expr) : kE c (.pop i) e = (match e with
    | .Call (.Attribute (.Name x _) name apos) [] [] cpos => c.var i x && isN "pop" name && Nat.beq apos.endLine cpos.line
    | _ => false) := rfl
theorem kE_popat_eq (c : Ck) (i : Nat) (m : E) (e : Expr) : kE c (.popat i m) e = (match e with
    | .Call (.Attribute (.Name x _) name apos) [y] [] cpos => c.var i x && isN "pop" name && Nat.beq apos.endLine cpos.line && kE c m y && noStar y
    | _ => false) := rfl
theorem kE_isi_eq (c : Ck) (a : E) (ty : Ty) (e : Expr) : kE c (.isi a ty) e = (match e with
    | .Call (.Name x _) [y, .Name z _] [] _ => isN "isinstance" x && c.gl x && isN (tyS ty) z && c.gl z && kE c a y && noStar y
    | _ => false) := rfl
theorem kI_rng1_eq (c : Ck) (a : E) (e : Expr) : kI c (.rng1 a) e = (match e with
    | .Call (.Name x _) [y] [] _ => isN "range" x && c.gl x && kE c a y && noStar y
    | _ => false) := rfl
theorem kI_rng2_eq (c : Ck) (a b : E) (e : Expr) : kI c (.rng2 a b) e = (match e with
    | .Call (.Name x _) [y, z] [] _ => isN "range" x && c.gl x && kE c a y && noStar y && kE c b z && noStar z
    | _ => false) := rfl
theorem kI_enum_eq (c : Ck) (a : E) (e : Expr) : kI c (.enum a) e = (match e with
    | .Call (.Name x _) [y] [] _ => isN "enumerate" x && c.gl x && kE c a y && noStar y
    | _ => false) := rfl
theorem kI_zip_eq (c : Ck) (a b : E) (e : Expr) : kI c (.zip a b) e = (match e with
    | .Call (.Name x _) [y, z] [] _ => isN "zip" x && c.gl x && kE c a y && noStar y && kE c b z && noStar z
    | _ => false) := rfl
theorem tup_of {c : Ck} {t : T} {tg : Expr} {lo : Bool} (h : tpOnly lo t = true) (h2 : kT c t tg = true) : lo = true → ∃ es k p, tg = .Tuple es k p := fun e => by
  subst e
  cases t with
  | nm i => cases h
  | tp is =>
    unfold kT at h2
    split at h2
    · cases ‹T.tp is = _›
    · exact ⟨_, _, _, rfl⟩
    · cases h2
end MI

set_option maxRecDepth 100000
set_option maxHeartbeats 1900000
/-! MIv: refusals: classes, how they are made and raised. -/
namespace MI
open L2 PySem PyProof.Rows PySem.Spec
def Cl.name : Cl → Str
  | .handError => "HandError"
  | .noStep => "NoStep"
  | .noPaper => "NoPaper"
  | .noStand => "NoStand"
  | .tooMany => "TooMany"
  | .noType => "NoType"
  | .noRow => "NoRow"
  | .valueError => "ValueError"
/-- the class of a refusal, as the module has it -/
def Cl.ad (K : PySem.W.Frag) (c : Cl) : Addr := He.ga K c.name
/-! ### what the written part says of a class -/
def isOex (K : PySem.W.Frag) (C : Addr) : Bool := (match K.lookup C with
  | some ⟨.type t, _, .cls cd, sl⟩ => (match cd.mro, sl.toList with
    | .ref D :: bm, [_, _, _, _, some (.builtin n), _] => decide (t = "type") && (decide (D = C) && (decide (n = "ValueError.__new__") && (!cd.hasDel && (cd.hasDict && PySem.HandSPX.refsVE bm))))
    | _, _ => false)
  | _ => false) && (decide (PySem.W.findIn K (.ref C) "__setattr__" = some (some (.builtin "object.__setattr__"))) && (decide (PySem.W.subIn K (.ref C) (.type "BaseException") = some true) && (decide (PySem.W.typeIn K (.ref C) = some (.type "type")) && PySem.W.keepIn K (.ref C))))
theorem isOex_ok {K : PySem.W.Frag} {C : Addr} (h : isOex K C = true) : OexC K C := by
  unfold isOex at h
  obtain ⟨h0, h⟩ := and_inv h
  obtain ⟨h1, h⟩ := and_inv h
  obtain ⟨h2, h⟩ := and_inv h
  obtain ⟨h3, h4⟩ := and_inv h
  refine ⟨?_, of_decide_eq_true h1, of_decide_eq_true h2, of_decide_eq_true h3, h4⟩
  split at h0
  · rename_i t dd cd sl ho
    split at h0
    · rename_i D bm k0 k1 k2 k3 n k5 hm hs
      obtain ⟨a1, h0⟩ := and_inv h0
      obtain ⟨a2, h0⟩ := and_inv h0
      obtain ⟨a3, h0⟩ := and_inv h0
      obtain ⟨a4, h0⟩ := and_inv h0
      obtain ⟨a5, a6⟩ := and_inv h0
      have a1 := of_decide_eq_true a1
      have a2 := of_decide_eq_true a2
      have a3 := of_decide_eq_true a3
      subst a1 a2 a3
      obtain ⟨nm, bs, mro, ns, qn, hd, sn, sub, ab, col, hdel⟩ := cd
      dsimp only at hm a4 a5
      have a4 : hdel = false := by simpa using a4
      subst hm a4 a5
      obtain ⟨l⟩ := sl
      have hs : l = _ := hs
      subst hs
      exact ⟨_, _, _, _, _, _, _, _, _, _, _, _, _, _, _, ho, a6⟩
    · cases h0
  · cases h0
/-- the base class, whose own __init__ there is none -/
structure HeC (K : PySem.W.Frag) (C : Addr) : Prop where
  own : PySem.W.specialIn K (.ref C) "__getattribute__" = .some (.some (.builtin "type.__getattribute__"))
  rd : PySem.W.readsIn K C (.type "type") = true
  fc : PySem.W.findCls K (.ref C) (.type "type") "__init__" = some (.val (.builtin "ValueError.__init__"))
def isHe (K : PySem.W.Frag) (C : Addr) : Bool := decide (PySem.W.specialIn K (.ref C) "__getattribute__" = some (some (.builtin "type.__getattribute__"))) && (PySem.W.readsIn K C (.type "type") && (match PySem.W.findCls K (.ref C) (.type "type") "__init__" with
  | some (.val (.builtin n)) => decide (n = "ValueError.__init__")
  | _ => false))
theorem isHe_ok {K : PySem.W.Frag} {C : Addr} (h : isHe K C = true) : HeC K C := by
  unfold isHe at h
  obtain ⟨h1, h⟩ := and_inv h
  obtain ⟨h2, h3⟩ := and_inv h
  refine ⟨of_decide_eq_true h1, h2, ?_⟩
  split at h3
  · rename_i n e
    rw [e, of_decide_eq_true h3]
  · cases h3
section
variable {X : Cx} {e : Expr} {es : List Expr} {ta : TA} {x : Str} {Hc : Addr} {p1 p2 pos : Pos}
/-- HandError.__init__(self, ..) -/
theorem pe_heinit (hg : Gl X x) (hm : X.mg x = some (.ref Hc)) (T : HeC X.K Hc) (ha : PA X (e :: es) ta) (hdb : (x == ("__debug__" : Str)) = false) (hline : (p2.endLine == pos.line) = true)
    (hfew : methodCallForm ((e :: es).length + ([] : List Keyword).length) (backTo pos (starEach (e :: es) X.env)) (backToKw pos (keywordEach [] X.env)) = true)
    (h1 : starEach (e :: es) X.env = (false, eval e X.env) :: starEach es X.env) (h2 : (backTo pos (starEach es X.env)).any (·.1) = false) :
    PE X (.Call (.Attribute (.Name x p1) "__init__" p2) (e :: es) [] pos) (tVeI X.K ta) := by
  refine ⟨fun pn s σ H Q I h => ?_⟩
  have there : methodCallPos true (.Name x p1) X.env p2 pos = pure pos := by
    unfold methodCallPos
    simp [hline]
  rw [arm_eval_Call]
  refine wpAny_bind (ld_glob I hg hm ?_ hdb)
  apply wpAny_bind; refine wpAny_standAt ?_
  unfold methodCall
  rw [hfew]
  apply wpAny_bind; refine wpAny_holding ?_
  refine PySem.W.method_cls I.kIn T.own (PySem.W.cls_value I.kIn T.rd T.fc (by decide +kernel) ?_)
  refine wpAny_bind (wpAny_of_eq there ?_)
  refine PyProof.Rows.callWith_method1 (thn (ha.run pos pn _ σ H _ (I.tok _) h) fun us s1 told => ?_) h1 h2
  obtain ⟨vs, H1, I1, r1, a, C, ws, ev, hl, O, ea, q⟩ := told
  subst ev
  cases r1 with
  | cons ra rest =>
    cases ra
    have few := Paired.length rest
    exact oinit_ok O I1 ea (by rw [← few, sizeLine_eq]; omega) fun s2 J => ⟨.non, H1, J, rfl, q⟩
end
/-! ### what the __init__ of a refusal does -/
/-- one field -/
def spI1 (K : PySem.W.Frag) (C : Addr) (f : Str) : Sp := fun vs H Q _ => ∃ a v, vs = [.ref a, v] ∧ H a = some (exo a C none) ∧ ∀ d, H d = none → d ≠ a → Q .non (upd (upd H d (exd d [(f, v)])) a (exo a C (some d)))
/-- two fields -/
def spI2 (K : PySem.W.Frag) (C : Addr) (f g : Str) : Sp := fun vs H Q _ => ∃ a v w, vs = [.ref a, v, w] ∧ H a = some (exo a C none) ∧ ∀ d, H d = none → d ≠ a → Q .non (upd (upd (upd H d (exd d [(f, v)])) a (exo a C (some d))) d (exd d [(g, w), (f, v)]))
/-- the first row of such an __init__: what the base does -/
def kIni0 (sc : Scope) (st : Stmt) : Bool := match st with
  | .Expr (.Call (.Attribute (.Name h _) ini p2) [.Name s _, .Constant (.str _) _ _] [] pos) _ => sEq h "HandError" && (sEq ini "__init__" && (sEq s "self" && (Nat.beq p2.endLine pos.line && (match lkS sc.names "HandError" with
    | some .globalImplicit => true
    | _ => false))))
  | _ => false
/-- a field's row -/
def kFld (p f : Str) (st : Stmt) : Bool := match st with
  | .Assign [.Attribute (.Name s _) g _] (.Name q _) _ => sEq s "self" && (sEq g f && sEq q p)
  | _ => false
theorem kIni0_ok {sc : Scope} {st : Stmt} (hk : kIni0 sc st = true) : ∃ ph p2 ps t jt pt pos pe, st = .Expr (.Call (.Attribute (.Name "HandError" ph) "__init__" p2) [.Name "self" ps, .Constant (.str t) jt pt] [] pos) pe ∧ (p2.endLine == pos.line) = true ∧ sc.names.lookup ("HandError" : Str) = some .globalImplicit := by
  unfold kIni0 at hk
  split at hk
  · obtain ⟨k1, hk⟩ := and_inv hk
    obtain ⟨k2, hk⟩ := and_inv hk
    obtain ⟨k3, hk⟩ := and_inv hk
    obtain ⟨k4, k5⟩ := and_inv hk
    have k1 := sEq_eq k1
    have k2 := sEq_eq k2
    have k3 := sEq_eq k3
    subst k1 k2 k3
    refine ⟨_, _, _, _, _, _, _, _, rfl, beq_iff_eq.mpr (Nat.eq_of_beq_eq_true k4), ?_⟩
    split at k5
    · rename_i e
      exact lkS_eq e
    · cases k5
  · cases hk
theorem kFld_ok {p f : Str} {st : Stmt} (hk : kFld p f st = true) : ∃ ps pa pq pz, st = .Assign [.Attribute (.Name "self" ps) f pa] (.Name p pq) pz := by
  unfold kFld at hk
  split at hk
  · obtain ⟨k1, hk⟩ := and_inv hk
    obtain ⟨k2, k3⟩ := and_inv hk
    have k1 := sEq_eq k1
    have k2 := sEq_eq k2
    have k3 := sEq_eq k3
    subst k1 k2 k3
    exact ⟨_, _, _, _, rfl⟩
  · cases hk
section
variable {P : Program} {w : World} {K : PySem.W.Frag} {mg : Str → Option Value} {base : Heap} {k : Nat} {qual p f q g : Str} {params : Arguments} {st1 st2 st3 : Stmt} {scope : Scope} {fI Hc C : Addr} {fd : FuncData} {nm : Str}
theorem ini1_ok (D : FunD K nm qual params [st1, st2] scope [] [] fI fd) (S : FnScope ["self", p] ["self", p] scope) (k1 : kIni0 scope st1 = true) (k2 : kFld p f st2 = true) (hl : scope.names.lookup ("self" : Str) = some .local) (hl2 : scope.names.lookup p = some .local) (hp : plainN p = true)
    (hm : mg "HandError" = some (.ref Hc)) (T : HeC K Hc) (O : OexC K C) (hno : PySem.W.findIn K (.ref C) f = some none) : FnOk P w K mg base (L2.CX P w) (k + 1) fI fd ["self", p] (spI1 K C f) := by
  obtain ⟨ph, p2, ps, t, jt, pt, pos, pe, rfl, line, gh⟩ := kIni0_ok k1
  obtain ⟨ps2, pa, pq, pz, rfl⟩ := kFld_ok k2
  refine FunD.ok D S (fun vs H Q E q => ?_) fun cdv A outer s H vs Q E room want => ?_
  · obtain ⟨a, v, rfl, _⟩ := q
    rfl
  · obtain ⟨a, v, rfl, ea, want⟩ := want
    have gh : Gl (cxOf (L2.CX P w) P w K mg base ["self", p] qual scope fI cdv A outer s H E) "HandError" := gh
    have v0 : PE (cxOf (L2.CX P w) P w K mg base ["self", p] qual scope fI cdv A outer s H E) (.Name "self" ps) (tVar 0) := pe_var rfl (.inl hl)
    have v0' : PE (cxOf (L2.CX P w) P w K mg base ["self", p] qual scope fI cdv A outer s H E) (.Name "self" ps2) (tVar 0) := pe_var rfl (.inl hl)
    have v1 : PE (cxOf (L2.CX P w) P w K mg base ["self", p] qual scope fI cdv A outer s H E) (.Name p pq) (tVar 1) := pe_var rfl (.inl hl2) (plainN_ok hp).1 (plainN_ok hp).2.1
    refine ⟨_, pss_cons (ps_expr (pe_heinit (x := "HandError") gh hm T (pa_cons v0 (pa_cons pe_str pa_nil)) (by decide) line (by rfl) (by rfl) (by rfl))) (pss_cons (ps_ost (f := f) v0' v1 (by rfl)) pss_nil), ?_⟩
    refine ⟨.ref a, rfl, a, C, [.str t], rfl, by simp, O, ea, ?_⟩
    refine ⟨v, rfl, .ref a, rfl, a, C, rfl, O, hno, .inl ⟨ea, fun d hd hne => want d hd hne⟩⟩
theorem ini2_ok (D : FunD K nm qual params [st1, st2, st3] scope [] [] fI fd) (S : FnScope ["self", p, q] ["self", p, q] scope) (k1 : kIni0 scope st1 = true) (k2 : kFld p f st2 = true) (k3 : kFld q g st3 = true) (hl : scope.names.lookup ("self" : Str) = some .local) (hl2 : scope.names.lookup p = some .local) (hl3 : scope.names.lookup q = some .local) (hp : plainN p = true) (hq : plainN q = true)
    (hm : mg "HandError" = some (.ref Hc)) (T : HeC K Hc) (O : OexC K C) (hno : PySem.W.findIn K (.ref C) f = some none) (hno2 : PySem.W.findIn K (.ref C) g = some none) : FnOk P w K mg base (L2.CX P w) (k + 1) fI fd ["self", p, q] (spI2 K C f g) := by
  obtain ⟨ph, p2, ps, t, jt, pt, pos, pe, rfl, line, gh⟩ := kIni0_ok k1
  obtain ⟨ps2, pa, pq, pz, rfl⟩ := kFld_ok k2
  obtain ⟨ps3, pa3, pq3, pz3, rfl⟩ := kFld_ok k3
  refine FunD.ok D S (fun vs H Q E q => ?_) fun cdv A outer s H vs Q E room want => ?_
  · obtain ⟨a, v, v2, rfl, _⟩ := q
    rfl
  · obtain ⟨a, v, v2, rfl, ea, want⟩ := want
    have gh : Gl (cxOf (L2.CX P w) P w K mg base ["self", p, q] qual scope fI cdv A outer s H E) "HandError" := gh
    have v0 : PE (cxOf (L2.CX P w) P w K mg base ["self", p, q] qual scope fI cdv A outer s H E) (.Name "self" ps) (tVar 0) := pe_var rfl (.inl hl)
    have v02 : PE (cxOf (L2.CX P w) P w K mg base ["self", p, q] qual scope fI cdv A outer s H E) (.Name "self" ps2) (tVar 0) := pe_var rfl (.inl hl)
    have v03 : PE (cxOf (L2.CX P w) P w K mg base ["self", p, q] qual scope fI cdv A outer s H E) (.Name "self" ps3) (tVar 0) := pe_var rfl (.inl hl)
    have v1 : PE (cxOf (L2.CX P w) P w K mg base ["self", p, q] qual scope fI cdv A outer s H E) (.Name p pq) (tVar 1) := pe_var rfl (.inl hl2) (plainN_ok hp).1 (plainN_ok hp).2.1
    have v2' : PE (cxOf (L2.CX P w) P w K mg base ["self", p, q] qual scope fI cdv A outer s H E) (.Name q pq3) (tVar 2) := pe_var rfl (.inl hl3) (plainN_ok hq).1 (plainN_ok hq).2.1
    refine ⟨_, pss_cons (ps_expr (pe_heinit (x := "HandError") gh hm T (pa_cons v0 (pa_cons pe_str pa_nil)) (by decide) line (by rfl) (by rfl) (by rfl))) (pss_cons (ps_ost (f := f) v02 v1 (by rfl)) (pss_cons (ps_ost (f := g) v03 v2' (by rfl)) pss_nil)), ?_⟩
    refine ⟨.ref a, rfl, a, C, [.str t], rfl, by simp, O, ea, ?_⟩
    refine ⟨v, rfl, .ref a, rfl, a, C, rfl, O, hno, .inl ⟨ea, fun d hd hne => ?_⟩⟩
    refine ⟨v2, rfl, .ref a, rfl, a, C, rfl, O, hno2, .inr ⟨d, [(f, v)], upd_same, ?_, by simp, want d hd hne⟩⟩
    rw [upd_ne hne, upd_same]
/-! ### raise -/
def allCl : List Cl := [.handError, .noStep, .noPaper, .noStand, .tooMany, .noType, .noRow]
def fldN : List Str := ["hand", "word", "at", "type_here"]
/-- is the class named in the module -/
def hasCl (K : PySem.W.Frag) (c : Cl) : Bool := decide (PySem.W.nsIn K mainGlobals c.name = some (some (.ref (c.ad K))))
def knowsCl (K : PySem.W.Frag) (c c2 : Cl) : Bool := decide (PySem.W.exmOne K (.ref (c.ad K)) (.ref (c2.ad K)) = some (c.sub c2)) && decide (PySem.W.kitOne K (.ref (c.ad K)) (.ref (c2.ad K)) = some (c.sub c2))
/-- what the written part says of a class whose refusals are caught -/
structure ClOk (K : PySem.W.Frag) (c : Cl) : Prop where
  xf : XfC K (c.ad K)
  ec : ExcC K (c.ad K)
  no : ∀ f ∈ fldN, PySem.W.findIn K (.ref (c.ad K)) f = some none
  kn : ∀ c2 ∈ allCl, hasCl K c2 = true → knowsCl K c c2 = true
  ve : PySem.W.kitOne K (.ref (c.ad K)) (.type "ValueError") = some true
def isEc (K : PySem.W.Frag) (C : Addr) : Bool := decide (PySem.W.findIn K (.ref C) "__class__" = some (some (.builtin "object.__class__"))) && (decide (PySem.W.specialIn K (.builtin "object.__class__") "__get__" = some (some (.builtin "getset_descriptor.__get__"))) && (decide (PySem.W.takesIn K (.builtin "object.__class__") = some true) && decide (PySem.W.mroIn K C (.type "object") = some true)))
def isCl (K : PySem.W.Frag) (c : Cl) : Bool := xfB K (c.ad K) && (isEc K (c.ad K) && (fldN.all (fun f => decide (PySem.W.findIn K (.ref (c.ad K)) f = some none)) && (allCl.all (fun c2 => !hasCl K c2 || knowsCl K c c2) && decide (PySem.W.kitOne K (.ref (c.ad K)) (.type "ValueError") = some true))))
theorem isCl_ok {K : PySem.W.Frag} {c : Cl} (h : isCl K c = true) : ClOk K c := by
  unfold isCl at h
  obtain ⟨h1, h⟩ := and_inv h
  obtain ⟨h2, h⟩ := and_inv h
  obtain ⟨h3, h⟩ := and_inv h
  obtain ⟨h4, h5⟩ := and_inv h
  have x := xfB_ok h1
  unfold isEc at h2
  obtain ⟨e1, h2⟩ := and_inv h2
  obtain ⟨e2, h2⟩ := and_inv h2
  obtain ⟨e3, e4⟩ := and_inv h2
  refine ⟨x, ⟨x.ga, x.gg, x.exC, x.hdC, of_decide_eq_true e1, of_decide_eq_true e2, of_decide_eq_true e3, of_decide_eq_true e4⟩, fun f hf => of_decide_eq_true (List.all_eq_true.mp h3 f hf), fun c2 h2 hh => ?_, of_decide_eq_true h5⟩
  have q := List.all_eq_true.mp h4 c2 h2
  rw [hh] at q
  exact q
/-- how a refusal stands: its class, its fields -/
def XR0 (K : PySem.W.Frag) : XRel := fun c fs cls d F _ => cls = .ref (c.ad K) ∧ ClOk K c ∧ ∃ dd xfs, d = some dd ∧ F dd = some (.xd xfs) ∧ ∀ f x, fs.lookup f = some x → ∃ v, xfs.lookup f = some v ∧ RD K F v x
theorem XR0.step {K : PySem.W.Frag} {c : Cl} {fs : List (Str × D)} {cls : Value} {d : Option Addr} {F H F' H' : Hp} (h : XR0 K c fs cls d F H) (s : Sub F F') : XR0 K c fs cls d F' H' := by
  obtain ⟨h1, h2, dd, xfs, h3, h4, h5⟩ := h
  refine ⟨h1, h2, dd, xfs, h3, s _ _ h4, fun f x hx => ?_⟩
  obtain ⟨v, e, rd⟩ := h5 f x hx
  exact ⟨v, e, rd.mono s⟩
/-- making the refusal leaves its fields' dict alone -/
theorem made_heap {H : Hp} {a d : Addr} {u e : HO} {f : HO} {z : HO} (ha : H a = none) (hd : d ≠ a) : upd (del (upd (upd (upd H a u) d e) a f) a) d z = upd H d z := by
  funext b
  by_cases hb : b = d
  · subst hb
    rw [upd_same, upd_same]
  · rw [upd_ne hb, upd_ne hb]
    by_cases hc : b = a
    · subst hc
      rw [del_same, ha]
    · rw [del_ne hc, upd_ne hc, upd_ne hb, upd_ne hc]
theorem made_heap2 {H : Hp} {a d : Addr} {u e : HO} {f g : HO} {z : HO} (ha : H a = none) (hd : d ≠ a) : upd (del (upd (upd (upd (upd H a u) d e) a f) d g) a) d z = upd H d z := by
  funext b
  by_cases hb : b = d
  · subst hb
    rw [upd_same, upd_same]
  · rw [upd_ne hb, upd_ne hb]
    by_cases hc : b = a
    · subst hc
      rw [del_same, ha]
    · rw [del_ne hc, upd_ne hb, upd_ne hc, upd_ne hb, upd_ne hc]
end
def Cl.flds : Cl → List Str
  | .noStep => ["hand"]
  | .noPaper => ["word", "at"]
  | .noStand => ["word", "at"]
  | .tooMany => ["word"]
  | .noType => ["type_here"]
  | _ => []
/-- what its __init__ promises -/
def spI (K : PySem.W.Frag) (c : Cl) : Sp := match c.flds with
  | [f] => spI1 K (c.ad K) f
  | [f, g] => spI2 K (c.ad K) f g
  | _ => fun _ _ _ _ => False
/-- a class whose refusals may be raised -/
structure RaOk (P : Program) (w : World) (K : PySem.W.Frag) (mg : Str → Option Value) (base : Heap) (k : Nat) (c : Cl) : Prop where
  at_ : mg c.name = some (.ref (c.ad K))
  oex : OexC K (c.ad K)
  cl : ClOk K c
  ini : ∃ fI fd ps, PySem.W.findIn K (.ref (c.ad K)) "__init__" = some (some (.ref fI)) ∧ PySem.W.typeIn K (.ref fI) = some (.type "function") ∧ Binds K fd ps [] ∧ FnOk P w K mg base (L2.CX P w) k fI fd ps (spI K c)
section
variable {r : Rd} {X : Ctx} {Y : Cx} {fix : Nat → Bool} {e : Expr} {es : List Expr} {ms : Es} {p pos pos2 : Pos} {k : Nat} {c : Cl}
/-- the made refusal as it is told -/
theorem raise_step1 (cl : ClOk r.K c) {F1 H1 : Hp} {fps1 : Nat → List Addr} {σ : St} {En : Ends} {Γ1 : Env} {f : Str} {x : D} {v : V} (hX : r.X = XR0 r.K) (g1 : Good r.K F1 H1 σ Γ1 fps1) (rd : RD r.K F1 v x)
    (q : EvS r fix F1 H1 fps1 σ En (.exc c [(f, x)] Γ1)) {a : Addr} (ha : H1 a = none) : spI1 r.K (c.ad r.K) f (.ref a :: [v]) (upd H1 a (exo a (c.ad r.K) none))
      (fun v H2 => v = .non ∧ ∃ (d : Addr) (fs : List (Str × V)), H2 a = some (exo a (c.ad r.K) (some d)) ∧ H2 d = some (exd d fs) ∧ H1 d = none ∧ r.W (.ref (c.ad r.K)) (some d) σ (upd (del H2 a) d (.xd fs))) (fun _ _ _ => False) := by
  refine ⟨a, v, rfl, upd_same, fun d hd hne => ⟨rfl, d, [(f, v)], upd_same, by rw [upd_ne hne, upd_same], by rwa [upd_ne hne] at hd, ?_⟩⟩
  rw [made_heap ha hne]
  rw [upd_ne hne] at hd
  refine q _ _ _ σ _ _ (Step.newF hd g1.sub) (g1.newF hd) Kp.refl ?_
  rw [hX]
  refine ⟨rfl, cl, d, _, rfl, upd_same, fun f' x' hx => ?_⟩
  rw [List.lookup_cons] at hx
  rw [List.lookup_cons]
  split at hx
  · rename_i e1
    cases hx
    exact ⟨v, rfl, rd.mono (Step.newF (fps := fps1) hd g1.sub).sub⟩
  · cases hx
theorem raise_step2 (cl : ClOk r.K c) {F1 H1 : Hp} {fps1 : Nat → List Addr} {σ : St} {En : Ends} {Γ1 : Env} {f g : Str} {x y : D} {v v2 : V} (hX : r.X = XR0 r.K) (g1 : Good r.K F1 H1 σ Γ1 fps1) (rd : RD r.K F1 v x) (rd2 : RD r.K F1 v2 y)
    (q : EvS r fix F1 H1 fps1 σ En (.exc c [(g, y), (f, x)] Γ1)) {a : Addr} (ha : H1 a = none) : spI2 r.K (c.ad r.K) f g (.ref a :: [v, v2]) (upd H1 a (exo a (c.ad r.K) none))
      (fun v H2 => v = .non ∧ ∃ (d : Addr) (fs : List (Str × V)), H2 a = some (exo a (c.ad r.K) (some d)) ∧ H2 d = some (exd d fs) ∧ H1 d = none ∧ r.W (.ref (c.ad r.K)) (some d) σ (upd (del H2 a) d (.xd fs))) (fun _ _ _ => False) := by
  refine ⟨a, v, v2, rfl, upd_same, fun d hd hne => ⟨rfl, d, [(g, v2), (f, v)], by rw [upd_ne (Ne.symm hne), upd_same], upd_same, by rwa [upd_ne hne] at hd, ?_⟩⟩
  rw [made_heap2 ha hne]
  rw [upd_ne hne] at hd
  refine q _ _ _ σ _ _ (Step.newF hd g1.sub) (g1.newF hd) Kp.refl ?_
  rw [hX]
  refine ⟨rfl, cl, d, _, rfl, upd_same, fun f' x' hx => ?_⟩
  rw [List.lookup_cons] at hx
  rw [List.lookup_cons]
  split at hx
  · cases hx
    exact ⟨v2, rfl, rd2.mono (Step.newF (fps := fps1) hd g1.sub).sub⟩
  · rw [List.lookup_cons] at hx
    rw [List.lookup_cons]
    split at hx
    · cases hx
      exact ⟨v, rfl, rd.mono (Step.newF (fps := fps1) hd g1.sub).sub⟩
    · cases hx
theorem ps_raiseE (hc : Y.calm = true) (tk : Takes Y r.W) (hX : r.X = XR0 r.K) (hK : r.K = Y.K) (R : RaOk Y.prog Y.w Y.K Y.mg Y.base k c) (room : Room (k + 1) Y.A) (hg : Gl Y c.name) (ha : PA Y (e :: es) (tDs r X ms)) (hdb : (c.name == ("__debug__" : Str)) = false)
    (he : starEach (e :: es) Y.env = (false, eval e Y.env) :: starEach es Y.env) (hpl : (backTo pos (starEach es Y.env)).any (·.1) = false) : PS Y (.Raise (some (.Call (.Name c.name p) (e :: es) [] pos)) none pos2) (tS r X fix (.raise c ms)) := by
  obtain ⟨fI, fd, ps, i1, i2, hb, F1⟩ := R.ini
  have no : L2.Passes (L2.CX Y.prog Y.w) Y (fun _ _ _ => False) := fun _ _ _ _ _ _ _ z => by
    obtain ⟨_, _, _, _, _, _, _, _, _, _, _, _, no⟩ := z
    exact no.elim
  refine (ps_raise hc tk (pmk_oex R.oex i1 i2 F1 room hb .nil no hg R.at_ ha hdb he hpl)).imp fun En σ H q => ?_
  obtain ⟨F, Γ, fps, g, q⟩ := q
  refine ⟨F, Γ, fps, g, ?_⟩
  have q : EvS r fix F H fps σ En ((evDs X ms Γ).st (raiseC c)) := q
  refine q.st.imp fun xs Γ1 F1 H1 fps1 s1 g1 k vs rds => ?_
  rw [← hK]
  have one : ∀ {x : D}, xs = [x] → ∃ v, vs = [v] ∧ RD r.K F1 v x := fun e => by
    subst e
    cases rds with
    | cons h t => cases t; exact ⟨_, rfl, h⟩
  have two : ∀ {x y : D}, xs = [x, y] → ∃ v w, vs = [v, w] ∧ RD r.K F1 v x ∧ RD r.K F1 w y := fun e => by
    subst e
    cases rds with
    | cons h t =>
      cases t with
      | cons h2 t => cases t; exact ⟨_, _, rfl, h, h2⟩
  unfold raiseC at k
  split at k
  · obtain ⟨v, rfl, rd⟩ := one rfl
    exact ⟨by simp, fun a ha => raise_step1 (hK ▸ R.cl) hX g1 rd k ha⟩
  · obtain ⟨v, w, rfl, rd, rd2⟩ := two rfl
    exact ⟨by simp, fun a ha => raise_step2 (hK ▸ R.cl) hX g1 rd rd2 k ha⟩
  · obtain ⟨v, w, rfl, rd, rd2⟩ := two rfl
    exact ⟨by simp, fun a ha => raise_step2 (hK ▸ R.cl) hX g1 rd rd2 k ha⟩
  · obtain ⟨v, rfl, rd⟩ := one rfl
    exact ⟨by simp, fun a ha => raise_step1 (hK ▸ R.cl) hX g1 rd k ha⟩
  · obtain ⟨v, rfl, rd⟩ := one rfl
    exact ⟨by simp, fun a ha => raise_step1 (hK ▸ R.cl) hX g1 rd k ha⟩
  · exact k.elim
end
end MI

set_option maxRecDepth 100000
set_option maxHeartbeats 1900000
/-! MIw: what an except clause asks of the refusal that it holds. -/
namespace MI
open L2 PySem PyProof.Rows PySem.Spec
section
variable {P : Program} {w : World} {A : Around} {E : Value → Shared → Prop} {s : Shared} {K : PySem.W.Frag} {e C : Addr} {oe : Obj} {od : Option Obj}
/-- e.__class__, e an own refusal -/
theorem refusal_class (T : ExcC K C) (hf : PySem.W.findObj K C od "__class__" = some (.bind (.builtin "getset_descriptor.__get__") (.builtin "object.__class__"))) {Q : Option Value → Shared → Prop}
    (X : K.In s.heap) (I : PySem.W.InstAt s.heap e oe C od) (h : Q (some (.ref C)) { s with toks := s.toks + 1 }) : wpAny (model P w) A (getAttr? (.ref e) "__class__") Q E s := by
  obtain ⟨hp, gg, dd, tt, oo⟩ := s
  have lt := I.type (M := model P w)
  have lg := PySem.W.looks_findIn (M := model P w) X T.hg
  have lk := PySem.W.looks_findIn (M := model P w) X T.hk
  have lf := PySem.W.looks_find (M := model P w) X I hf
  have isB : PySem.W.Looks (model P w) hp (isInstance (.ref e) (.type "BaseException")) true := lt.andThen (PySem.W.looks_subIn X T.hs)
  have n1 : (Value.builtin "BaseException.__getattribute__" == Value.builtin "object.__getattribute__") = false := by decide +kernel
  have n2 : (onTheHeap (Value.ref C) && Value.builtin "BaseException.__getattribute__" == Value.builtin "object.__getattribute__") = false := by
    rw [n1]
    rfl
  unfold getAttr? getAttrBy?
  unfold getAttrBy
  refine wpAny_bind (wpAny_mkText (wpAny_bind (wpAny_attempt (wpAny_holding (wpAny_bind (lt.at (wpAny_bind (lg.at ?_))))))))
  show wpAny _ _ (if (onTheHeap (.ref C) && Value.builtin "BaseException.__getattribute__" == Value.builtin "object.__getattribute__") = true then _ else _) _ _ _; rw [n2, if_neg (by decide)]
  unfold getAttrByItsOwn; unfold hookBefore
  refine wpAny_bind ?_
  rw [if_pos (show onTheHeap (.ref C) = true by rfl)]
  refine lk.at (wpAny_bind (wpAny_attempt (wpAny_holding ?_)))
  unfold callGetattribute
  rw [show (false && onTheHeap (Value.builtin "BaseException.__getattribute__")) = false from rfl]
  rw [if_neg (by decide)]
  unfold boundAndCalled
  rw [PySem.F.excAttr_ValueError.ga.bind (.ref e)]
  apply wpAny_bind; refine wpAny_pure ?_
  show wpAny _ _ (call (.builtin "BaseException.__getattribute__") [.ref e, .str "__class__" tt]) _ _ _
  apply wpAny_call; refine codeAny_call_builtin PySem.F.excAttr_ValueError.ga.plain PySem.F.entry_bexc_ga ?_
  refine @PySem.W.check_slot (model P w) _ _ ⟨hp, gg, dd, tt + 1, oo⟩ "BaseException.__getattribute__" "BaseException" "__getattribute__" (.ref e) [.str "__class__" tt] [] _ (by decide +kernel) (by decide +kernel) isB (PySem.F.args_bexc_ga (.ref e) (.str "__class__" tt)) ?_
  unfold Builtin.«object.__getattribute__»; refine wpAny_bind (wpAny_of_eq (a := ((Value.ref e : Value), [Value.str "__class__" tt])) (by first | rfl | (simp only [slotArgs]; rfl)) ?_)
  refine wpAny_bind (wpAny_pure (wpAny_bind (lt.at (wpAny_bind (lf.at ?_)))))
  show wpAny _ _ (holding [Value.builtin "object.__class__"] (call (.builtin "getset_descriptor.__get__") [.builtin "object.__class__", .ref e, .ref C]) >>= ret) _ _ _
  refine wpAny_bind (wpAny_holding (wpAny_call (PySem.W.class_get (s := ⟨hp, gg, dd, tt + 1, oo⟩) (ox := oe) (od := od) X I T.hm (wpAny_pure ?_))))
  show wpAny _ _ (handedOut (.ref C)) _ _ _; rw [PySem.W.handedOut_of (v := .ref C) rfl]
  first | exact wpAny_pure (wpAny_pure h) | exact wpAny_pure h | exact wpAny_pure (wpAny_bind (wpAny_pure (wpAny_pure h)))
end
section
variable {Y : Cx} {a : Addr} {oe : Obj} {pn : List (Addr × Obj)} {cls : Value} {d : Option Addr}
/-- what is known of the held refusal's class -/
theorem refusal_kit {K : PySem.W.Frag} {e C : Addr} {oe : Obj} (T : ExcC K C) : PySem.W.KitX K (.ref e) (.ref C) (fun h => ∃ o, PySem.W.InstAt h e oe C (some o)) where
  ty := fun M h X ⟨o, I⟩ => I.type
  it := fun M h X _ => by
    obtain ⟨cd, hc, _⟩ := PySem.W.any_some T.hd
    unfold PySem.W.clsIn at hc
    split at hc
    · rename_i k1 k2 k3 k4 ho
      intro A' Q' E' s' k q
      unfold isType loadHead
      exact wpAny_bind (wpAny_loadPart (k _ _ (X _ _ ho)) (by exact wpAny_pure q))
    · cases hc
  ne := fun h tp dd its m sl X there => by
    obtain ⟨cd, hc, _⟩ := PySem.W.any_some T.hd
    refine Bool.eq_false_iff.mpr fun q => ?_; have same : C = tp := Value.ref.inj (beq_iff_eq.mp q)
    subst same
    unfold PySem.W.clsIn at hc
    split at hc
    · rename_i k1 k2 k3 k4 ho
      have z := X _ _ ho
      rw [there] at z
      cases z
    · cases hc
  ca := fun X ⟨o, I⟩ h => by
    have hf : PySem.W.findObj K C (some o) "__class__" = some (.bind (.builtin "getset_descriptor.__get__") (.builtin "object.__class__")) := PySem.W.findObj_data (by
      obtain ⟨cd, hc, _⟩ := PySem.W.any_some T.hd
      rw [hc]
      rfl) T.ha T.hn T.ht
    exact refusal_class T hf X I h
/-- the held refusal, in the heap -/
theorem held_at {K : PySem.W.Frag} {pins : List (Addr × Obj)} {σ : St} {F H : Hp} {s : Shared} {c : Cl} {fs : List (Str × D)} (I : Inv (Y.suite a ((a, oe) :: pn)) pins σ H s) (hz : Zc cls d oe) (hf : ∃ vs, oe.data = .fields vs) (xr : XR0 K c fs cls d F H) (sub : Sub F H) : ∃ o, PySem.W.InstAt s.heap a oe (c.ad K) (some o) := by
  obtain ⟨h1, cl, dd, xfs, h3, h4, h5⟩ := xr
  obtain ⟨ha, _⟩ := I.pin (a, oe) (List.mem_append_left _ List.mem_cons_self)
  obtain ⟨vs, hd⟩ := hf
  have hx : ObjOk Y.prog Y.w H s.heap dd (.xd xfs) := I.hok dd _ (sub _ _ h4)
  obtain ⟨mA, hns, hr⟩ := hx
  obtain ⟨od, ho, hlk⟩ := lookIn_ns hns
  exact ⟨od, ha, by rw [hz.1, h1], by unfold PySem.W.notCls; rw [hd] <;> rfl, by rw [hz.2, h3]; exact ho⟩
def rX1 (K : PySem.W.Frag) (a : Addr) (cls : Value) (d : Option Addr) : List V → Hp → VK → Prop := fun xs H Q => ∃ c fs F cc cv b, XR0 K c fs cls d F H ∧ Sub F H ∧ xs = [.ref a, cc] ∧ (∀ u, RelV cc u → u = cv) ∧ PySem.W.kitOne K (.ref (c.ad K)) cv = some b ∧ Q (.bl b) H
theorem call_refusal (hz : Zc cls d oe) (hf : ∃ vs, oe.data = .fields vs) : CallR (Y.suite a ((a, oe) :: pn)) (.builtin "isinstance") (rX1 Y.K a cls d) := by
  intro pins s σ H xs us Q I rr h
  obtain ⟨c, fs, F, cc, cv, b, xr, sub, rfl, hcv, e, q⟩ := h
  have J := held_at I hz hf xr sub
  cases rr with
  | cons rx rr =>
    cases rr with
    | cons rt rr =>
      cases rr
      cases rx
      have ec := hcv _ rt
      subst ec
      exact PySem.W.kia_one (refusal_kit xr.2.1.ec) I.kIn J e (fun z => nomatch z) fun tk => ⟨.bl b, H, I.tok tk, rfl, q⟩
def rXs (K : PySem.W.Frag) (a : Addr) (cls : Value) (d : Option Addr) : List V → Hp → VK → Prop := fun xs H Q => ∃ (c : Cl) (fs : List (Str × D)) (F : Hp) (tp : Addr) (u : HO) (cs : List Cl) (b : Bool), XR0 K c fs cls d F H ∧ Sub F H ∧ xs = [.ref a, .ref tp] ∧ H tp = some u ∧ NT u (cs.map fun (z : Cl) => V.ref (z.ad K)) ∧ PySem.W.kitAny K (.ref (c.ad K)) (cs.map fun (z : Cl) => Value.ref (z.ad K)) = some b ∧ Q (.bl b) H
theorem refs_vals {K : PySem.W.Frag} : ∀ {cs : List Cl} {us : List Value}, Vals (cs.map fun (z : Cl) => V.ref (z.ad K)) us → us = cs.map fun (z : Cl) => Value.ref (z.ad K)
  | [], us, h => by cases h; rfl
  | z :: cs, us, h => by
    cases h with
    | cons h1 h2 =>
      cases h1
      rw [refs_vals h2]
      rfl
theorem call_refusals (hz : Zc cls d oe) (hf : ∃ vs, oe.data = .fields vs) : CallR (Y.suite a ((a, oe) :: pn)) (.builtin "isinstance") (rXs Y.K a cls d) := by
  intro pins s σ H xs us Q I rr h
  obtain ⟨c, fs, F, tp, u, cs, b, xr, sub, rfl, ht, nt, e, q⟩ := h
  have J := held_at I hz hf xr sub
  obtain ⟨o, eu, t1, t2⟩ := nt
  subst eu
  obtain ⟨g1, hl, its, rv, o2, h1, h2, m, h3⟩ := (show ObjOk Y.prog Y.w H s.heap tp (.frz o (.tup (cs.map fun (z : Cl) => V.ref (z.ad Y.K)))) from I.hok tp _ ht)
  have e3 := refs_vals rv
  subst e3
  obtain ⟨oc, od, dt, sl⟩ := o2
  simp only at h2 h3
  subst h2 h3
  cases rr with
  | cons rx rr =>
    cases rr with
    | cons rt rr =>
      cases rr
      cases rx
      cases rt
      exact PySem.W.kia_tup (refusal_kit xr.2.1.ec) I.kIn J h1 e (fun z => nomatch z) fun tk => ⟨.bl b, H, I.tok tk, rfl, q⟩
end
end MI

set_option maxRecDepth 100000
/-! MI15: a text that is checked does what the mini program does: expressions. -/
namespace MI
open L2 PySem PyProof.Rows PySem.Spec
section
variable {r : Rd} {X : Ctx} {Y : Cx} {e : Expr} {es : List Expr} {ms : Es} {x : Str} {p pos : Pos} {n f np : Nat} {fa : Addr} {fd : FuncData} {ps : List Str}
theorem pe_bltsE {b : Blt} {id : String} (hc : CallR Y (.builtin id) (rs r.K (blt b))) (hg : Gl Y x) (hm : Y.mg x = none) (hv : bootBuiltins x = some (.builtin id)) (ha : PA Y (e :: es) (tDs r X ms))
    (hn : x ≠ "__name__") (hdb : (x == ("__debug__" : Str)) = false) (hs : starEach (e :: es) Y.env = (false, eval e Y.env) :: starEach es Y.env) (hpl : (backTo pos (starEach es Y.env)).any (·.1) = false) : PE Y (.Call (.Name x p) (e :: es) [] pos) (tE r X (.blts b ms)) :=
  (pe_callB hc hg hm hv ha hn hdb hs hpl).imp fun σ H Q ⟨F, Γ, fps, g, q⟩ => ⟨F, Γ, fps, g, by
    have q : Ev r F H fps σ ((evDs X ms Γ).bind fun xs Γ => optR (blt b xs) Γ) _ := q
    refine q.bind.imp fun xs Γ1 F1 H1 fps1 s1 g1 k vs rds => ?_
    cases eb : blt b xs with
    | none => rw [eb] at k; exact k.elim
    | some o =>
      rw [eb] at k
      exact ⟨F1, xs, o, g1.sub, rds, eb, newV_of s1 g1 (blt_new eb) k⟩⟩
theorem pe_call0G {k : Nat} {f : Addr} {fd : FuncData} {sp : Sp} {E : St → XK} (D : FnG Y.prog Y.w Y.K Y.mg Y.base k f fd ps sp) (room : Room k Y.A) (guard : Y.A.guards = some [])
    (hg : Gl Y x) (hm : Y.mg x = some (.ref f)) (hk : PySem.W.keepIn Y.K (.ref f) = true) (hb : Binds Y.K fd ps []) (hx : ∀ σ, PassesAt (L2.CX Y.prog Y.w) Y σ (E σ)) (hdb : (x == ("__debug__" : Str)) = false) :
    PE Y (.Call (.Name x p) [] [] pos) (fun σ H Q => sp [] H Q (E σ)) := by
  refine ⟨fun pn s σ H Q I q => wpAny_Call_Name_kw (ld_glob I hg hm ?_ hdb)⟩
  have hl : (([] : List Value) ++ []).length = ps.length := D.len _ _ _ _ q
  have hb' := hb s [] I.kIn hl
  refine PySem.W.callWith_K0 I.kIn hk (wpAny_call (codeAny_mono (D.run Y.A Y.stack s H ⟨[], []⟩ [] [] Q (E σ) room guard I.env0 hb' .nil q) fun res s' end_ => ?_))
  match res, end_ with
  | .error _, z => exact hx σ pn H s _ s' I z
  | .ok (.ret _), z => exact I.after z
  | .ok .next, z => exact z.elim
  | .ok .brk, z => exact z.elim
  | .ok .cont, z => exact z.elim
theorem pe_call0E (D : FnG Y.prog Y.w Y.K Y.mg Y.base n fa fd ps (spG Y.K r.X X.cf f 0 (X.io f))) (room : Room n Y.A) (guard : Y.A.guards = some []) (hg : Gl Y x) (hm : Y.mg x = some (.ref fa)) (hk : PySem.W.keepIn Y.K (.ref fa) = true) (hb : Binds Y.K fd ps [])
    (tk : Takes Y r.W) (hK : r.K = Y.K) (hdb : (x == ("__debug__" : Str)) = false) : PE Y (.Call (.Name x p) [] [] pos) (tE r X (.call f .nil)) :=
  (pe_call0G (E := fun σ cls d H => r.W cls d σ H) D room guard hg hm hk hb (fun σ => passAt tk σ) hdb).imp fun σ H Q q => by
    obtain ⟨F, Γ, fps, g, q⟩ := call_read (ms := .nil) (np := 0) hK rfl q
    have q : Ev r F H fps σ (.ok [] Γ) _ := q
    refine q.ok g [] _ Given.none ?_
    cases X.io f with
    | nil => trivial
    | cons b _ => cases b <;> trivial
end
/-! ### what a place in the program is known by -/
structure CxOk (r : Rd) (X : Ctx) (c : Ck) (Y : Cx) : Prop where
  N : Y.N = c.N
  nd : Y.N.Nodup
  sc : Y.env.scope = c.sc
  kind : c.sc.kind = .function
  calm : Y.calm = true
  units : Y.A.units + 100 < cLine
  guard : Y.A.guards = some []
  K : r.K = Y.K
  tk : Takes Y r.W
  fn : ∀ x, c.fnOk x = true → Y.fn x = true ∨ Y.env.scope.names.lookup x = some .local
  blt : ∀ s ∈ bltNames, Y.mg (Str.ofString s) = none
  gl : ∀ g x, c.tb.gs[g]? = some x → ∃ u v d, Y.mg x = some u ∧ RelV v u ∧ X.gl g = some d ∧ ∀ F, RD r.K F v d
  rx : r.X = XR0 r.K
  xs : ∀ cl ∈ allCl, c.tb.xs.any (sEq cl.name) = true → Y.mg cl.name = some (.ref (cl.ad Y.K)) ∧ hasCl Y.K cl = true
  ra : ∀ cl, c.tb.xs.any (sEq cl.name) = true → cl.flds ≠ [] → ∃ k, RaOk Y.prog Y.w Y.K Y.mg Y.base k cl ∧ Room (k + 1) Y.A
  fns : ∃ n, Room n Y.A ∧ ∀ f p, c.tb.fs[f]? = some p → ∃ fa fd ps, Y.mg p.1 = some (.ref fa) ∧ PySem.W.keepIn Y.K (.ref fa) = true ∧ Binds Y.K fd ps [] ∧ FnG Y.prog Y.w Y.K Y.mg Y.base n fa fd ps (spG Y.K r.X X.cf f p.2 (X.io f))
section
variable {r : Rd} {X : Ctx} {c : Ck} {Y : Cx} {x : Str} {i : Nat}
theorem CxOk.blk (o : CxOk r X c Y) {scope : Scope} (hk : scope.kind = .function) (s : Shared) (H : Hp) (C : Addr) (cl : List (Str × Addr)) (fp : List Addr) : CxOk r.quiet X (c.blk scope) (Y.blk s H scope (compEnvC scope cl C Y.env) fp) := by
  have e1 : (compEnvC scope cl C Y.env).scope = relS scope c.sc := by
    rw [← o.sc]
    rfl
  refine ⟨o.N, o.nd, e1, hk, o.calm, o.units, o.guard, o.K, takes0, fun y hy => ?_, o.blt, o.gl, o.rx, o.xs, o.ra, o.fns⟩
  unfold Ck.fnOk at hy
  simp only [Ck.blk, Bool.or_eq_true] at hy
  rcases hy with hy | hy
  · left
    split at hy
    · rename_i e
      show (scope.names.lookup y == some .cell) = true
      rw [lkS_eq e]
      rfl
    · cases hy
  · right
    show (compEnvC scope cl C Y.env).scope.names.lookup y = some .local
    rw [e1]
    exact Ck.isLocal_ok (c := c.blk scope) hy
theorem CxOk.gl' (o : CxOk r X c Y) (h : c.gl x = true) : Gl Y x := by
  show Y.env.scope.names.lookup x = some .globalImplicit
  rw [o.sc]
  exact Ck.gl_ok h
theorem CxOk.var (o : CxOk r X c Y) {p : Pos} (h : c.var i x = true) : PE Y (.Name x p) (tVar i) := by
  simp only [Ck.var, Bool.and_eq_true] at h
  refine pe_var (by rw [o.N]; exact atS_eq h.1.1) ?_ (plainN_ok h.2).1 (plainN_ok h.2).2.1
  rw [o.sc]
  exact Ck.vis_ok h.1.2
end
/-! ### rows of expressions -/
section
variable {env : PySem.Env} {e : Expr} {es : List Expr} {pos : Pos}
theorem star_ok (h : noStar e = true) : starEach (e :: es) env = (false, eval e env) :: starEach es env := by
  cases e <;> first | rfl | cases h
def noStars (es : List Expr) : Bool := es.all noStar
theorem stars_ok : ∀ {es : List Expr}, noStars es = true → (backTo pos (starEach es env)).any (·.1) = false ∧ (backTo pos (starEach es env)).all (fun x => !x.1) = true
  | [], _ => ⟨rfl, rfl⟩
  | e :: es, h => by
    simp only [noStars, List.all_cons, Bool.and_eq_true] at h
    obtain ⟨h1, h2⟩ := stars_ok (es := es) h.2
    rw [star_ok h.1]
    simp only [backTo, List.map_cons, List.any_cons, List.all_cons] at h1 h2 ⊢
    exact ⟨by rw [Bool.false_or]; exact h1, by rw [h2]; rfl⟩
theorem few_ok (h : noStars es = true) (hl : es.length < 30) : ((backTo pos (starEach es env)).all (fun x => !x.1) && (backToKw pos (keywordEach [] env)).all (fun x => x.1.isSome) && decide (es.length + ([] : List Keyword).length + (if ([] : List Keyword).isEmpty then 0 else 1) < 30)) = true := by
  rw [(stars_ok h).2]
  simp only [keywordEach, backToKw, List.map_nil, List.all_nil, Bool.true_and, List.isEmpty_nil, List.length_nil]
  simpa using hl
theorem base_ok {name : Str} {o : Expr} (h : noCall o = true) : attributeBase o name env (eval o env) = eval o env := by
  cases o <;> first | rfl | cases h
theorem plainIx_ok (h : noSlice e = true) : PlainIx e := by
  intro o i
  cases e <;> first | rfl | cases h
theorem set_ok (h : noSet e = true) (x : Value) : foldedSetIterable e env x = pure x := by
  cases e <;> first | rfl | cases h
end
theorem kEs_star {c : Ck} : ∀ {ms : Es} {es : List Expr}, kEs c ms es = true → noStars es = true ∧ ms.len = es.length
  | .nil, [], _ => ⟨rfl, rfl⟩
  | .nil, _ :: _, h => by simp [kEs] at h
  | .cons m ms, [], h => by simp [kEs] at h
  | .cons m ms, e :: es, h => by
    simp only [kEs, Bool.and_eq_true] at h
    obtain ⟨h1, h2⟩ := kEs_star h.2
    exact ⟨by simp only [noStars, List.all_cons, Bool.and_eq_true]; exact ⟨h.1.2, h1⟩, congrArg (· + 1) h2⟩
end MI

set_option maxRecDepth 100000
set_option maxHeartbeats 1900000
/-! MIe: enumerate of lists and tuples. -/
namespace MI
open L2 PySem PyProof.Rows PySem.Spec
open Sem (wp)
open RZ
/-- a list or a tuple stands at a with these things -/
def Src (K : PySem.W.Frag) (tup : Bool) (H : Hp) (a : Addr) (xs : List V) : Prop := match tup with
  | true => SqT K H a xs
  | false => SqL K H a xs
def atSrc (tup : Bool) (h : Heap) (a : Addr) (its : Array Value) : Prop := match tup with
  | true => h.IsTuple a its
  | false => h.IsList a its
def atIt (tup : Bool) (h : Heap) (it a : Addr) (i : Nat) : Prop := match tup with
  | true => h.IsTupleIter it a i
  | false => h.IsListIter it a i
theorem atIt.there {tup : Bool} {h : Heap} {it a : Addr} {i : Nat} (q : atIt tup h it a i) : ∃ o, h.get? it = some o ∧ ∀ v, o.data ≠ .cell v := by
  cases tup with
  | true =>
    obtain ⟨o, ho, _, hd⟩ := q
    exact ⟨o, ho, fun v z => by rw [hd] at z; cases z⟩
  | false =>
    obtain ⟨o, ho, _, hd⟩ := q
    exact ⟨o, ho, fun v z => by rw [hd] at z; cases z⟩
theorem atIt.stay {tup : Bool} {h h' : Heap} {it a : Addr} {i : Nat} (q : atIt tup h it a i) (k : ∀ o, h.get? it = some o → h'.get? it = some o) : atIt tup h' it a i := by
  cases tup with
  | true => obtain ⟨o, ho, r⟩ := q; exact ⟨o, k o ho, r⟩
  | false => obtain ⟨o, ho, r⟩ := q; exact ⟨o, k o ho, r⟩
theorem Src.obj {X : Cx} {pins : List (Addr × Obj)} {σ : St} {H : Hp} {s : Shared} {tup : Bool} {a : Addr} {xs : List V} (I : Inv X pins σ H s) (q : Src X.K tup H a xs) : ∃ its, Vals xs its ∧ atSrc tup s.heap a its.toArray := by
  cases tup with
  | true =>
    obtain ⟨its, rv, pl, _⟩ := I.tuple q
    exact ⟨its, rv, pl⟩
  | false =>
    obtain ⟨its, rv, pl, _⟩ := I.list q
    exact ⟨its, rv, pl.isList⟩
theorem atSrc.lt {tup : Bool} {h : Heap} {a : Addr} {its : Array Value} (q : atSrc tup h a its) : a < h.objs.size := by
  cases tup with
  | true => obtain ⟨o, ho, _⟩ := q; exact Heap.lt_size ho
  | false => obtain ⟨o, ho, _⟩ := q; exact Heap.lt_size ho
theorem drawsOf {prog : Program} {w : World} {A : Around} (hh : A.handled = none) (tup : Bool) (it a : Addr) (hne : a ≠ it) (its : Array Value) :
    Draws prog w A it [it, a] its.size (fun i v => its[i]? = some v) (fun i h => atIt tup h it a i ∧ atSrc tup h a its) := by
  cases tup with
  | true => exact Draws.tuple hh it a hne its
  | false => exact Draws.list hh it a hne its
/-- at a tuple's end enumerate has no more -/
theorem enum_endT {prog : Program} {w : World} {A : Around} {E : Value → Shared → Prop} {s : Shared} {e it a : Addr} {i : Nat} {its : Array Value} {old : Value} {Q : Option Value → Shared → Prop} (hh : A.handled = none)
    (he : IsEnum s.heap e it i old) (hi : s.heap.IsTupleIter it a i) (ha : s.heap.IsTuple a its) (hx : its[i]? = none) (hQ : ∀ h', Heap.ExtBut it s.heap h' → Q none { s with heap := h' }) : wpAny (model prog w) A (pyNext (.ref e)) Q E s := by
  have D : Draws prog w A.in1 it [it, a] i (fun _ _ => True) (fun j h => j = i ∧ h.IsTupleIter it a i ∧ h.IsTuple a its) := {
    live := fun _ _ st => by
      obtain ⟨_, ⟨o, ho, _⟩, _⟩ := st
      exact ⟨o, ho⟩
    frame := fun _ _ _ st hk => by
      obtain ⟨h1, h2, h3⟩ := st
      exact ⟨h1, h2.at fun o z => hk it (by simp) o z, h3.at fun o z => hk a (by simp) o z⟩
    item := fun j s Q E hj st _ => absurd st.1 (Nat.ne_of_lt hj)
    done := fun s Q E st hE => wpAny_nextOf_tuple_end hh st.2.1 st.2.2 hx hE }
  exact wpAny_pyNext_enum_endD D he ⟨rfl, hi, ha⟩ hQ
/-- its things one by one, each with its number in a new pair -/
def ItE (K : PySem.W.Frag) (tup : Bool) (a : Addr) (xs : List V) : It :=
  ⟨fun i H => Src K tup H a xs ∧ i < xs.length, fun i H v H' => ∃ T x, v = .ref T ∧ H T = none ∧ H' = upd H T (.tup [.int (i : Nat), x]) ∧ xs[i]? = some x, fun i H => Src K tup H a xs ∧ xs.length ≤ i⟩
theorem turn_enumE {P : Program} {w : World} {K : PySem.W.Frag} {elts : List Expr} {kk : Nat} {tpos : Pos} (tup : Bool) (a e it : Addr) (xs : List V) :
    Turn P w K (.Tuple elts kk tpos) (ItE K tup a xs) [e, it] e (fun i h => (∃ old, IsEnum h e it ((i : Nat) : Int) old) ∧ atIt tup h it a i ∧ e ≠ it ∧ e ≠ a ∧ a ≠ it) where
  mem := List.mem_cons_self
  obj := fun i h st b hb => by
    obtain ⟨⟨old, he⟩, hi, _⟩ := st
    obtain rfl | rfl : b = e ∨ b = it := by simpa using hb
    · exact ⟨_, he, fun v z => nomatch z⟩
    · exact hi.there
  keep := fun i h h' st k => by
    obtain ⟨⟨old, he⟩, hi, ne⟩ := st
    exact ⟨⟨old, k e (by simp) _ he⟩, hi.stay fun o z => k it (by simp) o z, ne⟩
  item := by
    rintro X rfl rfl rfl hc i pins s σ H E I hf ⟨⟨old, he⟩, hi, n1, n2, n3⟩ ⟨hs, hlt⟩
    obtain ⟨its, rv, ha⟩ := hs.obj I
    have hl := rv.length
    have hh := I.ok.hd hc
    have le := Heap.lt_size he
    have li : it < s.heap.objs.size := by
      obtain ⟨o, z, _⟩ := hi.there
      exact Heap.lt_size z
    refine wpAny_pyNext_enum_itemD (drawsOf (A := X.A.in1) hh tup it a n3 its.toArray) he ⟨hi, ha⟩ (by simpa [← hl] using hlt) n1 (by simp [n1, n2]) fun u h1 tk hu ho hst hT hz hk => ?_
    obtain ⟨u', hu', ru⟩ := rv.get (List.getElem?_eq_getElem hlt)
    have eu : u' = u := by
      rw [List.getElem?_toArray] at hu
      rw [hu] at hu'
      exact (Option.some.inj hu').symm
    subst eu
    refine ⟨_, rfl, wpAny_letOwnedTupleGo_enum (s := { s with heap := h1, toks := tk + 1 }) ho fun h2 he2 sb => ?_⟩
    have hT2 : h2.get? s.heap.objs.size = some { cls := .type "tuple", data := .seq #[.int i tk, u'] } := (sb.2 _ (Nat.ne_of_gt le)).trans hT
    have new : ObjOk X.prog X.w (upd H s.heap.objs.size (.tup [.int (i : Nat), xs[i]])) h2 s.heap.objs.size (.tup [.int (i : Nat), xs[i]]) :=
      ⟨Nat.le_trans (show 2 ≤ 1000 by decide) (by rw [sizeLine_eq]; omega), [.int i tk, u'], .cons ⟨tk, rfl⟩ (.cons ru .nil), ⟨_, hT2, rfl, _, rfl⟩⟩
    refine ⟨.ref s.heap.objs.size, _, I.turnedNew (ch := [e, it]) (fun b ob hb z => (sb.2 b fun y => hb (by simp [y])).trans (hk b ob (fun y => hb (by simp [y])) (fun y => hb (by simp [y])) z)) hf (Nat.le_refl _) new, rfl,
      ⟨_, xs[i], rfl, I.hok.fresh (Nat.le_refl _), rfl, List.getElem?_eq_getElem hlt⟩, ⟨⟨u', ?_⟩, hst.1.stay fun o z => (sb.2 it (Ne.symm n1)).trans z, n1, n2, n3⟩, fun b hb => ?_⟩
    · rw [show ((i + 1 : Nat) : Int) = (i : Int) + 1 by omega]
      exact he2
    · have lb : b < s.heap.objs.size := by
        obtain rfl | rfl : b = e ∨ b = it := by simpa using hb
        · exact le
        · exact li
      rw [upd_ne (Nat.ne_of_lt lb)]
      exact (hf b hb).1
  done := by
    rintro X rfl rfl rfl hc i pins s σ H E I hf ⟨⟨old, he⟩, hi, n1, n2, n3⟩ ⟨hs, hle⟩
    obtain ⟨its, rv, ha⟩ := hs.obj I
    obtain ⟨z0, z1, z2, z3, z4, z5⟩ := hf it (by simp)
    have hl := rv.length
    have hh := I.ok.hd hc
    have stop : ∀ h', Heap.ExtBut it s.heap h' → (none : Option Value) = none ∧ Inv X pins σ H { s with heap := h' } := fun h' eb => ⟨rfl, I.turned (t' := s.toks) (fun b o hb z => eb b o hb z) z0 z1 z3 z4 z5⟩
    cases tup with
    | true => exact enum_endT (A := X.A) hh he hi ha (by simp; omega) stop
    | false => exact wpAny_pyNext_enum_end hh he hi ha (by simp; omega) stop
  self := fun _ _ _ _ _ st h => by
    obtain ⟨⟨_, he⟩, _⟩ := st
    exact wpAny_pyIter_enum he h
/-- enumerate(v): its two new objects -/
theorem meets_enum1 {v : Value} {o : Obj} {H : Heap → Prop} (B : Begins v o H) :
    Meets (Builtin.«enumerate.__new__» ⟨[.type "enumerate", v], []⟩) (fun _ R s => H s.heap ∧ R (.ok (.ret (.ref (s.heap.push o).objs.size)))
      { s with heap := (s.heap.push o).push { cls := .type "enumerate", data := .fields #[.none, .bool false, .ref s.heap.objs.size, rawInt 0, .none, .none] } }) := .of_wp fun prog w A R s ⟨h1, h⟩ => by
  obtain ⟨hp, gn, dr, tk, os⟩ := s
  have known := sub_enumerate
  have begins : ∀ {A' : Around} {E : Value → Shared → Prop} {Q : Value → Shared → Prop}, Q (.ref hp.objs.size) ⟨hp.push o, gn, dr, tk, os⟩ → wpAny (model prog w) A' (pyIter v) Q E ⟨hp, gn, dr, tk, os⟩ := fun q => B.iter prog w _ _ ⟨hp, gn, dr, tk, os⟩ _ h1 q
  wp_walk using begins
  apply wpAny_stack_any; intro st; apply wpAny_pure
  split
  · rename_i c _ _ _ _ _
    cases (c == Value.type "enumerate") <;> (wp_walk using begins; exact ⟨_, rfl, h⟩)
  · wp_walk using begins; exact ⟨_, rfl, h⟩
section
variable {s : Shared} {prog : Program} {w : World} {A : Around} {E : Value → Shared → Prop}
theorem call_enum1 {v : Value} {o : Obj} {H : Heap → Prop} {Q : Value → Shared → Prop} (B : Begins v o H) (h1 : H s.heap)
    (h : ∀ h', IsEnum h' (s.heap.objs.size + 1) s.heap.objs.size 0 .none → h'.get? s.heap.objs.size = some o → (∀ b z, s.heap.get? b = some z → h'.get? b = some z) → Q (.ref (s.heap.objs.size + 1)) { s with heap := h' }) :
    wpAny (model prog w) A (call (.type "enumerate") [v]) Q E s := by
  refine callType_new F.called_enumerate (by decide) (F.typeCall_enumerate_1 _) (F.newCall_enumerate_1 _) (fun obj => F.args_object_init_2 obj _) F.entry_enumerate_new (meets_enum1 B) ⟨h1, ?_⟩
  have hz : (s.heap.push o).objs.size = s.heap.objs.size + 1 := by rw [Heap.size_push]
  have new := Heap.get?_push_size (s.heap.push o) (o := { cls := .type "enumerate", data := .fields #[.none, .bool false, .ref s.heap.objs.size, rawInt 0, .none, .none] }) rfl
  show _ ∧ _
  rw [hz] at new ⊢
  exact ⟨⟨_, new, rfl⟩, h _ new (Heap.get?_push_of_some _ (Heap.get?_push_size _ B.free)) fun b z q => Heap.get?_push_of_some _ (Heap.get?_push_of_some _ q)⟩
end
def srcO (tup : Bool) (a : Addr) : Obj := match tup with
  | true => { cls := .type "tuple_iterator", data := .fields #[.ref a, .int 0 0] }
  | false => { cls := .type "list_iterator", data := .fields #[.ref a, .int 0 0] }
theorem src_begins (tup : Bool) (a : Addr) (its : Array Value) : Begins (.ref a) (srcO tup a) fun h => atSrc tup h a its := by
  cases tup with
  | true => exact begins_tuple a its
  | false => exact begins_list a its
theorem srcO_at {tup : Bool} {h : Heap} {it a : Addr} (q : h.get? it = some (srcO tup a)) : atIt tup h it a 0 := by
  cases tup with
  | true => exact ⟨_, q, rfl, rfl⟩
  | false => exact ⟨_, q, rfl, rfl⟩
def iEnumS (K : PySem.W.Frag) (ta : TA) : TI := fun σ H R => ta σ H fun vs H1 => ∃ tup a xs, vs = [.ref a] ∧ Src K tup H1 a xs ∧ R (ItE K tup a xs) H1
theorem pi_enumS {X : Cx} {e : Expr} {ta : TA} {p pos tpos : Pos} {elts : List Expr} {kk : Nat} (hg : Gl X "enumerate") (hm : X.mg "enumerate" = none) (ha : PA X [e] ta) (hs : starEach [e] X.env = [(false, eval e X.env)]) :
    PI X (.Tuple elts kk tpos) (.Call (.Name "enumerate" p) [e] [] pos) (iEnumS X.K ta) := by
  refine ⟨fun pins s σ H R I h => Call_ (ld_blt I hg hm boot_enumerate (PyProof.Rows.callWith_type1 (thn (ha.run pos pins s σ H _ I h) ?_) hs rfl))⟩
  rintro us s1 ⟨vs, H1, I1, r1, tup, a, xs, rfl, hq, q⟩
  cases r1 with
  | cons r rr =>
    cases rr
    cases r
    obtain ⟨its, rv, hat⟩ := hq.obj I1
    have la := hat.lt
    refine call_enum1 (src_begins tup a its.toArray) hat fun h' he hit hk => wpAny_pyIter_enum he ?_
    refine ⟨s1.heap.objs.size + 1, [s1.heap.objs.size + 1, s1.heap.objs.size], _, _, H1, rfl, I1.kept (t' := s1.toks) hk, turn_enumE tup a (s1.heap.objs.size + 1) s1.heap.objs.size xs,
      ⟨⟨.none, he⟩, srcO_at hit, Nat.succ_ne_self _, Nat.ne_of_gt (Nat.lt_succ_of_lt la), Nat.ne_of_lt la⟩, fun b hb => ?_, q⟩
    have le : s1.heap.objs.size ≤ b := by
      obtain rfl | rfl : b = s1.heap.objs.size + 1 ∨ b = s1.heap.objs.size := by simpa using hb
      · exact Nat.le_succ _
      · exact Nat.le_refl _
    exact I1.fpOk le (I1.hok.fresh le)
theorem wk_enum {K : PySem.W.Frag} {F : Hp} {tup : Bool} {a : Addr} {vs : List V} {xs : List D} (h : ∀ H, Sub F H → Src K tup H a vs) (l : vs.length ≤ sizeLine) (r : RDs K F vs xs) : Wk K true F (ItE K tup a vs) (xs.zipIdx.map fun p => .tuple [.int p.2, p.1]) := by
  have hl : (xs.zipIdx.map fun p => PyData.tuple [.int p.2, p.1]).length = vs.length := by simp [r.length]
  refine ⟨by rw [hl]; exact l, fun i G H s1 s2 hi => ⟨h _ (s1.trans s2), by omega⟩, fun i G H s1 s2 hi => ⟨h _ (s1.trans s2), by omega⟩, fun i G H H' v d s1 s2 hd hy => ?_⟩
  obtain ⟨T, x, rfl, e1, e2, hx⟩ := hy
  rw [List.getElem?_map, Option.map_eq_some_iff] at hd
  obtain ⟨p, hp, rfl⟩ := hd
  rw [List.getElem?_zipIdx, Option.map_eq_some_iff] at hp
  obtain ⟨y, hy, rfl⟩ := hp
  obtain ⟨v', hv, rv⟩ := r.get hy
  rw [hx] at hv
  cases hv
  refine .inr ⟨rfl, T, [.int (i : Nat), x], _, rfl, e1, e2, rfl, .cons ?_ (.cons (rv.mono s1) .nil)⟩
  simpa using RD.int (K := K) (F := G) ((i : Nat) : Int)
section
variable {r : Rd} {X : Ctx} {Y : Cx} {a : Expr} {ma : E} {p pos tpos : Pos} {elts : List Expr} {kk : Nat}
theorem pi_enumE (hK : r.K = Y.K) (hg : Gl Y "enumerate") (hm : Y.mg "enumerate" = none) (ha : PE Y a (tE r X ma)) (hs : starEach [a] Y.env = [(false, eval a Y.env)]) (hs2 : starEach [a] Y.env = (false, eval a Y.env) :: starEach [] Y.env) :
    PI Y (.Tuple elts kk tpos) (.Call (.Name "enumerate" p) [a] [] pos) (tI r X (.enum ma)) :=
  (pi_enumS hg hm (pa_consD ha pa_nilD hs2) hs).imp fun σ H Z ⟨F, Γ, fps, g, q⟩ => ⟨F, Γ, fps, g, by
    have q : Ev r F H fps σ ((evE X ma Γ).toD.bind fun x Γ => match items x with | some xs => R.ok (xs.zipIdx.map fun p => PyData.tuple [.int p.2, p.1]) Γ | none => .bad) _ := q
    refine Ev.ret (f := fun x => [x]) (q.bind.imp fun x Γ1 F1 H1 fps1 s1 g1 k vs rds => ?_)
    cases rds with
    | cons hd t =>
      cases t
      cases x <;> simp only [items] at k <;> try exact False.elim k
      · cases hd with
        | @lst a1 vs1 _ h l rr =>
          have src : ∀ H, Sub F1 H → Src r.K false H a1 vs1 := fun H s => .inl (.inl (s _ _ h))
          exact ⟨false, a1, vs1, rfl, hK ▸ src _ g1.sub, hK ▸ k F1 H1 fps1 Step.refl g1 _ (wk_enum src l rr)⟩
      · cases hd with
        | @tup a1 vs1 _ h l rr =>
          have src : ∀ H, Sub F1 H → Src r.K true H a1 vs1 := fun H s => s.sqT h.sq
          exact ⟨true, a1, vs1, rfl, hK ▸ src _ g1.sub, hK ▸ k F1 H1 fps1 Step.refl g1 _ (wk_enum src l rr)⟩⟩
end
theorem wk_zip {K : PySem.W.Frag} {F : Hp} {a b : Addr} {vs ws : List V} {xs ys : List D} (ha : ∀ H, Sub F H → SqL K H a vs) (hb : ∀ H, Sub F H → SqL K H b ws) (l : vs.length ≤ sizeLine) (r : RDs K F vs xs) (r2 : RDs K F ws ys) :
    Wk K true F (Itz K a b) ((xs.zip ys).map fun p => .tuple [p.1, p.2]) := by
  have hl : ((xs.zip ys).map fun p => PyData.tuple [p.1, p.2]).length = min vs.length ws.length := by simp [r.length, r2.length]
  refine ⟨by rw [hl]; exact Nat.le_trans (Nat.min_le_left _ _) l, fun i G H s1 s2 hi => ⟨vs, ws, ha _ (s1.trans s2), hb _ (s1.trans s2), by omega⟩, fun i G H s1 s2 hi => ?_, fun i G H H' v d s1 s2 hd hy => ?_⟩
  · rw [hl] at hi
    exact ⟨vs, ws, _, _, ha _ (s1.trans s2), hb _ (s1.trans s2), List.getElem?_eq_getElem (by omega), List.getElem?_eq_getElem (by omega)⟩
  · obtain ⟨T, x, y, rfl, e1, e2, hx, hy⟩ := hy
    rw [List.getElem?_map, Option.map_eq_some_iff] at hd
    obtain ⟨p, hp, rfl⟩ := hd
    obtain ⟨p1, p2⟩ := List.getElem?_zip_eq_some.mp hp
    obtain ⟨v1, e3, k1⟩ := r.get p1
    obtain ⟨v2, e4, k2⟩ := r2.get p2
    have hx := hx vs (ha _ (s1.trans s2))
    have hy := hy ws (hb _ (s1.trans s2))
    rw [hx] at e3
    rw [hy] at e4
    cases e3
    cases e4
    exact .inr ⟨rfl, T, [x, y], _, rfl, e1, e2, rfl, .cons (k1.mono s1) (.cons (k2.mono s1) .nil)⟩
theorem wk_zipT {K : PySem.W.Frag} {F : Hp} {a b : Addr} {vs ws : List V} {xs ys : List D} (ha : ∀ H, Sub F H → SqT K H a vs) (hb : ∀ H, Sub F H → SqT K H b ws) (l : vs.length ≤ sizeLine) (r : RDs K F vs xs) (r2 : RDs K F ws ys) :
    Wk K true F (ItzT K a b) ((xs.zip ys).map fun p => .tuple [p.1, p.2]) := by
  have hl : ((xs.zip ys).map fun p => PyData.tuple [p.1, p.2]).length = min vs.length ws.length := by simp [r.length, r2.length]
  refine ⟨by rw [hl]; exact Nat.le_trans (Nat.min_le_left _ _) l, fun i G H s1 s2 hi => ⟨vs, ws, ha _ (s1.trans s2), hb _ (s1.trans s2), by omega⟩, fun i G H s1 s2 hi => ?_, fun i G H H' v d s1 s2 hd hy => ?_⟩
  · rw [hl] at hi
    exact ⟨vs, ws, _, _, ha _ (s1.trans s2), hb _ (s1.trans s2), List.getElem?_eq_getElem (by omega), List.getElem?_eq_getElem (by omega)⟩
  · obtain ⟨T, x, y, rfl, e1, e2, hx, hy⟩ := hy
    rw [List.getElem?_map, Option.map_eq_some_iff] at hd
    obtain ⟨p, hp, rfl⟩ := hd
    obtain ⟨p1, p2⟩ := List.getElem?_zip_eq_some.mp hp
    obtain ⟨v1, e3, k1⟩ := r.get p1
    obtain ⟨v2, e4, k2⟩ := r2.get p2
    have hx := hx vs (ha _ (s1.trans s2))
    have hy := hy ws (hb _ (s1.trans s2))
    rw [hx] at e3
    rw [hy] at e4
    cases e3
    cases e4
    exact .inr ⟨rfl, T, [x, y], _, rfl, e1, e2, rfl, .cons (k1.mono s1) (.cons (k2.mono s1) .nil)⟩
section
variable {r : Rd} {X : Ctx} {Y : Cx} {a b : Expr} {ma mb : E} {p pos tpos : Pos} {elts : List Expr} {kk : Nat}
theorem pi_zipE (hK : r.K = Y.K) (hg : Gl Y "zip") (hm : Y.mg "zip" = none) (ha : PE Y a (tE r X ma)) (hb : PE Y b (tE r X mb)) (hs : starEach [a, b] Y.env = (false, eval a Y.env) :: starEach [b] Y.env) (hpl : (backTo pos (starEach [b] Y.env)).any (·.1) = false)
    (hs2 : starEach [b] Y.env = (false, eval b Y.env) :: starEach [] Y.env) : PI Y (.Tuple elts kk tpos) (.Call (.Name "zip" p) [a, b] [] pos) (tI r X (.zip ma mb)) :=
  (pi_zipA hg hm (pa_consD ha (pa_consD hb pa_nilD hs2) hs) hs hpl).imp fun σ H Z ⟨F, Γ, fps, g, q⟩ => ⟨F, Γ, fps, g, by
    have q : Ev r F H fps σ ((evE X ma Γ).toD.bind fun x Γ => (evE X mb Γ).toD.bind fun y Γ => match x, y with
      | .list xs, .list ys => MI.R.ok ((xs.zip ys).map fun p => PyData.tuple [p.1, p.2]) Γ
      | .tuple xs, .tuple ys => MI.R.ok ((xs.zip ys).map fun p => PyData.tuple [p.1, p.2]) Γ
      | _, _ => .bad) _ := q
    show Ev r F H fps σ ((evE X ma Γ).toD.bind fun x Γ => ((evE X mb Γ).toD.bind fun y Γ => MI.R.ok [y] Γ).bind fun xs Γ => .ok (x :: xs) Γ) _
    cases e1 : (evE X ma Γ).toD with
    | bad => rw [e1] at q; exact q
    | exc c fs Γ1 => rw [e1] at q; exact q
    | ok x Γ1 =>
      rw [e1] at q
      have q : Ev r F H fps σ ((evE X mb Γ1).toD.bind fun y Γ => match x, y with
        | .list xs, .list ys => MI.R.ok ((xs.zip ys).map fun p => PyData.tuple [p.1, p.2]) Γ
        | .tuple xs, .tuple ys => MI.R.ok ((xs.zip ys).map fun p => PyData.tuple [p.1, p.2]) Γ
        | _, _ => .bad) _ := q
      show Ev r F H fps σ (((evE X mb Γ1).toD.bind fun y Γ => MI.R.ok [y] Γ).bind fun xs Γ => .ok (x :: xs) Γ) _
      refine Ev.ret (f := fun xs => x :: xs) (Ev.ret (f := fun y => [y]) (q.bind.imp fun y Γ2 F2 H2 fps2 s2 g2 k vs rds => ?_))
      cases rds with
      | cons hd t =>
        cases t with
        | cons hd2 t =>
          cases t
          cases x <;> try exact False.elim k
          · cases y <;> try exact False.elim k
            cases hd with
            | @lst a1 vs1 _ h l rr => cases hd2 with
              | @lst a2 vs2 _ h' l' rr' =>
                have s1 : ∀ H, Sub F2 H → SqL r.K H a1 vs1 := fun H s => .inl (.inl (s _ _ h))
                have s3 : ∀ H, Sub F2 H → SqL r.K H a2 vs2 := fun H s => .inl (.inl (s _ _ h'))
                exact ⟨a1, a2, vs1, vs2, rfl, .inl ⟨hK ▸ s1 _ g2.sub, hK ▸ s3 _ g2.sub, hK ▸ k F2 H2 fps2 Step.refl g2 _ (wk_zip s1 s3 l rr rr')⟩⟩
          · cases y <;> try exact False.elim k
            cases hd with
            | @tup a1 vs1 _ h l rr => cases hd2 with
              | @tup a2 vs2 _ h' l' rr' =>
                have s1 : ∀ H, Sub F2 H → SqT r.K H a1 vs1 := fun H s => s.sqT h.sq
                have s3 : ∀ H, Sub F2 H → SqT r.K H a2 vs2 := fun H s => s.sqT h'.sq
                exact ⟨a1, a2, vs1, vs2, rfl, .inr ⟨hK ▸ s1 _ g2.sub, hK ▸ s3 _ g2.sub, hK ▸ k F2 H2 fps2 Step.refl g2 _ (wk_zipT s1 s3 l rr rr')⟩⟩⟩
end
end MI

set_option maxRecDepth 100000
/-! MI16: checked expressions do what the mini program does. -/
namespace MI
open L2 PySem PyProof.Rows PySem.Spec
def isBl : Expr → Bool
  | .BoolOp _ _ _ => true
  | _ => false
section
variable {r : Rd} {X : Ctx} {c : Ck} {Y : Cx} {x : Str} {i : Nat} {a e : Expr} {ma m : E} {p pos p2 : Pos}
theorem kE_var (h : kE c (.var i) e = true) (o : CxOk r X c Y) : ∃ x pos, e = .Name x pos ∧ PE Y e (tVar i) := by
  rw [kE_var_eq] at h
  split at h
  · exact ⟨_, _, rfl, o.var h⟩
  · cases h
theorem B_ok (h : kE c m e = true) (o : CxOk r X c Y) (pe : PE Y e (tE r X m)) : PE Y e (tB r X m) := pe_B pe fun i hi => by
  subst hi
  exact kE_var h o
theorem blt_ok (o : CxOk r X c Y) {b : Blt} {s : String} (hb : bltN b = some s) (hg : Gl Y (Str.ofString s)) (ha : PE Y a (tB r X ma)) (hs : starEach [a] Y.env = (false, eval a Y.env) :: starEach [] Y.env) : PE Y (.Call (.Name (Str.ofString s) p) [a] [] pos) (tE r X (.blt b ma)) := by
  have hK := o.K
  have hu := o.units
  cases b <;> cases hb
  · exact pe_blt1B (hK ▸ cr_len) hg (o.blt _ (by simp [bltNames])) (by decide +kernel) ha (by decide) (by decide) hs
  · exact pe_blt1B (hK ▸ cr_all' o.calm) hg (o.blt _ (by simp [bltNames])) (by decide +kernel) ha (by decide) (by decide) hs
  · exact pe_blt1B (hK ▸ cr_any' o.calm) hg (o.blt _ (by simp [bltNames])) (by decide +kernel) ha (by decide) (by decide) hs
  · exact pe_blt1T (hK ▸ cr_tuple) hg (o.blt _ (by simp [bltNames])) (by decide +kernel) ha (by decide) (by decide) hs
  · exact pe_blt1T (hK ▸ cr_list) hg (o.blt _ (by simp [bltNames])) (by decide +kernel) ha (by decide) (by decide) hs
  · exact pe_blt1B (hK ▸ MI.cr_sorted) hg (o.blt _ (by simp [bltNames])) (by decide +kernel) ha (by decide) (by decide) hs
  · exact pe_blt1B (hK ▸ cr_repr o.guard (by omega)) hg (o.blt _ (by simp [bltNames])) (by decide +kernel) ha (by decide) (by decide) hs
  · exact pe_blt1T (hK ▸ cr_str) hg (o.blt _ (by simp [bltNames])) (by decide +kernel) ha (by decide) (by decide) hs
  · exact pe_blt1T (hK ▸ cr_int) hg (o.blt _ (by simp [bltNames])) (by decide +kernel) ha (by decide) (by decide) hs
  · exact pe_blt1B (hK ▸ cr_max' o.calm) hg (o.blt _ (by simp [bltNames])) (by decide +kernel) ha (by decide) (by decide) hs
  · exact pe_blt1B (hK ▸ cr_min' o.calm) hg (o.blt _ (by simp [bltNames])) (by decide +kernel) ha (by decide) (by decide) hs
  · exact pe_blt1B (hK ▸ cr_sum' o.calm) hg (o.blt _ (by simp [bltNames])) (by decide +kernel) ha (by decide) (by decide) hs
  · exact pe_blt1T (hK ▸ cr_dict o.calm) hg (o.blt _ (by simp [bltNames])) (by decide +kernel) ha (by decide) (by decide) hs
theorem blts_ok (o : CxOk r X c Y) {b : Blt} {s : String} {es : List Expr} {ms : Es} (hb : bltN2 b = some s) (hg : Gl Y (Str.ofString s)) (ha : PA Y (e :: es) (tDs r X ms)) (hs : starEach (e :: es) Y.env = (false, eval e Y.env) :: starEach es Y.env) (hpl : (backTo pos (starEach es Y.env)).any (·.1) = false) :
    PE Y (.Call (.Name (Str.ofString s) p) (e :: es) [] pos) (tE r X (.blts b ms)) := by
  have hK := o.K
  cases b <;> cases hb
  · exact pe_bltsE (hK ▸ cr_max2 o.calm) hg (o.blt _ (by simp [bltNames])) (by decide +kernel) ha (by decide) (by decide) hs hpl
  · exact pe_bltsE (hK ▸ cr_min2 o.calm) hg (o.blt _ (by simp [bltNames])) (by decide +kernel) ha (by decide) (by decide) hs hpl
theorem mok_ok (o : CxOk r X c Y) {m : Mth} {s : String} {n : Nat} (h : mthN m = some (s, n)) : MOk Y (Str.ofString s) m n := by
  have hu := o.units
  cases m <;> cases h
  · exact mok_count (by omega)
  · exact mok_index (by omega)
  · exact mok_get1 (by omega)
  · exact mok_get2 (by omega)
  · exact mok_upper
theorem kC_ok : ∀ {d : PyData} {e : Expr}, kC d e = true → ∃ v, PE Y e (tC v) ∧ (∀ K F, RD K F v d) ∧ (∀ whole, isTrue e Y.env whole = (do let v ← whole; standAt e.pos; holding [v] (truthy v))) ∧ isBl e = false
  | d, e, h => by
    unfold kC at h
    split at h
    · exact ⟨_, pe_non, fun _ _ => .non, fun _ => by rfl, rfl⟩
    · have := eq_of_beq h
      subst this
      exact ⟨_, pe_bl, fun _ _ => .bl _, fun _ => by rfl, rfl⟩
    · have := of_decide_eq_true h
      subst this
      exact ⟨_, pe_int, fun _ _ => .int _, fun _ => by rfl, rfl⟩
    · have := of_decide_eq_true h
      subst this
      refine ⟨.int (-_), (pe_un un_neg pe_int).imp fun σ H Q q => ⟨_, rfl, q⟩, fun _ _ => .int _, fun _ => by rfl, rfl⟩
    · have := sEq_eq h
      subst this
      exact ⟨_, pe_str, fun _ _ => .str _, fun _ => by rfl, rfl⟩
    · cases h
theorem kNames_ok (o : CxOk r X c Y) : ∀ {is : List Nat} {es : List Expr}, kNames c is es = true → PGs Y es (gAll is) ∧ (assignEach es Y.env).length = is.length ∧ (assignEach es Y.env).findIdx? (·.1) = none
  | [], [], _ => ⟨pgs_nil, rfl, rfl⟩
  | [], _ :: _, h => by simp [kNames] at h
  | i :: is, [], h => by simp [kNames] at h
  | i :: is, e :: es, h => by
    cases e <;> simp only [kNames] at h <;> try cases h
    rename_i x p
    rw [Bool.and_eq_true] at h
    obtain ⟨h1, h2, h3⟩ := kNames_ok o h.2
    have ht := h.1
    simp only [Ck.tgt, Bool.and_eq_true] at ht
    refine ⟨pgs_cons (pg_name o.nd (by rw [o.N]; exact atS_eq ht.1.1) ?_ (o.fn x ht.2)) h1 (by rfl), ?_, ?_⟩
    · rw [o.sc]; exact Ck.loc_ok ht.1.2
    · show (assignEach es Y.env).length + 1 = is.length + 1
      rw [h2]
    · show ((false, assign (.Name x p) Y.env) :: assignEach es Y.env).findIdx? (·.1) = none
      rw [List.findIdx?_cons]
      simp [h3]
theorem kT_ok (o : CxOk r X c Y) {t : T} {e : Expr} (h : kT c t e = true) : PG Y e (gT Y.K t) := by
  unfold kT at h
  split at h
  · have ht := h
    simp only [Ck.tgt, Bool.and_eq_true] at ht
    refine pg_name o.nd (by rw [o.N]; exact atS_eq ht.1.1) ?_ (o.fn _ ht.2)
    rw [o.sc]; exact Ck.loc_ok ht.1.2
  · obtain ⟨h1, h2, h3⟩ := kNames_ok o h
    exact pg_tup o.calm h1 h2 h3
  · cases h
end
theorem kE_noStar {c : Ck} {es : List Expr} {ms : Es} (h : kEs c ms es = true) : noStars es = true := (kEs_star h).1
/-- what a checked expression does: as a value, as a test, as the rest of a row -/
structure EOk (r : Rd) (X : Ctx) (Y : Cx) (e : Expr) (m : E) : Prop where
  pe : PE Y e (tE r X m)
  pt : noIf e = true → PT Y e (tT r X m)
  pw : isBl e = true → PW Y e (tT r X m)
/-- as a test too, where the form has no other one -/
theorem two {r : Rd} {X : Ctx} {Y : Cx} {e : Expr} {m : E} (h : PE Y e (tE r X m)) (he : ∀ whole, isTrue e Y.env whole = (do let v ← whole; standAt e.pos; holding [v] (truthy v))) (hb : isBl e = false := by rfl) : EOk r X Y e m := ⟨h, fun _ => pt_T h he, fun z => by rw [hb] at z; cases z⟩
theorem blts_std {b : Blt} {args : Es} {es : List Expr} {c : Ck} {r : Rd} {X : Ctx} {Y : Cx} {x : Str} {p1 p2 : Pos} (h : ((match bltN2 b with | some s => isN s x | none => false) && c.gl x && kEs c args es && Nat.beq args.len 2) = true) (o : CxOk r X c Y) (A : kEs c args es = true → PA Y es (tDs r X args)) :
    EOk r X Y (.Call (.Name x p1) es [] p2) (.blts b args) := by
  obtain ⟨h, h4⟩ := and_inv h
  obtain ⟨h, h3⟩ := and_inv h
  obtain ⟨h1, h2⟩ := and_inv h
  split at h1
  · rename_i s es0
    have := isN_eq h1
    subst this
    have st := kEs_star h3
    cases es with
    | nil =>
      have := Nat.eq_of_beq_eq_true h4
      rw [st.2] at this
      cases this
    | cons y ys =>
      have s2 := st.1
      simp only [noStars, List.all_cons, Bool.and_eq_true] at s2
      exact two (blts_ok o es0 (o.gl' h2) (A h3) (star_ok s2.1) (stars_ok s2.2).1) fun _ => by rfl
  · cases h1
theorem lrng_inv {b : Blt} {args : Es} {es : List Expr} {c : Ck} {x : Str} (h : ((match bltR b with | some n => Nat.beq args.len n | none => false) && isN "list" x && c.gl x && (match es with
      | [.Call (.Name z _) zs [] _] => isN "range" z && c.gl z && kEs c args zs
      | _ => false)) = true) : (match bltR b with | some n => Nat.beq args.len n | none => false) = true ∧ x = Str.ofString "list" ∧ c.gl x = true ∧ ∃ z q1 zs q2, es = [.Call (.Name z q1) zs [] q2] ∧ z = Str.ofString "range" ∧ c.gl z = true ∧ kEs c args zs = true := by
  obtain ⟨h, h4⟩ := and_inv h
  obtain ⟨h, h3⟩ := and_inv h
  obtain ⟨h1, h2⟩ := and_inv h
  split at h4
  case h_2 => cases h4
  rename_i z q1 zs q2
  obtain ⟨h4, h7⟩ := and_inv h4
  obtain ⟨h5, h6⟩ := and_inv h4
  exact ⟨h1, isN_eq h2, h3, z, q1, zs, q2, rfl, isN_eq h5, h6, h7⟩
theorem pt_chainT {r : Rd} {X : Ctx} {Y : Cx} {a b d : Expr} {ma mb md : E} {pos : Pos} {op op2 : Cop} {cp cp2 : CmpOp} (h1 : OpR Y (compareOp cp) (rC r.K (cop op))) (h2 : OpR Y (compareOp cp2) (rC r.K (cop op2))) (ha : PE Y a (tE r X ma)) (hb : PE Y b (tE r X mb)) (hc : PE Y d (tE r X md)) (hm : lastMarks [cp, cp2] [b, d] = false) :
    PT Y (.Compare a [cp, cp2] [b, d] pos) (tT r X (.chain op op2 ma mb md)) := (pt_chain h1 h2 (pe_D ha) (pe_D hb) (pe_D hc) hm).imp fun σ H Q ⟨F, Γ, fps, g, q⟩ => by
  refine chain_E (X := X) ⟨F, Γ, fps, g, ?_⟩
  refine Ev.imp q.bind fun o Γ1 F1 H1 fps1 s1 g1 k v fp t => ?_
  split at k
  · exact ⟨_, t.bool, k.ok g1⟩
  · exact k.elim
theorem kE_lcInv {c : Ck} {own : List Nat} {t : T} {it : I} {d m : E} {e : Expr} (h : kE c (.lc own t it d m) e = true) : ∃ elt tg iter ifs scope pos, e = .ListComp elt [⟨tg, iter, ifs, 0⟩] scope pos ∧ kBlk c scope own = true ∧ kT (c.blk scope) t tg = true ∧ t.slots.all (fun j => own.any (Nat.beq j)) = true ∧ tpOnly it.lo t = true ∧
    kI c it iter = true ∧ noSet iter = true ∧ kE (c.blk scope) m elt = true ∧ ((ifs = [] ∧ d = .cst (.bool true)) ∨ ∃ x, ifs = [x] ∧ kE (c.blk scope) d x = true ∧ noIf x = true) := by
  rw [kE_lc_eq] at h
  split at h
  · rename_i elt tg iter ifs asy scope pos
    obtain ⟨h, h9⟩ := and_inv h
    obtain ⟨h, h8⟩ := and_inv h
    obtain ⟨h, h7⟩ := and_inv h
    obtain ⟨h, h6⟩ := and_inv h
    obtain ⟨h, h5⟩ := and_inv h
    obtain ⟨h, h4⟩ := and_inv h
    obtain ⟨h, h3⟩ := and_inv h
    obtain ⟨h1, h2⟩ := and_inv h
    have := of_decide_eq_true h1
    subst this
    refine ⟨elt, tg, iter, ifs, scope, pos, rfl, h2, h3, h4, h5, h6, h7, h8, ?_⟩
    split at h9
    · split at h9
      · exact .inl ⟨rfl, rfl⟩
      · cases h9
    · rename_i x
      obtain ⟨k1, k2⟩ := and_inv h9
      exact .inr ⟨x, rfl, k1, k2⟩
    · cases h9
  · cases h
theorem slots_in {t : T} {own : List Nat} (h : t.slots.all (fun j => own.any (Nat.beq j)) = true) : ∀ j ∈ t.slots, j ∈ own := fun j hj => by
  rw [List.all_eq_true] at h
  have := h j hj
  rw [List.any_eq_true] at this
  obtain ⟨k, hk, e⟩ := this
  rw [Nat.eq_of_beq_eq_true e]
  exact hk
theorem tpOnly_ok {lo : Bool} {t : T} (h : tpOnly lo t = true) : lo = true → ∃ is, t = .tp is := fun hl => by
  subst hl
  cases t with
  | nm i => cases h
  | tp is => exact ⟨is, rfl⟩
mutual
theorem kE_ok : ∀ (m : E) {c : Ck} {e : Expr}, kE c m e = true → ∀ {r : Rd} {X : Ctx} {Y : Cx}, CxOk r X c Y → EOk r X Y e m
  | .var i, c, e, h, r, X, Y, o => by
    obtain ⟨x, pos, rfl, pv⟩ := kE_var h o
    exact two (pe_varE pv) fun _ => by rfl
  | .cst d, c, e, h, r, X, Y, o => by
    have h : kC d e = true := h
    obtain ⟨v, pe, rv, ht, hb⟩ := kC_ok (Y := Y) h
    exact two (pe_cE (r := r) (X := X) (m := .cst d) pe (rv r.K) fun Γ => rfl) ht hb
  | .glob g, c, e, h, r, X, Y, o => by
    rw [kE_glob_eq] at h
    split at h
    · obtain ⟨h, h3⟩ := and_inv h
      obtain ⟨h1, h2⟩ := and_inv h
      obtain ⟨u, v, d, k1, k2, k3, k4⟩ := o.gl g _ (atT_eq h1)
      exact two (pe_globE (r := r) (o.gl' h2) k1 k2 (plainN_ok h3).1 k3 k4) fun _ => by rfl
    · cases h
  | .bin op a b, c, e, h, r, X, Y, o => by
    rw [kE_bin_eq] at h
    split at h
    · obtain ⟨h, h3⟩ := and_inv h
      obtain ⟨h1, h2⟩ := and_inv h
      have := opEq_eq h1
      subst this
      exact two (pe_binE (o.K ▸ opr_b op) (B_ok h2 o (kE_ok a h2 o).pe) (B_ok h3 o (kE_ok b h3 o).pe)) fun _ => by rfl
    · cases h
  | .not a, c, e, h, r, X, Y, o => by
    rw [kE_not_eq] at h
    split at h
    · obtain ⟨h1, h2⟩ := and_inv h
      have A := kE_ok a h1 o
      exact ⟨pe_notE A.pe, fun _ => pt_notT (A.pt h2), fun z => by cases z⟩
    · cases h
  | .neg a, c, e, h, r, X, Y, o => by
    rw [kE_neg_eq] at h
    split at h
    · exact two (pe_negE (kE_ok a h o).pe) fun _ => by rfl
    · cases h
  | .and a b, c, e, h, r, X, Y, o => by
    rw [kE_and_eq] at h
    split at h
    · obtain ⟨h, h4⟩ := and_inv h
      obtain ⟨h, h3⟩ := and_inv h
      obtain ⟨h1, h2⟩ := and_inv h
      have A := kE_ok a h1 o
      have B := kE_ok b h3 o
      exact ⟨pe_andE A.pe (pe_one B.pe), fun _ => (pw_andT (A.pt h2) (pw_and1 (B.pt h4))).pt, fun _ => pw_andT (A.pt h2) (pw_and1 (B.pt h4))⟩
    · obtain ⟨h, h3⟩ := and_inv h
      obtain ⟨h1, h2⟩ := and_inv h
      have A := kE_ok a h1 o
      have B := kE_ok b h3 o
      exact ⟨pe_andE A.pe B.pe, fun _ => (pw_andT (A.pt h2) (B.pw rfl)).pt, fun _ => pw_andT (A.pt h2) (B.pw rfl)⟩
    · cases h
  | .or a b, c, e, h, r, X, Y, o => by
    rw [kE_or_eq] at h
    split at h
    · obtain ⟨h, h4⟩ := and_inv h
      obtain ⟨h, h3⟩ := and_inv h
      obtain ⟨h1, h2⟩ := and_inv h
      have A := kE_ok a h1 o
      have B := kE_ok b h3 o
      exact ⟨pe_orE A.pe (pe_one B.pe), fun _ => (pw_orT (A.pt h2) (pw_or1 (B.pt h4))).pt, fun _ => pw_orT (A.pt h2) (pw_or1 (B.pt h4))⟩
    · obtain ⟨h, h3⟩ := and_inv h
      obtain ⟨h1, h2⟩ := and_inv h
      have A := kE_ok a h1 o
      have B := kE_ok b h3 o
      exact ⟨pe_orE A.pe B.pe, fun _ => (pw_orT (A.pt h2) (B.pw rfl)).pt, fun _ => pw_orT (A.pt h2) (B.pw rfl)⟩
    · cases h
  | .cmp op a b, c, e, h, r, X, Y, o => by
    rw [kE_cmp_eq] at h
    split at h
    · obtain ⟨h, h4⟩ := and_inv h
      obtain ⟨h, h3⟩ := and_inv h
      obtain ⟨h1, h2⟩ := and_inv h
      have := cpEq_eq h1
      subst this
      have hu := o.units
      have hm := h4
      rw [Bool.not_eq_true'] at hm
      have A := B_ok h2 o (kE_ok a h2 o).pe
      have B := B_ok h3 o (kE_ok b h3 o).pe
      exact ⟨pe_cmpE (o.K ▸ opr_c op (by omega)) A B hm, fun _ => pt_cmpT (o.K ▸ opr_c op (by omega)) A B hm, fun z => by cases z⟩
    · cases h
  | .chain op op2 a b d, c, e, h, r, X, Y, o => by
    rw [kE_chain_eq] at h
    split at h
    · obtain ⟨h, h6⟩ := and_inv h
      obtain ⟨h, h5⟩ := and_inv h
      obtain ⟨h, h4⟩ := and_inv h
      obtain ⟨h, h3⟩ := and_inv h
      obtain ⟨h1, h2⟩ := and_inv h
      have e1 := cpEq_eq h1
      have e2 := cpEq_eq h2
      subst e1 e2
      have hu := o.units
      have hm := h6
      rw [Bool.not_eq_true'] at hm
      have A := (kE_ok a h3 o).pe
      have B := (kE_ok b h4 o).pe
      have C := (kE_ok d h5 o).pe
      exact ⟨pe_chainE (o.K ▸ opr_c op (by omega)) (o.K ▸ opr_c op2 (by omega)) A B C hm, fun _ => pt_chainT (o.K ▸ opr_c op (by omega)) (o.K ▸ opr_c op2 (by omega)) A B C hm, fun z => by cases z⟩
    · cases h
  | .ite d a b, c, e, h, r, X, Y, o => by
    rw [kE_ite_eq] at h
    split at h
    · obtain ⟨h, h4⟩ := and_inv h
      obtain ⟨h, h3⟩ := and_inv h
      obtain ⟨h1, h2⟩ := and_inv h
      exact ⟨pe_iteE ((kE_ok d h1 o).pt h2) (kE_ok a h3 o).pe (kE_ok b h4 o).pe, (fun z => by cases z), fun z => by cases z⟩
    · cases h
  | .tup es, c, e, h, r, X, Y, o => by
    rw [kE_tup_eq] at h
    split at h
    · obtain ⟨h1, h2⟩ := and_inv h
      exact two (pe_tupE (kEs_ok es h1 o) (Nat.le_of_ble_eq_true h2)) fun _ => by rfl
    · cases h
  | .lst es, c, e, h, r, X, Y, o => by
    rw [kE_lst_eq] at h
    split at h
    · obtain ⟨h1, h2⟩ := and_inv h
      exact two (pe_lstE (kEs_ok es h1 o) (Nat.le_of_ble_eq_true h2)) fun _ => by rfl
    · cases h
  | .lls es, c, e, h, r, X, Y, o => by
    rw [kE_lls_eq] at h
    obtain ⟨h1, h2⟩ := and_inv h
    cases es with
    | cons _ _ => cases h1
    | nil =>
      unfold exNil at h2
      split at h2
      · exact two pe_lls0E fun _ => by rfl
      · cases h2
  | .dct es, c, e, h, r, X, Y, o => by
    rw [kE_dct_eq] at h
    split at h
    · rename_i keys vals pos
      obtain ⟨h1, h2⟩ := and_inv h
      obtain ⟨k1, k2, k3, k4, k5⟩ := kPs_ok es h1 o
      have h2 := Nat.le_of_ble_eq_true h2
      cases es with
      | nil =>
        cases keys with
        | nil =>
          cases vals with
          | nil => exact two pe_dct0E fun _ => by rfl
          | cons _ _ => cases k3
        | cons _ _ => cases k5
      | cons m ms =>
        refine two (pe_dctE (k1 pos) k2 k3 (fun z => ?_) (by omega) k4 h2) fun _ => by rfl
        rw [z] at k5
        cases k5
    · cases h
  | .lc own t it d m, c, e, h, r, X, Y, o => by
    obtain ⟨elt, tg, iter, ifs, scope, pos, rfl, k1, k2, k3, k4, k5, k6, k7, k8⟩ := kE_lcInv h
    obtain ⟨b1, b2⟩ := kBlk_ok k1
    have hk : scope.kind = .function := b1.kind
    have ow : ∀ j ∈ t.slots, j ∈ own := slots_in k3
    refine two (pe_lcE b2.symm o.calm o.nd o.K (tpOnly_ok k4) ow (kI_ok it k5 o tg (tup_of k4 k2)) (by rw [o.N, o.sc]; exact b1) (fun s H C cl fp => kT_ok (o.blk hk s H C cl fp) k2) (fun s H C cl fp => ?_) (fun s H C cl fp => (kE_ok m k7 (o.blk hk s H C cl fp)).pe) (set_ok k6)) fun _ => by rfl
    rcases k8 with ⟨rfl, rfl⟩ | ⟨x, rfl, k8, k9⟩
    · exact pts_nilE
    · exact pts_oneE ((kE_ok d k8 (o.blk hk s H C cl fp)).pt k9)
  | .idx a i, c, e, h, r, X, Y, o => by
    rw [kE_idx_eq] at h
    split at h
    · obtain ⟨h, h3⟩ := and_inv h
      obtain ⟨h1, h2⟩ := and_inv h
      have hu := o.units
      exact two (pe_idxE (by omega) o.K (B_ok h1 o (kE_ok a h1 o).pe) (pe_D (kE_ok i h2 o).pe) (plainIx_ok h3)) fun _ => by rfl
    · cases h
  | .slh a k, c, e, h, r, X, Y, o => by
    rw [kE_slh_eq] at h
    split at h
    · obtain ⟨h1, h2⟩ := and_inv h
      exact two (pe_slhE o.K (B_ok h1 o (kE_ok a h1 o).pe) (kE_ok k h2 o).pe) fun _ => by rfl
    · cases h
  | .sll a k, c, e, h, r, X, Y, o => by
    rw [kE_sll_eq] at h
    split at h
    · obtain ⟨h1, h2⟩ := and_inv h
      exact two (pe_sllE o.K (B_ok h1 o (kE_ok a h1 o).pe) (kE_ok k h2 o).pe) fun _ => by rfl
    · cases h
  | .slb a l k, c, e, h, r, X, Y, o => by
    rw [kE_slb_eq] at h
    split at h
    · obtain ⟨h, h3⟩ := and_inv h
      obtain ⟨h1, h2⟩ := and_inv h
      exact two (pe_slbE o.K (B_ok h1 o (kE_ok a h1 o).pe) (kE_ok l h2 o).pe (kE_ok k h3 o).pe) fun _ => by rfl
    · cases h
  | .scut i n, c, e, h, r, X, Y, o => by
    rw [kE_scut_eq] at h
    split at h
    · obtain ⟨h1, h2⟩ := and_inv h
      have := of_decide_eq_true h2
      subst this
      exact two (pe_scutE (o.var h1) o.K) fun _ => by rfl
    · cases h
  | .rev a, c, e, h, r, X, Y, o => by
    rw [kE_rev_eq] at h
    split at h
    · exact two (pe_revE o.K (B_ok h o (kE_ok a h o).pe)) fun _ => by rfl
    · cases h
  | .call f args, c, e, h, r, X, Y, o => by
    rw [kE_call_eq] at h
    split at h
    · rename_i x p1 es p2
      obtain ⟨h, h4⟩ := and_inv h
      obtain ⟨h, h3⟩ := and_inv h
      obtain ⟨h1, h2⟩ := and_inv h
      split at h1
      · rename_i q eq
        obtain ⟨h5, h6⟩ := and_inv h1
        have ex := sEq_eq h5
        have en := Nat.eq_of_beq_eq_true h6
        obtain ⟨n, room, fns⟩ := o.fns
        obtain ⟨fa, fd, ps, k1, k2, k3, k4⟩ := fns f q eq
        rw [ex] at k1
        have A := kEs_okA args h4 o (X.io f)
        have st := kEs_star h4
        cases es with
        | nil =>
          cases args with
          | cons _ _ => cases st.2
          | nil =>
            have e0 : q.2 = 0 := en.symm
            rw [e0] at k4
            exact two (pe_call0E k4 room o.guard (o.gl' h2) k1 k2 k3 o.tk o.K (plainN_ok h3).1) fun _ => by rfl
        | cons y ys =>
          have s2 := st.1
          simp only [noStars, List.all_cons, Bool.and_eq_true] at s2
          exact two (pe_callE k4 room o.guard (o.gl' h2) k1 k2 k3 o.tk o.K A en (plainN_ok h3).1 (star_ok s2.1) (stars_ok s2.2).1) fun _ => by rfl
      · cases h1
    · cases h
  | .blt b a, c, e, h, r, X, Y, o => by
    rw [kE_blt_eq] at h
    split at h
    · obtain ⟨h, h4⟩ := and_inv h
      obtain ⟨h, h3⟩ := and_inv h
      obtain ⟨h1, h2⟩ := and_inv h
      split at h1
      · rename_i s es
        have := isN_eq h1
        subst this
        exact two (blt_ok o es (o.gl' h2) (B_ok h3 o (kE_ok a h3 o).pe) (star_ok h4)) fun _ => by rfl
      · cases h1
    · cases h
  | .blts b .nil, c, e, h, r, X, Y, o => by
    rw [kE_blts_eq] at h
    split at h
    · obtain h | h := Bool.or_eq_true_iff.mp h
      · exact blts_std h o fun h => kEs_ok .nil h o
      · cases b <;> cases h
    · cases h
  | .blts b (.cons ma .nil), c, e, h, r, X, Y, o => by
    rw [kE_blts_eq] at h
    split at h
    · rename_i x p1 es p2
      obtain h | h := Bool.or_eq_true_iff.mp h
      · exact blts_std h o fun h => kEs_ok (.cons ma .nil) h o
      obtain ⟨h1, h2, h3, z, q1, zs, q2, rfl, h5, h6, h7⟩ := lrng_inv h
      subst h2 h5
      cases b <;> try cases h1
      cases zs with
      | nil => cases h7
      | cons ea zs =>
        cases zs with
        | cons _ _ => simp [kEs] at h7
        | nil =>
          have h7 : (kE c ma ea && noStar ea && true) = true := h7
          obtain ⟨h7, -⟩ := and_inv h7
          obtain ⟨k1, k2⟩ := and_inv h7
          exact two (pe_lrng1E o.calm (o.gl' h3) (o.blt _ (by simp [bltNames])) (o.gl' h6) (o.blt _ (by simp [bltNames])) (kE_ok ma k1 o).pe (star_ok k2)) fun _ => by rfl
    · cases h
  | .blts b (.cons ma (.cons mb .nil)), c, e, h, r, X, Y, o => by
    rw [kE_blts_eq] at h
    split at h
    · rename_i x p1 es p2
      obtain h | h := Bool.or_eq_true_iff.mp h
      · exact blts_std h o fun h => kEs_ok (.cons ma (.cons mb .nil)) h o
      obtain ⟨h1, h2, h3, z, q1, zs, q2, rfl, h5, h6, h7⟩ := lrng_inv h
      subst h2 h5
      cases b <;> try cases h1
      cases zs with
      | nil => cases h7
      | cons ea zs =>
        cases zs with
        | nil => simp [kEs] at h7
        | cons eb zs =>
          cases zs with
          | cons _ _ => simp [kEs] at h7
          | nil =>
            have h7 : (kE c ma ea && noStar ea && (kE c mb eb && noStar eb && true)) = true := h7
            obtain ⟨h7, h8⟩ := and_inv h7
            obtain ⟨k1, k2⟩ := and_inv h7
            obtain ⟨h8, -⟩ := and_inv h8
            obtain ⟨k3, k4⟩ := and_inv h8
            exact two (pe_lrng2E o.calm (o.gl' h3) (o.blt _ (by simp [bltNames])) (o.gl' h6) (o.blt _ (by simp [bltNames])) (kE_ok ma k1 o).pe (kE_ok mb k3 o).pe (star_ok k2) (star_ok k4) (stars_ok (es := [eb]) (by simp [noStars, k4])).1) fun _ => by rfl
    · cases h
  | .blts b (.cons ma (.cons mb (.cons mc ms))), c, e, h, r, X, Y, o => by
    rw [kE_blts_eq] at h
    split at h
    · obtain h | h := Bool.or_eq_true_iff.mp h
      · exact blts_std h o fun h => kEs_ok (.cons ma (.cons mb (.cons mc ms))) h o
      · cases b <;> cases h
    · cases h
  | .mth m a args, c, e, h, r, X, Y, o => by
    rw [kE_mth_eq] at h
    split at h
    · rename_i ob name apos es cpos
      obtain ⟨h, h5⟩ := and_inv h
      obtain ⟨h, h4⟩ := and_inv h
      obtain ⟨h, h3⟩ := and_inv h
      obtain ⟨h1, h2⟩ := and_inv h
      split at h1
      · rename_i s n es0
        obtain ⟨h6, h7⟩ := and_inv h1
        have := isN_eq h6
        subst this
        have en := Nat.eq_of_beq_eq_true h7
        have hline : (_ == _) = true := beq_iff_eq.mpr (Nat.eq_of_beq_eq_true h5)
        have st := kEs_star h4
        have A := kEs_ok args h4 o
        have mk := mok_ok o es0
        rw [← en] at mk
        cases es with
        | nil =>
          cases args with
          | cons _ _ => cases st.2
          | nil => exact two (pe_mth0E mk o.K (B_ok h2 o (kE_ok a h2 o).pe) (base_ok h3) hline) fun _ => by rfl
        | cons y ys =>
          have s2 := st.1
          have few : (y :: ys).length < 30 := by
            rw [← st.2, en]
            cases m <;> cases es0 <;> decide
          simp only [noStars, List.all_cons, Bool.and_eq_true] at s2
          exact two (pe_mthE mk o.K (B_ok h2 o (kE_ok a h2 o).pe) A (base_ok h3) (few_ok st.1 few) hline (star_ok s2.1) (stars_ok s2.2).1) fun _ => by rfl
      · cases h1
    · cases h
  | .pop i, c, e, h, r, X, Y, o => by
    rw [kE_pop_eq] at h
    split at h
    · obtain ⟨h, h3⟩ := and_inv h
      obtain ⟨h1, h2⟩ := and_inv h
      have := isN_eq h2
      subst this
      exact two (pe_popE (o.var h1) (by rfl) (beq_iff_eq.mpr (Nat.eq_of_beq_eq_true h3))) fun _ => by rfl
    · cases h
  | .popat i m, c, e, h, r, X, Y, o => by
    rw [kE_popat_eq] at h
    split at h
    · obtain ⟨h, h5⟩ := and_inv h
      obtain ⟨h, h4⟩ := and_inv h
      obtain ⟨h, h3⟩ := and_inv h
      obtain ⟨h1, h2⟩ := and_inv h
      have := isN_eq h2
      subst this
      exact two (pe_popatE (o.var h1) (pa_consD (kE_ok m h4 o).pe pa_nilD (star_ok h5)) (by rfl) (few_ok (by simp [noStars, h5]) (by simp)) (beq_iff_eq.mpr (Nat.eq_of_beq_eq_true h3)) (star_ok h5)) fun _ => by rfl
    · cases h
  | .att _ _, _, _, h, _, _, _, _ => by cases h
  | .isi a ty, c, e, h, r, X, Y, o => by
    rw [kE_isi_eq] at h
    split at h
    · obtain ⟨h, h6⟩ := and_inv h
      obtain ⟨h, h5⟩ := and_inv h
      obtain ⟨h, h4⟩ := and_inv h
      obtain ⟨h, h3⟩ := and_inv h
      obtain ⟨h1, h2⟩ := and_inv h
      have e1 := isN_eq h1
      have e2 := isN_eq h3
      subst e1 e2
      have hm : Y.mg (Str.ofString (tyS ty)) = none := o.blt _ (by cases ty <;> simp [bltNames, tyS])
      have hv : bootBuiltins (Str.ofString (tyS ty)) = some (.type (tyS ty)) := by cases ty <;> decide +kernel
      have hn : Str.ofString (tyS ty) ≠ "__name__" := by cases ty <;> decide +kernel
      have hdb : (Str.ofString (tyS ty) == ("__debug__" : Str)) = false := by cases ty <;> decide +kernel
      exact two (pe_isiE (o.gl' h2) (o.blt _ (by simp [bltNames])) (o.gl' h4) hm hv (B_ok h5 o (kE_ok a h5 o).pe) o.K hn hdb (star_ok h6)) fun _ => by rfl
    · cases h
  | .isx _ _, _, _, h, _, _, _, _ => by cases h
  | .llnil i, c, e, h, r, X, Y, o => by
    rw [kE_llnil_eq] at h
    split at h
    · have hu := o.units
      exact ⟨pe_llnilE o.K (by omega) (o.var h), fun _ => pt_llnilT o.K (by omega) (o.var h), fun z => by cases z⟩
    · cases h
theorem kEs_ok : ∀ (ms : Es) {c : Ck} {es : List Expr}, kEs c ms es = true → ∀ {r : Rd} {X : Ctx} {Y : Cx}, CxOk r X c Y → PA Y es (tDs r X ms)
  | .nil, c, es, h, r, X, Y, o => by
    cases es with
    | nil => exact pa_nilD
    | cons _ _ => cases h
  | .cons m ms, c, es, h, r, X, Y, o => by
    cases es with
    | nil => cases h
    | cons e es =>
      have h : (kE c m e && noStar e && kEs c ms es) = true := h
      obtain ⟨h, h3⟩ := and_inv h
      obtain ⟨h1, h2⟩ := and_inv h
      exact pa_consD (kE_ok m h1 o).pe (kEs_ok ms h3 o) (star_ok h2)
theorem kEs_okA : ∀ (ms : Es) {c : Ck} {es : List Expr}, kEs c ms es = true → ∀ {r : Rd} {X : Ctx} {Y : Cx}, CxOk r X c Y → ∀ io, PA Y es (tAs r X io ms)
  | .nil, c, es, h, r, X, Y, o, io => by
    cases es with
    | nil => exact pa_nilA
    | cons _ _ => cases h
  | .cons m ms, c, es, h, r, X, Y, o, io => by
    cases es with
    | nil => cases h
    | cons e es =>
      have h : (kE c m e && noStar e && kEs c ms es) = true := h
      obtain ⟨h, h3⟩ := and_inv h
      obtain ⟨h1, h2⟩ := and_inv h
      exact pa_consA (kE_ok m h1 o).pe (fun i hi => by
        subst hi
        obtain ⟨_, _, _, pv⟩ := kE_var h1 o
        exact pv) (kEs_okA ms h3 o io.tail) (star_ok h2)
theorem kPs_ok : ∀ (ms : Es) {c : Ck} {ks : List (Option Expr)} {vs : List Expr}, kPs c ms ks vs = true → ∀ {r : Rd} {X : Ctx} {Y : Cx}, CxOk r X c Y → (∀ pos, PPs Y pos ks vs (dTrs r X ms)) ∧ ks.all (·.isSome) = true ∧ ks.length = vs.length ∧ evenE ms = true ∧ 2 * ks.length = ms.len
  | .nil, c, ks, vs, h, r, X, Y, o => by
    cases ks <;> cases vs <;> first | cases h | skip
    exact ⟨fun _ => pps_nil, rfl, rfl, rfl, rfl⟩
  | .cons _ .nil, c, ks, vs, h, r, X, Y, o => by cases ks <;> cases vs <;> cases h
  | .cons m (.cons m2 ms), c, ks, vs, h, r, X, Y, o => by
    cases ks with
    | nil => cases vs <;> cases h
    | cons k ks =>
      cases k with
      | none => cases vs <;> cases h
      | some k =>
        cases vs with
        | nil => cases h
        | cons v vs =>
          have h : (kE c m k && kE c m2 v && kPs c ms ks vs) = true := h
          obtain ⟨h, h3⟩ := and_inv h
          obtain ⟨h1, h2⟩ := and_inv h
          obtain ⟨k1, k2, k3, k4, k5⟩ := kPs_ok ms h3 o
          refine ⟨fun pos => pps_cons (pe_D (kE_ok m h1 o).pe) (pe_D (kE_ok m2 h2 o).pe) (k1 pos), by simp only [List.all_cons, k2]; rfl, congrArg (· + 1) k3, k4, ?_⟩
          show 2 * (ks.length + 1) = ms.len + 1 + 1
          omega
theorem kI_ok : ∀ (it : I) {c : Ck} {e : Expr}, kI c it e = true → ∀ {r : Rd} {X : Ctx} {Y : Cx}, CxOk r X c Y → ∀ tg, (it.lo = true → ∃ es k p, tg = .Tuple es k p) → PI Y tg e (tI r X it)
  | .seq m, c, e, h, r, X, Y, o, tg, _ => by
    have h : (kE c m e && _) = true := h
    exact pi_seqE o.K (kE_ok m (and_inv h).1 o).1
  | .rng1 a, c, e, h, r, X, Y, o, tg, _ => by
    rw [kI_rng1_eq] at h
    split at h
    · obtain ⟨h, h4⟩ := and_inv h
      obtain ⟨h, h3⟩ := and_inv h
      obtain ⟨h1, h2⟩ := and_inv h
      have := isN_eq h1
      subst this
      exact pi_rng1E (o.gl' h2) (o.blt _ (by simp [bltNames])) (kE_ok a h3 o).pe (star_ok h4) (star_ok h4)
    · cases h
  | .rng2 a b, c, e, h, r, X, Y, o, tg, _ => by
    rw [kI_rng2_eq] at h
    split at h
    · obtain ⟨h, h6⟩ := and_inv h
      obtain ⟨h, h5⟩ := and_inv h
      obtain ⟨h, h4⟩ := and_inv h
      obtain ⟨h, h3⟩ := and_inv h
      obtain ⟨h1, h2⟩ := and_inv h
      have := isN_eq h1
      subst this
      refine pi_rng2E (o.gl' h2) (o.blt _ (by simp [bltNames])) (kE_ok a h3 o).pe (kE_ok b h5 o).pe ?_ (star_ok h6) (star_ok h4) (star_ok h6)
      rw [star_ok h4, star_ok h6]
      rfl
    · cases h
  | .chars _, _, _, h, _, _, _, _, _, _ => by cases h
  | .keys _, _, _, h, _, _, _, _, _, _ => by cases h
  | .rng3 _ _ _, _, _, h, _, _, _, _, _, _ => by cases h
  | .enum a, c, e, h, r, X, Y, o, tg, ht => by
    rw [kI_enum_eq] at h
    split at h
    · obtain ⟨h, h4⟩ := and_inv h
      obtain ⟨h, h3⟩ := and_inv h
      obtain ⟨h1, h2⟩ := and_inv h
      have := isN_eq h1
      subst this
      obtain ⟨es, k, q, rfl⟩ := ht rfl
      exact pi_enumE o.K (o.gl' h2) (o.blt _ (by simp [bltNames])) (kE_ok a h3 o).pe (star_ok h4) (star_ok h4)
    · cases h
  | .zip a b, c, e, h, r, X, Y, o, tg, ht => by
    rw [kI_zip_eq] at h
    split at h
    · obtain ⟨h, h6⟩ := and_inv h
      obtain ⟨h, h5⟩ := and_inv h
      obtain ⟨h, h4⟩ := and_inv h
      obtain ⟨h, h3⟩ := and_inv h
      obtain ⟨h1, h2⟩ := and_inv h
      have := isN_eq h1
      subst this
      obtain ⟨es, k, q, rfl⟩ := ht rfl
      refine pi_zipE o.K (o.gl' h2) (o.blt _ (by simp [bltNames])) (kE_ok a h3 o).pe (kE_ok b h5 o).pe (star_ok h4) ?_ (star_ok h6)
      rw [star_ok h6]
      rfl
    · cases h
  | .items _, _, _, h, _, _, _, _, _, _ => by cases h
end
end MI

set_option maxRecDepth 100000
set_option maxHeartbeats 1900000
/-! MIx: the rows of an except clause. -/
namespace MI
open L2 PySem PyProof.Rows PySem.Spec
/-- the suite's refusal stands at slot n -/
def Hold (a : Addr) (n : Option Nat) (σ : St) : Prop := ∀ i, n = some i → σ[i]? = some (some (.ref a))
section
variable (r : Rd) (a : Addr) (cls : Value) (d : Option Addr) (n : Option Nat)
def tHx (val : Cl → List (Str × D) → Option D) : TE := fun σ H Q => ∃ c fs F Γ fps x, Good r.K F H σ Γ fps ∧ XR0 r.K c fs cls d F H ∧ Hold a n σ ∧ val c fs = some x ∧ ∀ v F' H', Step F H fps F' H' fps → Good r.K F' H' σ Γ fps → RD r.K F' v x → Q v H'
def tHxs (val : Cl → List (Str × D) → Option (List D)) : TA := fun σ H Q => ∃ c fs F Γ fps xs, Good r.K F H σ Γ fps ∧ XR0 r.K c fs cls d F H ∧ Hold a n σ ∧ val c fs = some xs ∧ ∀ vs F' H', Step F H fps F' H' fps → Good r.K F' H' σ Γ fps → RDs r.K F' vs xs → Q vs H'
def tHt (val : Cl → Option Bool) : TT := fun σ H Q => ∃ c fs F Γ fps b, Good r.K F H σ Γ fps ∧ XR0 r.K c fs cls d F H ∧ Hold a n σ ∧ val c = some b ∧ ∀ F' H', Step F H fps F' H' fps → Good r.K F' H' σ Γ fps → Q b H'
def tHS (fix : Nat → Bool) (m : S) : TS := fun En σ H => ∃ c fs F Γ fps, Good r.K F H σ Γ fps ∧ XR0 r.K c fs cls d F H ∧ Hold a n σ ∧ EvS r fix F H fps σ En (hS c fs m Γ)
def tHSs (fix : Nat → Bool) (m : Ss) : TS := fun En σ H => ∃ c fs F Γ fps, Good r.K F H σ Γ fps ∧ XR0 r.K c fs cls d F H ∧ Hold a n σ ∧ EvS r fix F H fps σ En (hSs c fs m Γ)
end
theorem EvS.seqK {r : Rd} {fix : Nat → Bool} {F H : Hp} {fps : Nat → List Addr} {σ : St} {En : Ends} {a : SR} {f : Env → SR} {P : St → Hp → Prop} (h : EvS r fix F H fps σ En (a.seq f)) (k : ∀ Γ1 F1 H1 fps1 σ1, Step F H fps F1 H1 fps1 → Kp fix σ σ1 → Good r.K F1 H1 σ1 Γ1 fps1 → EvS r fix F1 H1 fps1 σ1 En (f Γ1) → P σ1 H1) : EvS r fix F H fps σ { En with nx := P } a := by
  cases a with
  | nx Γ' => exact fun F2 H2 fps2 σ2 s g kp => k Γ' F2 H2 fps2 σ2 s kp g (EvS.step (sr := f Γ') h s kp)
  | rt o Γ' => exact h
  | bk Γ' => exact h
  | ct Γ' => exact h
  | exc c fs Γ' => exact h
  | bad => exact h
section
variable {r : Rd} {Y : Cx} {fix : Nat → Bool} {a : Addr} {oe : Obj} {pn : List (Addr × Obj)} {cls : Value} {d : Option Addr} {n : Option Nat} {e : Expr} {es : List Expr} {x y f z : Str} {p p2 p3 pos : Pos} {i k : Nat}
theorem px_cst {v : D} (h : kC v e = true) : PE (Y.suite a ((a, oe) :: pn)) e (tHx r a cls d n fun _ _ => some v) := by
  obtain ⟨w, pe, rd, _⟩ := kC_ok (Y := Y.suite a ((a, oe) :: pn)) h
  refine pe.imp fun σ H Q q => ?_
  obtain ⟨c, fs, F, Γ, fps, x, g, xr, hold, hx, k⟩ := q
  cases hx
  exact k w F H Step.refl g (rd _ _)
theorem px_att (hz : Zc cls d oe) (hf : ∃ vs, oe.data = .fields vs) (hK : r.K = Y.K) (hv : PE (Y.suite a ((a, oe) :: pn)) (.Name y p) (tVar i)) (hn : n = some i) (hfl : f ∈ fldN) : PE (Y.suite a ((a, oe) :: pn)) (.Attribute (.Name y p) f pos) (tHx r a cls d n fun _ fs => fs.lookup f) := by
  refine ⟨fun pi s σ H Q I q => ?_⟩
  obtain ⟨c, fs, F, Γ, fps, x, g, xr, hold, hx, k⟩ := q
  obtain ⟨h1, cl, dd, xfs, h3, h4, h5⟩ := xr
  obtain ⟨v, l, rd⟩ := h5 f x hx
  rw [hK] at cl
  have step := pe_xf (X := Y) (pn := pn) (pos := pos) cl.xf (cl.no f hfl) hz hf hv (base_ok rfl)
  exact step.run pi s σ H Q I ⟨.ref a, hold i hn, rfl, hK ▸ h1, dd, xfs, v, h3, g.sub _ _ h4, l, k v F H Step.refl g rd⟩
theorem pxs_nil : PA (Y.suite a ((a, oe) :: pn)) [] (tHxs r a cls d n fun _ _ => some []) := pa_nil.imp fun σ H Q q => by
  obtain ⟨c, fs, F, Γ, fps, xs, g, xr, hold, hx, k⟩ := q
  cases hx
  exact k [] F H Step.refl g .nil
theorem pxs_cons {v1 : Cl → List (Str × D) → Option D} {v2 : Cl → List (Str × D) → Option (List D)} (h1 : PE (Y.suite a ((a, oe) :: pn)) e (tHx r a cls d n v1)) (h2 : PA (Y.suite a ((a, oe) :: pn)) es (tHxs r a cls d n v2)) (hs : starEach (e :: es) Y.env = (false, eval e Y.env) :: starEach es Y.env) :
    PA (Y.suite a ((a, oe) :: pn)) (e :: es) (tHxs r a cls d n fun c fs => match v1 c fs, v2 c fs with | some x, some xs => some (x :: xs) | _, _ => none) := (pa_cons h1 h2 hs).imp fun σ H Q q => by
  obtain ⟨c, fs, F, Γ, fps, xs, g, xr, hold, hx, k⟩ := q
  dsimp only at hx
  split at hx
  · rename_i x xs2 e1 e2
    cases hx
    refine ⟨c, fs, F, Γ, fps, x, g, xr, hold, e1, fun v F1 H1 s1 g1 rd => ⟨c, fs, F1, Γ, fps, xs2, g1, xr.step s1.sub, hold, e2, fun vs F2 H2 s2 g2 rds => ?_⟩⟩
    exact k (v :: vs) F2 H2 (s1.trans s2) g2 (.cons (rd.mono s2.sub) rds)
  · cases hx
theorem px_tup {vals : Cl → List (Str × D) → Option (List D)} (h : PA (Y.suite a ((a, oe) :: pn)) es (tHxs r a cls d n vals)) (hl : ∀ c fs xs, vals c fs = some xs → xs.length ≤ 1000) : PE (Y.suite a ((a, oe) :: pn)) (.Tuple es k pos) (tHx r a cls d n fun c fs => (vals c fs).map .tuple) := (pe_tupN h).imp fun σ H Q q => by
  obtain ⟨c, fs, F, Γ, fps, x, g, xr, hold, hx, k⟩ := q
  rw [Option.map_eq_some_iff] at hx
  obtain ⟨xs, hx, rfl⟩ := hx
  refine ⟨c, fs, F, Γ, fps, xs, g, xr, hold, hx, fun vs F1 H1 s1 g1 rds => ?_⟩
  have few : vs.length ≤ sizeLine := by
    rw [rds.length]
    exact line1000 (hl c fs xs hx)
  refine ⟨few, fun p u hp nt => ?_⟩
  have s2 : Step F1 H1 fps (upd F1 p u) (upd H1 p u) fps := Step.newF hp g1.sub
  exact k (.ref p) _ _ (s1.trans s2) (g1.newF hp) (.tup (.at upd_same nt) few (rds.mono s2.sub))
/-! ### tests -/
theorem px_not {v : Cl → Option Bool} (h : PT (Y.suite a ((a, oe) :: pn)) e (tHt r a cls d n v)) : PT (Y.suite a ((a, oe) :: pn)) (.UnaryOp .Not e pos) (tHt r a cls d n fun c => match v c with | some b => some (!b) | none => none) := (pt_not h).imp fun σ H Q q => by
  obtain ⟨c, fs, F, Γ, fps, b, g, xr, hold, hx, k⟩ := q
  dsimp only at hx
  split at hx
  · rename_i b2 e1
    cases hx
    exact ⟨c, fs, F, Γ, fps, b2, g, xr, hold, e1, k⟩
  · cases hx
theorem px_and {e2 : Expr} {v1 v2 : Cl → Option Bool} (h1 : PT (Y.suite a ((a, oe) :: pn)) e (tHt r a cls d n v1)) (h2 : PT (Y.suite a ((a, oe) :: pn)) e2 (tHt r a cls d n v2)) : PT (Y.suite a ((a, oe) :: pn)) (.BoolOp .And [e, e2] pos) (tHt r a cls d n fun c => match v1 c with | some true => v2 c | some false => some false | none => none) := ((pw_and h1 (pw_and1 h2)).pt).imp fun σ H Q q => by
  obtain ⟨c, fs, F, Γ, fps, b, g, xr, hold, hx, k⟩ := q
  dsimp only at hx
  split at hx
  · rename_i e1
    refine ⟨c, fs, F, Γ, fps, true, g, xr, hold, e1, fun F1 H1 s1 g1 => ?_⟩
    show if true = true then _ else _
    rw [if_pos rfl]
    exact ⟨c, fs, F1, Γ, fps, b, g1, xr.step s1.sub, hold, hx, fun F2 H2 s2 g2 => k F2 H2 (s1.trans s2) g2⟩
  · rename_i e1
    cases hx
    refine ⟨c, fs, F, Γ, fps, false, g, xr, hold, e1, fun F1 H1 s1 g1 => ?_⟩
    show if false = true then _ else _
    rw [if_neg (by decide)]
    exact k F1 H1 s1 g1
  · cases hx
/-- isinstance(e, C) -/
theorem px_isx {cv : Value} {cc : V} {b : Cl → Bool} (hz : Zc cls d oe) (hf : ∃ vs, oe.data = .fields vs) (hK : r.K = Y.K) (hv : PE (Y.suite a ((a, oe) :: pn)) (.Name y p) (tVar i)) (hn : n = some i) (hc : PE (Y.suite a ((a, oe) :: pn)) e (tC cc)) (hu : ∀ u, RelV cc u → u = cv)
    (hb : ∀ c, ClOk r.K c → PySem.W.kitOne Y.K (.ref (c.ad Y.K)) cv = some (b c)) (hg : Gl Y "isinstance") (hm : Y.mg "isinstance" = none) (h1 : starEach [.Name y p, e] Y.env = (false, eval (.Name y p) Y.env) :: starEach [e] Y.env) (h2 : starEach [e] Y.env = (false, eval e Y.env) :: starEach [] Y.env) (h3 : (backTo pos (starEach [e] Y.env)).any (·.1) = false) :
    PT (Y.suite a ((a, oe) :: pn)) (.Call (.Name "isinstance" p2) [.Name y p, e] [] pos) (tHt r a cls d n fun c => some (b c)) := (pt_val (pe_callB (call_refusal hz hf) hg hm (by rfl) (pa_cons hv (pa_cons hc pa_nil h2) h1) (by decide) (by decide) h1 h3)).imp fun σ H Q q => by
  obtain ⟨c, fs, F, Γ, fps, b2, g, xr, hold, hx, k⟩ := q
  cases hx
  refine ⟨.ref a, hold i hn, c, fs, F, cc, cv, b c, hK ▸ xr, g.sub, rfl, hu, hb c xr.2.1, b c, rfl, k F H Step.refl g⟩
theorem kitAny_ok {K : PySem.W.Frag} {c : Cl} : ∀ (cs : List Cl), (∀ c2 ∈ cs, PySem.W.kitOne K (.ref (c.ad K)) (.ref (c2.ad K)) = some (c.sub c2)) → PySem.W.kitAny K (.ref (c.ad K)) (cs.map fun (z : Cl) => Value.ref (z.ad K)) = some (cs.any fun c2 => c.sub c2)
  | [], _ => rfl
  | c2 :: cs, h => by
    have h1 := h c2 (by simp)
    have ih := kitAny_ok (c := c) cs fun z hz => h z (by simp [hz])
    show (match PySem.W.kitOne K (.ref (c.ad K)) (.ref (c2.ad K)) with
      | some true => some true
      | some false => PySem.W.kitAny K (.ref (c.ad K)) (cs.map fun (z : Cl) => Value.ref (z.ad K))
      | none => none) = _
    rw [h1, List.any_cons]
    cases c.sub c2 with
    | true => rfl
    | false => exact ih
/-- a row of classes -/
theorem pcs_ok {cs : List Cl} {es : List Expr} (h : PA (Y.suite a ((a, oe) :: pn)) es (fun σ H Q => Q (cs.map fun (z : Cl) => V.ref (z.ad Y.K)) H)) (hz : Zc cls d oe) (hf : ∃ vs, oe.data = .fields vs) (hK : r.K = Y.K) (hv : PE (Y.suite a ((a, oe) :: pn)) (.Name y p) (tVar i)) (hn : n = some i) (hl : cs.length ≤ 1000)
    (hb : ∀ c, ClOk r.K c → ∀ c2 ∈ cs, PySem.W.kitOne Y.K (.ref (c.ad Y.K)) (.ref (c2.ad Y.K)) = some (c.sub c2)) (hg : Gl Y "isinstance") (hm : Y.mg "isinstance" = none) :
    PT (Y.suite a ((a, oe) :: pn)) (.Call (.Name "isinstance" p2) [.Name y p, .Tuple es k p3] [] pos) (tHt r a cls d n fun c => some (cs.any fun c2 => c.sub c2)) := (pt_val (pe_callB (call_refusals hz hf) hg hm (by rfl) (pa_cons hv (pa_cons (pe_tupN h) pa_nil)) (by decide) (by decide))).imp fun σ H Q q => by
  obtain ⟨c, fs, F, Γ, fps, b2, g, xr, hold, hx, k⟩ := q
  cases hx
  refine ⟨.ref a, hold i hn, by rw [List.length_map]; exact line1000 hl, fun p u hp nt => ?_⟩
  have s2 : Step F H fps (upd F p u) (upd H p u) fps := Step.newF hp g.sub
  have g2 := g.newF (u := u) hp
  exact ⟨c, fs, upd F p u, p, u, cs, _, hK ▸ xr.step s2.sub, g2.sub, rfl, upd_same, nt, kitAny_ok cs (hb c xr.2.1), _, rfl, k _ _ s2 g2⟩
end
end MI

set_option maxRecDepth 100000
set_option maxHeartbeats 1900000
/-! MIy: an except clause's text against its mini form. -/
namespace MI
open L2 PySem PyProof.Rows PySem.Spec
def isAt (n : Option Nat) (i : Nat) : Bool := match n with
  | some j => Nat.beq j i
  | none => false
theorem isAt_ok {n : Option Nat} {i : Nat} (h : isAt n i = true) : n = some i := by
  unfold isAt at h
  split at h
  · rw [Nat.eq_of_beq_eq_true h]
  · cases h
def kHA (c : Ck) (n : Option Nat) (m : E) (e : Expr) : Bool := match m with
  | .cst x => kC x e
  | .att i f => match e with
    | .Attribute (.Name y _) g _ => isAt n i && (c.var i y && (sEq g f && fldN.any (sEq f)))
    | _ => false
  | _ => false
def kHAs (c : Ck) (n : Option Nat) : Es → List Expr → Bool
  | .nil, es => es.isEmpty
  | .cons m ms, es => match es with
    | e :: es => kHA c n m e && (noStar e && kHAs c n ms es)
    | [] => false
def kHE (c : Ck) (n : Option Nat) (m : E) (e : Expr) : Bool := match m with
  | .tup ms => match e with
    | .Tuple es _ _ => kHAs c n ms es && Nat.ble ms.len 1000
    | _ => false
  | m => kHA c n m e
def kCl1 (c : Ck) (cl : Cl) (e : Expr) : Bool := match e with
  | .Name w _ => sEq w cl.name && (c.gl w && (plainN w && (allCl.any (fun z => decide (z = cl)) && c.tb.xs.any (sEq cl.name))))
  | _ => false
def kCls (c : Ck) : List Cl → List Expr → Bool
  | [], es => es.isEmpty
  | cl :: cs, es => match es with
    | e :: es => kCl1 c cl e && (noStar e && kCls c cs es)
    | [] => false
def kArg (c : Ck) (cs : List Cl) (arg : Expr) : Bool := match arg with
  | .Tuple es _ _ => kCls c cs es && Nat.ble cs.length 1000
  | .Name w p => (match cs with
    | [.valueError] => isN "ValueError" w && c.gl w
    | [cl] => kCl1 c cl (.Name w p)
    | _ => false)
  | _ => false
def kHT (c : Ck) (n : Option Nat) : E → Expr → Bool
  | .isx i cs, e => match e with
    | .Call (.Name z _) [.Name y _, arg] [] _ => isN "isinstance" z && (c.gl z && (isAt n i && (c.var i y && kArg c cs arg)))
    | _ => false
  | .not a, e => match e with
    | .UnaryOp .Not b _ => kHT c n a b
    | _ => false
  | .and a b, e => match e with
    | .BoolOp .And [x, y] _ => kHT c n a x && kHT c n b y
    | _ => false
  | _, _ => false
mutual
def kHS (c : Ck) (n : Option Nat) (fix : Nat → Bool) : S → Stmt → Bool
  | .asg i m, st => match st with
    | .Assign [.Name x _] e _ => c.tgt i x && (!fix i && (kHE c n m e && noLc e))
    | _ => false
  | .ret m, st => match st with
    | .Return (some e) _ => kHE c n m e
    | _ => false
  | .retn, st => match st with
    | .Return none _ => true
    | _ => false
  | .pass, st => match st with
    | .Pass _ => true
    | _ => false
  | .ife t a b, st => match st with
    | .If e s1 s2 _ => kHT c n t e && (kHSs c n fix a s1 && kHSs c n fix b s2)
    | _ => false
  | _, _ => false
def kHSs (c : Ck) (n : Option Nat) (fix : Nat → Bool) : Ss → List Stmt → Bool
  | .nil, sts => sts.isEmpty
  | .cons m ms, sts => match sts with
    | st :: sts => kHS c n fix m st && kHSs c n fix ms sts
    | [] => false
end
theorem kq_0 (c : Ck) (n : Option Nat) (j : Nat) (f : Str) (e : Expr) : kHA c n (.att j f) e = (match e with
    | .Attribute (.Name y _) g _ => isAt n j && (c.var j y && (sEq g f && fldN.any (sEq f)))
    | _ => false) := rfl
theorem kq_1 (c : Ck) (n : Option Nat) (ms : Es) (e : Expr) : kHE c n (.tup ms) e = (match e with
    | .Tuple es _ _ => kHAs c n ms es && Nat.ble ms.len 1000
    | _ => false) := rfl
theorem kq_2 (c : Ck) (n : Option Nat) (j : Nat) (cs : List Cl) (e : Expr) : kHT c n (.isx j cs) e = (match e with
    | .Call (.Name z _) [.Name y _, arg] [] _ => isN "isinstance" z && (c.gl z && (isAt n j && (c.var j y && kArg c cs arg)))
    | _ => false) := rfl
theorem kq_3 (c : Ck) (n : Option Nat) (m : E) (e : Expr) : kHT c n (.not m) e = (match e with
    | .UnaryOp .Not b _ => kHT c n m b
    | _ => false) := rfl
theorem kq_4 (c : Ck) (n : Option Nat) (m1 m2 : E) (e : Expr) : kHT c n (.and m1 m2) e = (match e with
    | .BoolOp .And [x, y] _ => kHT c n m1 x && kHT c n m2 y
    | _ => false) := rfl
theorem kq_5 (c : Ck) (n : Option Nat) (fix : Nat → Bool) (i : Nat) (m : E) (st : Stmt) : kHS c n fix (.asg i m) st = (match st with
    | .Assign [.Name x _] e _ => c.tgt i x && (!fix i && (kHE c n m e && noLc e))
    | _ => false) := rfl
theorem kq_6 (c : Ck) (n : Option Nat) (fix : Nat → Bool) (m : E) (st : Stmt) : kHS c n fix (.ret m) st = (match st with
    | .Return (some e) _ => kHE c n m e
    | _ => false) := rfl
theorem kq_7 (c : Ck) (n : Option Nat) (fix : Nat → Bool) (st : Stmt) : kHS c n fix .retn st = (match st with
    | .Return none _ => true
    | _ => false) := rfl
theorem kq_8 (c : Ck) (n : Option Nat) (fix : Nat → Bool) (st : Stmt) : kHS c n fix .pass st = (match st with
    | .Pass _ => true
    | _ => false) := rfl
theorem kq_9 (c : Ck) (n : Option Nat) (fix : Nat → Bool) (t : E) (ma mb : Ss) (st : Stmt) : kHS c n fix (.ife t ma mb) st = (match st with
    | .If e s1 s2 _ => kHT c n t e && (kHSs c n fix ma s1 && kHSs c n fix mb s2)
    | _ => false) := rfl
section
variable {r : Rd} {X : Ctx} {Y : Cx} {c : Ck} {fix : Nat → Bool} {a : Addr} {oe : Obj} {pn : List (Addr × Obj)} {cls : Value} {d : Option Addr} {n : Option Nat} {e : Expr} {es : List Expr} {x y : Str} {p pos : Pos} {i : Nat}
theorem CxOk.varS (o : CxOk r X c Y) (h : c.var i x = true) : PE (Y.suite a ((a, oe) :: pn)) (.Name x p) (tVar i) := by
  simp only [Ck.var, Bool.and_eq_true] at h
  refine pe_var (X := Y.suite a ((a, oe) :: pn)) (show Y.N[i]? = some x by rw [o.N]; exact atS_eq h.1.1) ?_ (plainN_ok h.2).1 (plainN_ok h.2).2.1
  show Vis Y.env.scope x
  rw [o.sc]
  exact Ck.vis_ok h.1.2
theorem kHA_ok {m : E} (h : kHA c n m e = true) (o : CxOk r X c Y) (hz : Zc cls d oe) (hf : ∃ vs, oe.data = .fields vs) : PE (Y.suite a ((a, oe) :: pn)) e (tHx r a cls d n fun _ fs => hAtom fs m) := by
  cases m with
  | cst v => exact px_cst h
  | att j f =>
    rw [kq_0] at h
    split at h
    · obtain ⟨h1, h⟩ := and_inv h
      obtain ⟨h2, h⟩ := and_inv h
      obtain ⟨h3, h4⟩ := and_inv h
      have h3 := sEq_eq h3
      subst h3
      obtain ⟨g, hg, eg⟩ := List.any_eq_true.mp h4
      have eg := sEq_eq eg
      subst eg
      exact px_att hz hf o.K (o.varS h2) (isAt_ok h1) hg
    · cases h
  | _ => cases h
theorem kHAs_ok : ∀ {ms : Es} {es : List Expr}, kHAs c n ms es = true → CxOk r X c Y → Zc cls d oe → (∃ vs, oe.data = .fields vs) → PA (Y.suite a ((a, oe) :: pn)) es (tHxs r a cls d n fun _ fs => hAtoms fs ms)
  | .nil, es, h, o, hz, hf => by
    cases es with
    | nil => exact pxs_nil
    | cons _ _ => cases h
  | .cons m ms, es, h, o, hz, hf => by
    cases es with
    | nil => cases h
    | cons e es =>
      obtain ⟨h1, h⟩ := and_inv (show (kHA c n m e && (noStar e && kHAs c n ms es)) = true from h)
      obtain ⟨h2, h3⟩ := and_inv h
      exact pxs_cons (kHA_ok h1 o hz hf) (kHAs_ok h3 o hz hf) (star_ok h2)
theorem hAtoms_len {fs : List (Str × D)} : ∀ {ms : Es} {xs : List D}, hAtoms fs ms = some xs → xs.length = ms.len
  | .nil, xs, h => by cases h; rfl
  | .cons m ms, xs, h => by
    unfold hAtoms at h
    split at h
    · rename_i y ys e1 e2
      cases h
      show ys.length + 1 = ms.len + 1
      rw [hAtoms_len e2]
    · cases h
theorem kHE_ok {m : E} (h : kHE c n m e = true) (o : CxOk r X c Y) (hz : Zc cls d oe) (hf : ∃ vs, oe.data = .fields vs) : PE (Y.suite a ((a, oe) :: pn)) e (tHx r a cls d n fun _ fs => hE fs m) := by
  cases m with
  | tup ms =>
    rw [kq_1] at h
    split at h
    · obtain ⟨h1, h2⟩ := and_inv h
      exact px_tup (kHAs_ok h1 o hz hf) fun _ fs xs hx => by
        rw [hAtoms_len hx]
        exact Nat.le_of_ble_eq_true h2
    · cases h
  | cst v => exact kHA_ok (m := .cst v) h o hz hf
  | att j f => exact kHA_ok (m := .att j f) h o hz hf
  | _ => cases h
theorem kCl1_ok {cl : Cl} (h : kCl1 c cl e = true) (o : CxOk r X c Y) : PE (Y.suite a ((a, oe) :: pn)) e (tC (.ref (cl.ad Y.K))) ∧ cl ∈ allCl ∧ hasCl Y.K cl = true := by
  unfold kCl1 at h
  split at h
  · obtain ⟨h1, h⟩ := and_inv h
    obtain ⟨h2, h⟩ := and_inv h
    obtain ⟨h3, h⟩ := and_inv h
    obtain ⟨h4, h5⟩ := and_inv h
    have h1 := sEq_eq h1
    subst h1
    obtain ⟨z, hz, ez⟩ := List.any_eq_true.mp h4
    have ez := of_decide_eq_true ez
    subst ez
    obtain ⟨m1, m2⟩ := o.xs z hz h5
    exact ⟨pe_glob (X := Y.suite a ((a, oe) :: pn)) (o.gl' h2) m1 rfl (plainN_ok h3).1, hz, m2⟩
  · cases h
theorem kCls_ok : ∀ {cs : List Cl} {es : List Expr}, kCls c cs es = true → CxOk r X c Y → PA (Y.suite a ((a, oe) :: pn)) es (fun σ H Q => Q (cs.map fun (z : Cl) => V.ref (z.ad Y.K)) H) ∧ ∀ cl ∈ cs, cl ∈ allCl ∧ hasCl Y.K cl = true
  | [], es, h, o => by
    cases es with
    | nil => exact ⟨pa_nil, fun _ z => absurd z (List.not_mem_nil)⟩
    | cons _ _ => cases h
  | cl :: cs, es, h, o => by
    cases es with
    | nil => cases h
    | cons e es =>
      obtain ⟨h1, h⟩ := and_inv (show (kCl1 c cl e && (noStar e && kCls c cs es)) = true from h)
      obtain ⟨h2, h3⟩ := and_inv h
      obtain ⟨p1, m1, m2⟩ := kCl1_ok (a := a) (oe := oe) (pn := pn) h1 o
      obtain ⟨p2, m3⟩ := kCls_ok (es := es) h3 o
      refine ⟨(pa_cons p1 p2 (star_ok h2)).imp fun σ H Q q => q, fun z hz => ?_⟩
      rcases List.mem_cons.mp hz with rfl | hzz
      · exact ⟨m1, m2⟩
      · exact m3 z hzz
theorem kit_of {K : PySem.W.Frag} {c c2 : Cl} (k : ClOk K c) (h1 : c2 ∈ allCl) (h2 : hasCl K c2 = true) : PySem.W.kitOne K (.ref (c.ad K)) (.ref (c2.ad K)) = some (c.sub c2) := of_decide_eq_true (and_inv (k.kn c2 h1 h2)).2
theorem exm_of {K : PySem.W.Frag} {c c2 : Cl} (k : ClOk K c) (h1 : c2 ∈ allCl) (h2 : hasCl K c2 = true) : PySem.W.exmOne K (.ref (c.ad K)) (.ref (c2.ad K)) = some (c.sub c2) := of_decide_eq_true (and_inv (k.kn c2 h1 h2)).1
theorem sub_ve (c : Cl) : c.sub .valueError = true := by cases c <;> rfl
theorem kHT_ok : ∀ (m : E) {e : Expr}, kHT c n m e = true → CxOk r X c Y → Zc cls d oe → (∃ vs, oe.data = .fields vs) → PT (Y.suite a ((a, oe) :: pn)) e (tHt r a cls d n fun cl => hT cl m)
  | .isx j cs, e, h, o, hz, hf => by
    rw [kq_2] at h
    split at h
    · rename_i z pz y py arg pc
      obtain ⟨h1, h⟩ := and_inv h
      obtain ⟨h2, h⟩ := and_inv h
      obtain ⟨h3, h⟩ := and_inv h
      obtain ⟨h4, h5⟩ := and_inv h
      have h1 := isN_eq h1
      subst h1
      have hm := o.blt "isinstance" (by decide)
      unfold kArg at h5
      split at h5
      · obtain ⟨k1, k2⟩ := and_inv h5
        obtain ⟨q1, q2⟩ := kCls_ok (a := a) (oe := oe) (pn := pn) k1 o
        exact pcs_ok q1 hz hf o.K (o.varS h4) (isAt_ok h3) (Nat.le_of_ble_eq_true k2) (fun cl k c2 hc2 => kit_of (o.K ▸ k) (q2 c2 hc2).1 (q2 c2 hc2).2) (o.gl' h2) hm
      · split at h5
        · obtain ⟨k1, k2⟩ := and_inv h5
          have k1 := isN_eq k1
          subst k1
          have pv := fun (pp : Pos) => pe_bltn (X := Y.suite a ((a, oe) :: pn)) (pos := pp) (v := .ty "ValueError") (u := .type "ValueError") (o.gl' k2) (o.blt "ValueError" (by decide)) (by rfl) rfl (by decide) (by decide)
          refine PT.imp (px_isx (cv := .type "ValueError") (b := fun _ => true) hz hf o.K (o.varS h4) (isAt_ok h3) (pv _) (fun u hu => hu) (fun cl k => (o.K ▸ k : ClOk Y.K cl).ve) (o.gl' h2) hm (by rfl) (by rfl) (by rfl)) fun σ H Q q => ?_
          obtain ⟨cl, fs, F, Γ, fps, b, g, xr, hold, hx, k⟩ := q
          have : hT cl (.isx j [.valueError]) = some true := by
            show some (cl.sub .valueError || false) = _
            rw [sub_ve]
            rfl
          dsimp only at hx
          rw [this] at hx
          exact ⟨cl, fs, F, Γ, fps, b, g, xr, hold, hx, k⟩
        · rename_i cl hh1 hh2 hh3 hne
          obtain ⟨q1, q2, q3⟩ := kCl1_ok (a := a) (oe := oe) (pn := pn) h5 o
          refine PT.imp (px_isx (cv := .ref (cl.ad Y.K)) (b := fun z => z.sub cl) hz hf o.K (o.varS h4) (isAt_ok h3) q1 (fun u hu => hu) (fun z k => kit_of (o.K ▸ k) q2 q3) (o.gl' h2) hm (by rfl) (by rfl) (by rfl)) fun σ H Q q => ?_
          obtain ⟨z, fs, F, Γ, fps, b, g, xr, hold, hx, k⟩ := q
          have : hT z (.isx j [cl]) = some (z.sub cl) := by
            show some (z.sub cl || false) = _
            rw [Bool.or_false]
          dsimp only at hx
          rw [this] at hx
          exact ⟨z, fs, F, Γ, fps, b, g, xr, hold, hx, k⟩
        · cases h5
      · cases h5
    · cases h
  | .not m, e, h, o, hz, hf => by
    rw [kq_3] at h
    split at h
    · exact px_not (kHT_ok m h o hz hf)
    · cases h
  | .and m1 m2, e, h, o, hz, hf => by
    rw [kq_4] at h
    split at h
    · obtain ⟨h1, h2⟩ := and_inv h
      exact px_and (kHT_ok m1 h1 o hz hf) (kHT_ok m2 h2 o hz hf)
    · cases h
  | .var _, _, h, _, _, _ | .cst _, _, h, _, _, _ | .glob _, _, h, _, _, _ | .bin _ _ _, _, h, _, _, _ | .neg _, _, h, _, _, _ | .or _ _, _, h, _, _, _ | .cmp _ _ _, _, h, _, _, _ | .chain _ _ _ _ _, _, h, _, _, _ | .ite _ _ _, _, h, _, _, _ | .tup _, _, h, _, _, _ | .lst _, _, h, _, _, _ | .lls _, _, h, _, _, _ | .dct _, _, h, _, _, _ | .lc _ _ _ _ _, _, h, _, _, _ | .idx _ _, _, h, _, _, _ | .slh _ _, _, h, _, _, _ | .sll _ _, _, h, _, _, _ | .slb _ _ _, _, h, _, _, _ | .scut _ _, _, h, _, _, _ | .rev _, _, h, _, _, _ | .call _ _, _, h, _, _, _ | .blt _ _, _, h, _, _, _ | .blts _ _, _, h, _, _, _ | .mth _ _ _, _, h, _, _, _ | .pop _, _, h, _, _, _ | .popat _ _, _, h, _, _, _ | .att _ _, _, h, _, _, _ | .isi _ _, _, h, _, _, _ | .llnil _, _, h, _, _, _ => by cases h
theorem swapH {t : Option Expr} {l : Nat} {env : PySem.Env} (h : noLc e = true) : swapsWith e t l env = pure false := by
  cases e <;> first | rfl | cases h
mutual
theorem kHS_ok : ∀ (m : S) {st : Stmt}, kHS c n fix m st = true → CxOk r X c Y → Zc cls d oe → (∃ vs, oe.data = .fields vs) → (∀ i, n = some i → fix i = true) → PS (Y.suite a ((a, oe) :: pn)) st (tHS r a cls d n fix m)
  | .asg i m, st, h, o, hz, hf, hn => by
    rw [kq_5] at h
    split at h
    · obtain ⟨h1, h⟩ := and_inv h
      obtain ⟨h2, h⟩ := and_inv h
      obtain ⟨h3, h4⟩ := and_inv h
      have h2 : fix i = false := by simpa using h2
      simp only [Ck.tgt, Bool.and_eq_true] at h1
      refine (ps_set (X := Y.suite a ((a, oe) :: pn)) (i := i) o.nd (by rw [show (Y.suite a ((a, oe) :: pn)).N = Y.N from rfl, o.N]; exact atS_eq h1.1.1) (by show Loc Y.env.scope _; rw [o.sc]; exact Ck.loc_ok h1.1.2) (kHE_ok h3 o hz hf) (swapH h4) (o.fn _ h1.2)).imp fun En σ H q => ?_
      obtain ⟨cl, fs, F, Γ, fps, g, xr, hold, q⟩ := q
      have q : EvS r fix F H fps σ En (match hE fs m with
        | some x => .nx (Γ.set i (some (.d x)))
        | none => .bad) := q
      cases hx : hE fs m with
      | none => rw [hx] at q; exact q.elim
      | some x =>
        rw [hx] at q
        refine ⟨cl, fs, F, Γ, fps, x, g, xr, hold, hx, fun v F1 H1 s1 g1 rd => ?_⟩
        obtain ⟨fps2, g2, s2⟩ := g1.putT s1 (Tmp.data rd) i
        exact q F1 H1 fps2 _ s2 g2 (Kp.set h2)
    · cases h
  | .ret m, st, h, o, hz, hf, hn => by
    rw [kq_6] at h
    split at h
    · refine (ps_ret (kHE_ok h o hz hf)).imp fun En σ H q => ?_
      obtain ⟨cl, fs, F, Γ, fps, g, xr, hold, q⟩ := q
      have q : EvS r fix F H fps σ En (match hE fs m with
        | some x => .rt (.d x) Γ
        | none => .bad) := q
      cases hx : hE fs m with
      | none => rw [hx] at q; exact q.elim
      | some x =>
        rw [hx] at q
        exact ⟨cl, fs, F, Γ, fps, x, g, xr, hold, hx, fun v F1 H1 s1 g1 rd => q F1 H1 fps σ v [] s1 g1 Kp.refl (Tmp.data rd)⟩
    · cases h
  | .retn, st, h, o, hz, hf, hn => by
    rw [kq_7] at h
    split at h
    · refine ps_retN.imp fun En σ H q => ?_
      obtain ⟨cl, fs, F, Γ, fps, g, xr, hold, q⟩ := q
      have q : EvS r fix F H fps σ En (.rt (.d .none) Γ) := q
      exact q F H fps σ .non [] Step.refl g Kp.refl (Tmp.data .non)
    · cases h
  | .pass, st, h, o, hz, hf, hn => by
    rw [kq_8] at h
    split at h
    · refine ps_pass.imp fun En σ H q => ?_
      obtain ⟨cl, fs, F, Γ, fps, g, xr, hold, q⟩ := q
      have q : EvS r fix F H fps σ En (.nx Γ) := q
      exact q.nx g
    · cases h
  | .ife t ma mb, st, h, o, hz, hf, hn => by
    rw [kq_9] at h
    split at h
    · obtain ⟨h1, h⟩ := and_inv h
      obtain ⟨h2, h3⟩ := and_inv h
      refine (ps_if (kHT_ok t h1 o hz hf) (kHSs_ok ma h2 o hz hf hn) (kHSs_ok mb h3 o hz hf hn)).imp fun En σ H q => ?_
      obtain ⟨cl, fs, F, Γ, fps, g, xr, hold, q⟩ := q
      have q : EvS r fix F H fps σ En (match hT cl t with
        | some true => hSs cl fs ma Γ
        | some false => hSs cl fs mb Γ
        | none => .bad) := q
      cases hx : hT cl t with
      | none => rw [hx] at q; exact q.elim
      | some b =>
        rw [hx] at q
        refine ⟨cl, fs, F, Γ, fps, b, g, xr, hold, hx, fun F1 H1 s1 g1 => ?_⟩
        cases b with
        | true => exact iteT ⟨cl, fs, F1, Γ, fps, g1, xr.step s1.sub, hold, EvS.step (sr := hSs cl fs ma Γ) q s1 Kp.refl⟩
        | false => exact iteF ⟨cl, fs, F1, Γ, fps, g1, xr.step s1.sub, hold, EvS.step (sr := hSs cl fs mb Γ) q s1 Kp.refl⟩
    · cases h
  | .expr _, _, h, _, _, _, _ | .tasg _ _, _, h, _, _, _, _ | .par _ _, _, h, _, _, _, _ | .set _ _ _, _, h, _, _, _, _ | .app _ _, _, h, _, _, _, _ | .appl _ _, _, h, _, _, _, _ | .ext _ _, _, h, _, _, _, _ | .app2 _ _ _, _, h, _, _, _, _ | .ins _ _ _, _, h, _, _, _, _ | .clr _, _, h, _, _, _, _ | .revs _, _, h, _, _, _, _ | .upd _ _, _, h, _, _, _, _ | .for _ _ _, _, h, _, _, _, _ | .whl _ _, _, h, _, _, _, _ | .retv _, _, h, _, _, _, _ | .brk, _, h, _, _, _, _ | .cont, _, h, _, _, _, _ | .raise _ _, _, h, _, _, _, _ | .dead, _, h, _, _, _, _ | .try _ _ _ _, _, h, _, _, _, _ => by cases h
theorem kHSs_ok : ∀ (m : Ss) {sts : List Stmt}, kHSs c n fix m sts = true → CxOk r X c Y → Zc cls d oe → (∃ vs, oe.data = .fields vs) → (∀ i, n = some i → fix i = true) → PSs (Y.suite a ((a, oe) :: pn)) sts (tHSs r a cls d n fix m)
  | .nil, sts, h, o, hz, hf, hn => by
    cases sts with
    | nil =>
      refine pss_nil.imp fun En σ H q => ?_
      obtain ⟨cl, fs, F, Γ, fps, g, xr, hold, q⟩ := q
      have q : EvS r fix F H fps σ En (.nx Γ) := q
      exact q.nx g
    | cons _ _ => cases h
  | .cons m ms, sts, h, o, hz, hf, hn => by
    cases sts with
    | nil => cases h
    | cons st sts =>
      obtain ⟨h1, h2⟩ := and_inv (show (kHS c n fix m st && kHSs c n fix ms sts) = true from h)
      refine (pss_cons (kHS_ok m h1 o hz hf hn) (kHSs_ok ms h2 o hz hf hn)).imp fun En σ H q => ?_
      obtain ⟨cl, fs, F, Γ, fps, g, xr, hold, q⟩ := q
      have q : EvS r fix F H fps σ En ((hS cl fs m Γ).seq (hSs cl fs ms)) := q
      exact ⟨cl, fs, F, Γ, fps, g, xr, hold, q.seqK fun Γ1 F1 H1 fps1 σ1 s1 kp g1 k => ⟨cl, fs, F1, Γ1, fps1, g1, xr.step s1.sub, fun i e => by rw [kp i (hn i e)]; exact hold i e, k⟩⟩
end
end
end MI

set_option maxRecDepth 100000
/-! MI17: checked statements do what the mini program does. -/
namespace MI
open L2 PySem PyProof.Rows PySem.Spec
def fxAt (fx : List Bool) (i : Nat) : Bool := fx.getD i false
def noTup : Expr → Bool
  | .Tuple _ _ _ => false
  | _ => true
/-- a value that goes to a plain name -/
def kVal (c : Ck) (x : Str) (p : Pos) (e : Expr) : Bool := match e with
  | .ListComp _ _ scope lp => c.isLocal x && Nat.beq p.line lp.line && !(scope.names.any fun y => sEq y.1 x)
  | e => noLc e
/-- a tuple of written constants -/
def tupFold : Expr → Bool
  | .Tuple vs _ _ => vs.all (foldedForSure 8)
  | _ => false
/-- two names get two values -/
def kPar (c : Ck) (fx : List Bool) (is : List Nat) (es : Es) (st : Stmt) : Bool := match is with
  | [i, j] => (match es with
    | .cons ma (.cons mb .nil) => (match st with
      | .Assign [.Tuple [.Name x px, .Name y py] _ _] (.Tuple [a, b] _ _) _ =>
        (atS c.N i x && (c.isLocal x && !fxAt fx i)) && ((atS c.N j y && (c.isLocal y && !fxAt fx j)) && (Nat.beq py.line px.line && (!Nat.beq i j && ((kE c ma a && noStar a) && ((kE c mb b && noStar b) && (!(foldedForSure 8 a && foldedForSure 8 b) && !(constantsAlone 8 a && constantsAlone 8 b)))))))
      | _ => false)
    | _ => false)
  | _ => false
/-- the name of an except clause -/
def kNm (c : Ck) (fx : List Bool) (n : Option Nat) (nm : Option Str) : Bool := match n, nm with
  | none, none => true
  | some i, some y => atS c.N i y && (c.isLocal y && !fxAt fx i)
  | _, _ => false
mutual
def kS (c : Ck) (fx : List Bool) : S → Stmt → Bool
  | .expr m, st => match st with
    | .Expr e _ => kE c m e && noLc e
    | _ => false
  | .asg i m, st => match st with
    | .Assign [.Name x p] e _ => c.tgt i x && !fxAt fx i && kE c m e && kVal c x p e
    | _ => false
  | .tasg is m, st => match st with
    | .Assign [.Tuple es _ _] e _ => kNames c is es && is.all (fun j => !fxAt fx j) && kE c m e && (noTup e || tupFold e) && noLc e
    | _ => false
  | .par is es, st => kPar c fx is es st
  | .set i k m, st => match st with
    | .Assign [.Subscript (.Name x _) a _] e _ => c.var i x && kE c k a && kE c m e
    | _ => false
  | .app i m, st => match st with
    | .Expr (.Call (.Attribute (.Name x _) name apos) [e] [] cpos) _ => c.var i x && isN "append" name && Nat.beq apos.endLine cpos.line && kE c m e && noStar e
    | _ => false
  | .appl i m, st => match st with
    | .Expr (.Call (.Attribute (.Name x _) name apos) [e] [] cpos) _ => c.var i x && isN "append" name && Nat.beq apos.endLine cpos.line && kE c m e && noStar e
    | _ => false
  | .ext i m, st => match st with
    | .Expr (.Call (.Attribute (.Name x _) name apos) [e] [] cpos) _ => c.var i x && isN "extend" name && Nat.beq apos.endLine cpos.line && kE c m e && noStar e
    | _ => false
  | .app2 i k m, st => match st with
    | .Expr (.Call (.Attribute (.Subscript (.Name x _) ji _) name apos) [.Name y _] [] cpos) _ => (match m with | .var h => c.var h y | _ => false) && c.var i x && isN "append" name && Nat.beq apos.endLine cpos.line && kE c k ji && noSlice ji
    | _ => false
  | .ins _ _ _, _ => false
  | .clr _, _ => false
  | .revs _, _ => false
  | .upd _ _, _ => false
  | .ife m a b, st => match st with
    | .If e s t _ => kE c m e && noIf e && kSs c fx a s && kSs c fx b t
    | _ => false
  | .for t it b, st => match st with
    | .For tg iter body [] _ => kT c t tg && t.slots.all (fun j => !fxAt fx j) && tpOnly it.lo t && kI c it iter && noSet iter && kSs c fx b body
    | _ => false
  | .whl m b, st => match st with
    | .While e body [] _ => kE c m e && noIf e && kSs c fx b body
    | _ => false
  | .ret m, st => match st with
    | .Return (some e) _ => kE c m e
    | _ => false
  | .retv i, st => match st with
    | .Return (some (.Name x _)) _ => c.var i x
    | _ => false
  | .retn, st => match st with
    | .Return none _ => true
    | _ => false
  | .pass, st => match st with
    | .Pass _ => true
    | _ => false
  | .brk, st => match st with
    | .Break _ => true
    | _ => false
  | .cont, st => match st with
    | .Continue _ => true
    | _ => false
  | .raise cl ms, st => match st with
    | .Raise (some (.Call (.Name x _) (e :: es) [] _)) none _ => sEq x cl.name && (c.gl x && (plainN x && (c.tb.xs.any (sEq cl.name) && (!cl.flds.isEmpty && (kEs c ms (e :: es))))))
    | _ => false
  | .dead, st => match st with
    | .Raise _ _ _ => true
    | _ => false
  | .try b cl n h, st => match st with
    | .Try body [.ExceptHandler (some (.Name x _)) nm (b0 :: suite) _] [] [] _ => sEq x cl.name && (c.gl x && (plainN x && (c.tb.xs.any (sEq cl.name) && (allCl.any (fun z => decide (z = cl)) && (kSs c fx b body && (kNm c fx n nm && kHSs c n (fun j => fxAt fx j || isAt n j) h (b0 :: suite)))))))
    | _ => false
def kSs (c : Ck) (fx : List Bool) : Ss → List Stmt → Bool
  | .nil, sts => match sts with
    | [] => true
    | _ :: _ => false
  | .cons m ms, sts => match sts with
    | st :: sts => kS c fx m st && kSs c fx ms sts
    | [] => false
end
theorem kS_asg_eq (c : Ck) (fx : List Bool) (i : Nat) (m : E) (st : Stmt) : kS c fx (.asg i m) st = (match st with
    | .Assign [.Name x p] e _ => c.tgt i x && !fxAt fx i && kE c m e && kVal c x p e
    | _ => false) := rfl
theorem kS_tasg_eq (c : Ck) (fx : List Bool) (is : List Nat) (m : E) (st : Stmt) : kS c fx (.tasg is m) st = (match st with
    | .Assign [.Tuple es _ _] e _ => kNames c is es && is.all (fun j => !fxAt fx j) && kE c m e && (noTup e || tupFold e) && noLc e
    | _ => false) := rfl
theorem kS_set_eq (c : Ck) (fx : List Bool) (i : Nat) (k m : E) (st : Stmt) : kS c fx (.set i k m) st = (match st with
    | .Assign [.Subscript (.Name x _) a _] e _ => c.var i x && kE c k a && kE c m e
    | _ => false) := rfl
theorem kS_app_eq (c : Ck) (fx : List Bool) (i : Nat) (m : E) (st : Stmt) : kS c fx (.app i m) st = (match st with
    | .Expr (.Call (.Attribute (.Name x _) name apos) [e] [] cpos) _ => c.var i x && isN "append" name && Nat.beq apos.endLine cpos.line && kE c m e && noStar e
    | _ => false) := rfl
theorem kS_appl_eq (c : Ck) (fx : List Bool) (i : Nat) (m : E) (st : Stmt) : kS c fx (.appl i m) st = (match st with
    | .Expr (.Call (.Attribute (.Name x _) name apos) [e] [] cpos) _ => c.var i x && isN "append" name && Nat.beq apos.endLine cpos.line && kE c m e && noStar e
    | _ => false) := rfl
theorem kS_app2_eq (c : Ck) (fx : List Bool) (i : Nat) (k m : E) (st : Stmt) : kS c fx (.app2 i k m) st = (match st with
    | .Expr (.Call (.Attribute (.Subscript (.Name x _) ji _) name apos) [.Name y _] [] cpos) _ => (match m with | .var h => c.var h y | _ => false) && c.var i x && isN "append" name && Nat.beq apos.endLine cpos.line && kE c k ji && noSlice ji
    | _ => false) := rfl
theorem kS_ext_eq (c : Ck) (fx : List Bool) (i : Nat) (m : E) (st : Stmt) : kS c fx (.ext i m) st = (match st with
    | .Expr (.Call (.Attribute (.Name x _) name apos) [e] [] cpos) _ => c.var i x && isN "extend" name && Nat.beq apos.endLine cpos.line && kE c m e && noStar e
    | _ => false) := rfl
theorem kS_for_eq (c : Ck) (fx : List Bool) (t : T) (it : I) (b : Ss) (st : Stmt) : kS c fx (.for t it b) st = (match st with
    | .For tg iter body [] _ => kT c t tg && t.slots.all (fun j => !fxAt fx j) && tpOnly it.lo t && kI c it iter && noSet iter && kSs c fx b body
    | _ => false) := rfl
theorem kS_whl_eq (c : Ck) (fx : List Bool) (m : E) (b : Ss) (st : Stmt) : kS c fx (.whl m b) st = (match st with
    | .While e body [] _ => kE c m e && noIf e && kSs c fx b body
    | _ => false) := rfl
theorem kS_ret_eq (c : Ck) (fx : List Bool) (m : E) (st : Stmt) : kS c fx (.ret m) st = (match st with
    | .Return (some e) _ => kE c m e
    | _ => false) := rfl
theorem kS_retv_eq (c : Ck) (fx : List Bool) (i : Nat) (st : Stmt) : kS c fx (.retv i) st = (match st with
    | .Return (some (.Name x _)) _ => c.var i x
    | _ => false) := rfl
theorem kS_retn_eq (c : Ck) (fx : List Bool) (st : Stmt) : kS c fx .retn st = (match st with
    | .Return none _ => true
    | _ => false) := rfl
theorem kS_expr_eq (c : Ck) (fx : List Bool) (m : E) (st : Stmt) : kS c fx (.expr m) st = (match st with
    | .Expr e _ => kE c m e && noLc e
    | _ => false) := rfl
theorem kS_ife_eq (c : Ck) (fx : List Bool) (m : E) (a b : Ss) (st : Stmt) : kS c fx (.ife m a b) st = (match st with
    | .If e s t _ => kE c m e && noIf e && kSs c fx a s && kSs c fx b t
    | _ => false) := rfl
theorem kS_pass_eq (c : Ck) (fx : List Bool) (st : Stmt) : kS c fx .pass st = (match st with
    | .Pass _ => true
    | _ => false) := rfl
theorem kS_brk_eq (c : Ck) (fx : List Bool) (st : Stmt) : kS c fx .brk st = (match st with
    | .Break _ => true
    | _ => false) := rfl
theorem kS_cont_eq (c : Ck) (fx : List Bool) (st : Stmt) : kS c fx .cont st = (match st with
    | .Continue _ => true
    | _ => false) := rfl
theorem kS_raise_eq (c : Ck) (fx : List Bool) (cl : Cl) (ms : Es) (st : Stmt) : kS c fx (.raise cl ms) st = (match st with
    | .Raise (some (.Call (.Name x _) (e :: es) [] _)) none _ => sEq x cl.name && (c.gl x && (plainN x && (c.tb.xs.any (sEq cl.name) && (!cl.flds.isEmpty && (kEs c ms (e :: es))))))
    | _ => false) := rfl
theorem kS_try_eq (c : Ck) (fx : List Bool) (b : Ss) (cl : Cl) (n : Option Nat) (h : Ss) (st : Stmt) : kS c fx (.try b cl n h) st = (match st with
    | .Try body [.ExceptHandler (some (.Name x _)) nm (b0 :: suite) _] [] [] _ => sEq x cl.name && (c.gl x && (plainN x && (c.tb.xs.any (sEq cl.name) && (allCl.any (fun z => decide (z = cl)) && (kSs c fx b body && (kNm c fx n nm && kHSs c n (fun j => fxAt fx j || isAt n j) h (b0 :: suite)))))))
    | _ => false) := rfl
structure SxOk (r : Rd) (X : Ctx) (c : Ck) (Y : Cx) : Prop extends CxOk r X c Y where
  own : PassesOwn (model Y.prog Y.w) Y.A Y.env Y.xe
  stk : Y.stack = Y.env :: Y.outer
  frm : Y.env.frame = some Y.env.locals
/-- in a try's body -/
theorem SxOk.tr {r : Rd} {X : Ctx} {c : Ck} {Y : Cx} (o : SxOk r X c Y) {W : WX} {pn : List (Addr × Obj)} {xe : Value → Shared → Prop} (tk : Takes (Y.tr pn xe) W) (own : PassesOwn (model Y.prog Y.w) Y.A Y.env xe) : SxOk { r with W := W } X c (Y.tr pn xe) :=
  ⟨⟨o.N, o.nd, o.sc, o.kind, o.calm, o.units, o.guard, o.K, tk, o.fn, o.blt, o.gl, o.rx, o.xs, o.ra, o.fns⟩, own, o.stk, o.frm⟩
/-- another wish of refusals -/
theorem EvS.wish {r : Rd} {W : WX} {fix : Nat → Bool} {F H : Hp} {fps : Nat → List Addr} {σ : St} {En : Ends} {cl : Cl} {n : Option Nat} {h : Ss} {sr : SR} (q : EvS r fix F H fps σ En (tryE cl n h sr))
    (k : ∀ c fs Γ F' H' fps' σ' cls d, sr = .exc c fs Γ → EvS r fix F H fps σ En (tryE cl n h (.exc c fs Γ)) → Step F H fps F' H' fps' → Good r.K F' H' σ' Γ fps' → Kp fix σ σ' → r.X c fs cls d F' H' → W cls d σ' H') : EvS { r with W := W } fix F H fps σ En sr := by
  cases sr with
  | nx Γ' => exact q
  | rt o Γ' => exact q
  | bk Γ' => exact q
  | ct Γ' => exact q
  | exc c fs Γ' => exact fun F' H' fps' σ' cls d s g kp x => k c fs Γ' F' H' fps' σ' cls d rfl q s g kp x
  | bad => exact q
theorem Kp.out {fix : Nat → Bool} {n : Nat} {σ σ2 : St} {x y : Option V} (hf : fix n = false) (k : Kp (fun j => fix j || isAt (some n) j) (σ.set n x) σ2) : Kp fix σ (σ2.set n y) ∧ Kp fix σ σ2 := by
  have key : ∀ j, fix j = true → σ2[j]? = σ[j]? := fun j hj => by
    have ne : n ≠ j := fun z => by rw [z, hj] at hf; cases hf
    rw [k j (by show (fix j || _) = true; rw [hj]; rfl), List.getElem?_set_ne ne]
  refine ⟨fun j hj => ?_, key⟩
  have ne : n ≠ j := fun z => by rw [z, hj] at hf; cases hf
  rw [List.getElem?_set_ne ne]
  exact key j hj
section
variable {r : Rd} {X : Ctx} {c : Ck} {Y : Cx} {fx : List Bool} {b h : Ss} {cl : Cl} {body suite : List Stmt} {b0 : Stmt} {x y : Str} {px pos pos2 : Pos} {i : Nat}
theorem names_ok (o : SxOk r X c Y) (hg : c.gl x = true) (hp : plainN x = true) (hc : cl ∈ allCl) (hx : c.tb.xs.any (sEq cl.name) = true) (e : x = cl.name) : Names Y x (.ref (cl.ad Y.K)) ∧ hasCl Y.K cl = true := by
  subst e
  obtain ⟨m1, m2⟩ := o.xs cl hc hx
  exact ⟨⟨o.toCxOk.gl' hg, (plainN_ok hp).1, .inl m1⟩, m2⟩
/-- try .. except C: .. -/
theorem ps_tryE (o : SxOk r X c Y) (hN : Names Y x (.ref (cl.ad Y.K))) (hc : cl ∈ allCl) (hh : hasCl Y.K cl = true) (hb : ∀ {r2 : Rd} {Y2 : Cx}, SxOk r2 X c Y2 → PSs Y2 body (tSs r2 X (fxAt fx) b)) (hs : kHSs c none (fun j => fxAt fx j || isAt none j) h (b0 :: suite) = true) :
    PS Y (.Try body [.ExceptHandler (some (.Name x px)) none (b0 :: suite) pos2] [] [] pos) (tS r X (fxAt fx) (.try b cl none h)) := by
  have fe : (fun j => fxAt fx j || isAt none j) = fxAt fx := by
    funext j
    show (fxAt fx j || false) = _
    rw [Bool.or_false]
  rw [fe] at hs
  refine (ps_try_only (tb := fun W => tSs { r with W := W } X (fxAt fx) b) (ts := fun a cls d => tHSs r a cls d none (fxAt fx) h) o.stk o.frm hN o.tk (fun W pn xe tk own => hb (o.tr tk own)) (fun a oe cls d pn hz hf => kHSs_ok h hs o.toCxOk hz hf (fun _ z => nomatch z))).imp fun En σ H q => ?_
  obtain ⟨F, Γ, fps, g, q⟩ := q
  have q : EvS r (fxAt fx) F H fps σ En (tryE cl none h (evSs X b Γ)) := q
  refine ⟨F, Γ, fps, g, q.wish fun c' fs Γ1 F1 H1 fps1 σ1 cls d _ q s1 g1 kp xr => ?_⟩
  rw [o.rx] at xr
  obtain ⟨e1, ck, rest⟩ := id xr
  rw [o.K] at e1 ck
  refine ⟨c'.sub cl, by rw [e1]; exact exm_of ck hc hh, fun hs2 a na => ?_, fun hs2 => ?_⟩
  · have q : EvS r (fxAt fx) F H fps σ En (if c'.sub cl then hSs c' fs h Γ1 else .exc c' fs Γ1) := q
    rw [if_pos hs2] at q
    exact ⟨c', fs, F1, Γ1, fps1, g1, xr, (fun _ z => nomatch z), q.step s1 kp⟩
  · have q : EvS r (fxAt fx) F H fps σ En (if c'.sub cl then hSs c' fs h Γ1 else .exc c' fs Γ1) := q
    rw [if_neg (by rw [hs2]; decide)] at q
    exact q F1 H1 fps1 σ1 cls d s1 g1 kp (by rw [o.rx]; exact xr)
/-- try .. except C as y: .. -/
theorem ps_tryAsE (o : SxOk r X c Y) (hN : Names Y x (.ref (cl.ad Y.K))) (hc : cl ∈ allCl) (hh : hasCl Y.K cl = true) (hb : ∀ {r2 : Rd} {Y2 : Cx}, SxOk r2 X c Y2 → PSs Y2 body (tSs r2 X (fxAt fx) b)) (hi : Y.N[i]? = some y) (hl : Y.env.scope.names.lookup y = some .local) (hf2 : fxAt fx i = false)
    (hs : kHSs c (some i) (fun j => fxAt fx j || isAt (some i) j) h (b0 :: suite) = true) : PS Y (.Try body [.ExceptHandler (some (.Name x px)) (some y) (b0 :: suite) pos2] [] [] pos) (tS r X (fxAt fx) (.try b cl (some i) h)) := by
  refine (ps_try_as (tb := fun W => tSs { r with W := W } X (fxAt fx) b) (ts := fun a cls d => tHSs r a cls d (some i) (fun j => fxAt fx j || isAt (some i) j) h) o.stk o.frm o.nd hi hl hN o.tk (fun W pn xe tk own => hb (o.tr tk own)) (fun a oe cls d pn hz hf => kHSs_ok h hs o.toCxOk hz hf (fun j z => by cases z; show (fxAt fx i || Nat.beq i i) = true; rw [Nat.beq_refl, Bool.or_true]))).imp fun En σ H q => ?_
  obtain ⟨F, Γ, fps, g, q⟩ := q
  have q : EvS r (fxAt fx) F H fps σ En (tryE cl (some i) h (evSs X b Γ)) := q
  refine ⟨F, Γ, fps, g, q.wish fun c' fs Γ1 F1 H1 fps1 σ1 cls d _ q s1 g1 kp xr => ?_⟩
  rw [o.rx] at xr
  obtain ⟨e1, ck, rest⟩ := id xr
  rw [o.K] at e1 ck
  refine ⟨c'.sub cl, by rw [e1]; exact exm_of ck hc hh, fun hs2 a na => ?_, fun hs2 => ?_⟩
  · have q : EvS r (fxAt fx) F H fps σ En (if c'.sub cl then (match slot Γ1 i with
      | none => if i < Γ1.length then dropE i (hSs c' fs h Γ1) else .bad
      | some _ => .bad) else .exc c' fs Γ1) := q
    rw [if_pos hs2] at q
    cases hsl : slot Γ1 i with
    | some z => rw [hsl] at q; exact q.elim
    | none =>
      rw [hsl] at q
      have q : EvS r (fxAt fx) F H fps σ En (if i < Γ1.length then dropE i (hSs c' fs h Γ1) else .bad) := q
      by_cases hlen : i < Γ1.length
      case neg =>
        rw [if_neg hlen] at q
        exact q.elim
      rw [if_pos hlen] at q
      have none1 : ∀ u, Γ1[i]? ≠ some (some u) := fun u z => by
        unfold slot at hsl
        rw [z] at hsl
        cases hsl
      have q := q.step s1 kp
      refine ⟨c', fs, F1, Γ1, fps1, g1.forget none1 _, xr, fun j z => ?_, ?_⟩
      · cases z
        rw [List.getElem?_set_self (by rw [← g1.len]; exact hlen)]
      · generalize hSs c' fs h Γ1 = sr at q
        cases sr with
        | nx Γ2 => exact fun F2 H2 fps2 σ2 s2 g2 kp2 => q F2 H2 _ (σ2.set i none) (s2.drop i) ((g2.drop i).forget (fun u z => by
            by_cases hi : i < Γ2.length
            · rw [List.getElem?_set_self hi] at z; cases z
            · rw [List.getElem?_eq_none (by simpa using hi)] at z; cases z) none) (Kp.out hf2 kp2).1
        | rt u Γ2 => exact fun F2 H2 fps2 σ2 v fp s2 g2 kp2 t2 => q F2 H2 fps2 σ2 v fp s2 g2 (Kp.out (y := none) hf2 kp2).2 t2
        | _ => exact q.elim
  · have q : EvS r (fxAt fx) F H fps σ En (if c'.sub cl then (match slot Γ1 i with
      | none => if i < Γ1.length then dropE i (hSs c' fs h Γ1) else .bad
      | some _ => .bad) else .exc c' fs Γ1) := q
    rw [if_neg (by rw [hs2]; decide)] at q
    exact q F1 H1 fps1 σ1 cls d s1 g1 kp (by rw [o.rx]; exact xr)
end
section
variable {r : Rd} {X : Ctx} {c : Ck} {Y : Cx} {e : Expr} {m : E}
theorem swap_ok {t : Option Expr} {l : Nat} {env : PySem.Env} (h : noLc e = true) : swapsWith e t l env = pure false := by
  cases e <;> first | rfl | cases h
theorem swapSole_ok {t : Expr} {l : Nat} {env : PySem.Env} (h : noLc e = true) : swapsWithSole [t] e l env = pure false := by
  show swapsWith e (some t) l env = pure false
  exact swap_ok h
theorem swapSub_ok {o i : Expr} {p : Pos} {l : Nat} {env : PySem.Env} : swapsWith e (some (.Subscript o i p)) l env = pure false := by
  cases e <;> rfl
theorem swapped_ok {es : List Expr} {k : Nat} {p : Pos} {env : PySem.Env} (h : noTup e = true) : swappedStores [.Tuple es k p] e env = pure none := by
  cases e <;> first | rfl | cases h
theorem swapped_fold {ts vs : List Expr} {k k2 : Nat} {p p2 : Pos} {env : PySem.Env} (h : vs.all (foldedForSure 8) = true) : swappedStores [.Tuple ts k p] (.Tuple vs k2 p2) env = pure none := by
  unfold swappedStores
  simp only [bind_pure_comp, pure_bind]
  split
  · rfl
  · split
    · rfl
    · split
      · rfl
      · rfl
theorem st_of (e : Expr) (h : noStar e = true) : (match e with | .Starred .. => true | _ => false) = false := by cases e <;> first | rfl | cases h
theorem swap2 {x y : Str} {px py pt pt2 : Pos} {kt k2 : Nat} {a b : Expr} {env : PySem.Env} (hx : env.kindOf x = some .local) (hy : env.kindOf y = some .local) (hl : Nat.beq py.line px.line = true) (hxy : x ≠ y) (hk : env.blockKind = .function)
    (ha : noStar a = true) (hb : noStar b = true) (h1 : (foldedForSure 8 a && foldedForSure 8 b) = false) (h2 : (constantsAlone 8 a && constantsAlone 8 b) = false) :
    swappedStores [.Tuple [.Name x px, .Name y py] kt pt] (.Tuple [a, b] k2 pt2) env = pure (some [x, y]) := by
  have hl' : (py.line == px.line) = true := by rw [Nat.eq_of_beq_eq_true hl]; exact beq_self_eq_true _
  have nx : (x == y) = false := by rw [beq_eq_false_iff_ne]; exact hxy
  have nx2 : (y == x) = false := by rw [beq_eq_false_iff_ne]; exact Ne.symm hxy
  have e1 : ([x, y] : List Str).eraseDups = [x, y] := by
    simp [List.eraseDups_cons, nx, nx2]
  unfold swappedStores
  simp only [List.length_cons, List.length_nil, hk, List.any_cons, List.any_nil, st_of a ha, st_of b hb, List.head?_cons, Option.map_some, Option.getD_some, Expr.pos, List.filterMap_cons, hx, hy, hl', beq_self_eq_true, Bool.and_self, if_true, List.filterMap_nil, e1, List.all_cons, List.all_nil, Bool.and_true, h1, h2]
  rw [if_neg (by decide), if_neg ?_]
  · rfl
  · rw [Bool.or_eq_true, Bool.or_eq_true]
    rintro (h | h | h)
    · cases a <;> first | (cases h; done) | (cases ha; done)
    · cases b <;> first | (cases h; done) | (cases hb; done)
    · cases h
theorem swapped_ok2 {es : List Expr} {k : Nat} {p : Pos} {env : PySem.Env} (h : (noTup e || tupFold e) = true) : swappedStores [.Tuple es k p] e env = pure none := by
  rw [Bool.or_eq_true] at h
  rcases h with h | h
  · exact swapped_ok h
  · unfold tupFold at h
    split at h
    · exact swapped_fold h
    · cases h
theorem kPar_ok (o : SxOk r X c Y) {fx : List Bool} {is : List Nat} {es : Es} {st : Stmt} (h : kPar c fx is es st = true) : PS Y st (tS r X (fxAt fx) (.par is es)) := by
  rcases is with _ | ⟨i, _ | ⟨j, _ | ⟨_, _⟩⟩⟩
  · cases h
  · cases h
  · rcases es with _ | ⟨ma, _ | ⟨mb, _ | ⟨_, _⟩⟩⟩
    · cases h
    · cases h
    · unfold kPar at h
      dsimp only at h
      split at h
      · rename_i x px y py _ _ a b _ _ _
        obtain ⟨h1, h⟩ := and_inv h
        obtain ⟨h2, h⟩ := and_inv h
        obtain ⟨h3, h⟩ := and_inv h
        obtain ⟨h4, h⟩ := and_inv h
        obtain ⟨h5, h⟩ := and_inv h
        obtain ⟨h6, h⟩ := and_inv h
        obtain ⟨h7, h8⟩ := and_inv h
        obtain ⟨a1, h1⟩ := and_inv h1
        obtain ⟨a2, a3⟩ := and_inv h1
        obtain ⟨b1, h2⟩ := and_inv h2
        obtain ⟨b2, b3⟩ := and_inv h2
        obtain ⟨h5, n1⟩ := and_inv h5
        obtain ⟨h6, n2⟩ := and_inv h6
        have ni : Y.N[i]? = some x := by rw [o.N]; exact atS_eq a1
        have nj : Y.N[j]? = some y := by rw [o.N]; exact atS_eq b1
        have hij : i ≠ j := fun z => by
          subst z
          simp at h4
        have hxy : x ≠ y := fun z => by
          subst z
          have li := (List.getElem?_eq_some_iff.mp ni).1
          exact hij ((List.getElem?_inj li o.nd).mp (ni.trans nj.symm))
        have lx : Y.env.scope.names.lookup x = some .local := by rw [o.sc]; exact Ck.isLocal_ok a2
        have ly : Y.env.scope.names.lookup y = some .local := by rw [o.sc]; exact Ck.isLocal_ok b2
        have hk : Y.env.blockKind = .function := by
          unfold PySem.Env.blockKind
          rw [o.sc, o.kind]
          rfl
        exact ps_parE o.calm o.nd ni nj hij lx ly (by simpa using a3) (by simpa using b3) (pa_consD (kE_ok ma h5 o.toCxOk).pe (pa_consD (kE_ok mb h6 o.toCxOk).pe pa_nilD (star_ok n2)) (star_ok n1))
          (swap2 lx ly h3 hxy hk n1 n2 (Bool.not_eq_true' _ ▸ h7) (Bool.not_eq_true' _ ▸ h8))
      · cases h
    · cases h
  · cases h
/-- a comprehension comes of a comprehension alone -/
theorem kE_lcOnly {elt : Expr} {gs : List Comprehension} {scope : Scope} {p : Pos} (h : kE c m (.ListComp elt gs scope p) = true) : ∃ own t it d m2, m = .lc own t it d m2 := by
  cases m with
  | lc own t it d m2 => exact ⟨_, _, _, _, _, rfl⟩
  | cst d =>
    have h : kC d (.ListComp elt gs scope p) = true := h
    cases d <;> cases h
  | lls es => cases (and_inv (show (esNil es && false) = true from h)).2
  | _ => exact absurd h (by intro z; cases z)
theorem asg_ok' (o : SxOk r X c Y) {fx : List Bool} {i : Nat} {x : Str} {p pos : Pos} (ht : c.tgt i x = true) (hf : fxAt fx i = false) (h : kE c m e = true) (hv : kVal c x p e = true) : PS Y (.Assign [.Name x p] e pos) (tS r X (fxAt fx) (.asg i m)) := by
  have hT := ht
  simp only [Ck.tgt, Bool.and_eq_true] at ht
  have hx : Loc Y.env.scope x := by rw [o.sc]; exact Ck.loc_ok ht.1.2
  have hN : Y.N[i]? = some x := by rw [o.N]; exact atS_eq ht.1.1
  unfold kVal at hv
  split at hv
  · rename_i elt gs scope lp
    obtain ⟨hv, v3⟩ := and_inv hv
    obtain ⟨v1, v2⟩ := and_inv hv
    obtain ⟨own, t, it, d, m2, rfl⟩ := kE_lcOnly h
    obtain ⟨elt', tg, iter, ifs, scope', pos', e1, k1, k2, k3, k4, k5, k6, k7, k8⟩ := kE_lcInv h
    cases e1
    obtain ⟨b1, b2⟩ := kBlk_ok k1
    have hk : scope.kind = .function := b1.kind
    have ow : ∀ j ∈ t.slots, j ∈ own := slots_in k3
    have hl : Y.env.scope.names.lookup x = some .local := by rw [o.sc]; exact Ck.isLocal_ok v1
    have sw : swapsWith (.ListComp elt [⟨tg, iter, ifs, 0⟩] scope lp) (some (.Name x p)) pos.line Y.env = pure true := by
      refine sw_true (by rw [o.sc]; exact o.kind) hl (beq_iff_eq.mpr (Nat.eq_of_beq_eq_true v2)) ?_
      rw [Bool.not_eq_true', List.any_eq_false] at v3
      rw [List.any_eq_false]
      intro y hy z
      rw [Bool.and_eq_true] at z
      refine v3 y hy ?_
      rw [eq_of_beq z.1]
      exact nsEq_refl _
    refine (ps_setLc o.calm o.nd hN hl sw (kI_ok it k5 o.toCxOk tg (tup_of k4 k2)) (by rw [o.N, o.sc]; exact b1) (fun s H C cl fp => kT_ok (o.toCxOk.blk hk s H C cl fp) k2) (g := gT Y.K t) (tt := tT r.quiet X d) (fun s H C cl fp => ?_) (fun s H C cl fp => pe_D (kE_ok m2 k7 (o.toCxOk.blk hk s H C cl fp)).pe) (set_ok k6)).imp fun D σ H q => ?_
    · rcases k8 with ⟨rfl, rfl⟩ | ⟨x, rfl, k8, k9⟩
      · exact pts_nilE
      · exact pts_oneE ((kE_ok d k8 (o.toCxOk.blk hk s H C cl fp)).pt k9)
    · have q2 := lc_read (tpOnly_ok k4) ow (asg_read hf q)
      rw [← b2] at q2
      show tLc (tI r X it) (gT Y.K t) (tT r.quiet X d) (tD r.quiet X m2) _ σ H _
      rw [← o.K]
      rw [b2]
      rw [b2] at q2
      exact q2
  · exact ps_asgE o.nd hN hx (kE_ok m h o.toCxOk).pe hf (swap_ok hv) (o.fn x (by simp only [Ck.tgt, Bool.and_eq_true] at hT; exact hT.2))
end
mutual
theorem kS_ok : ∀ (m : S) {c : Ck} {fx : List Bool} {st : Stmt}, kS c fx m st = true → ∀ {r : Rd} {X : Ctx} {Y : Cx}, SxOk r X c Y → PS Y st (tS r X (fxAt fx) m)
  | .expr m, c, fx, st, h, r, X, Y, o => by
    rw [kS_expr_eq] at h
    split at h
    · obtain ⟨h1, h2⟩ := and_inv h
      exact ps_exprE (kE_ok m h1 o.toCxOk).pe (swap_ok h2)
    · cases h
  | .asg i m, c, fx, st, h, r, X, Y, o => by
    rw [kS_asg_eq] at h
    split at h
    · obtain ⟨h, h4⟩ := and_inv h
      obtain ⟨h, h3⟩ := and_inv h
      obtain ⟨h1, h2⟩ := and_inv h
      exact asg_ok' o h1 (by simpa using h2) h3 h4
    · cases h
  | .tasg is m, c, fx, st, h, r, X, Y, o => by
    rw [kS_tasg_eq] at h
    split at h
    · obtain ⟨h, h5⟩ := and_inv h
      obtain ⟨h, h4⟩ := and_inv h
      obtain ⟨h, h3⟩ := and_inv h
      obtain ⟨h1, h2⟩ := and_inv h
      rw [List.all_eq_true] at h2
      refine ps_tasgE o.K (kE_ok m h3 o.toCxOk).pe (kT_ok o.toCxOk (t := .tp is) h1) (fun j hj => by simpa using h2 j hj) (swapSole_ok h5) (swapped_ok2 h4) (by rfl)
    · cases h
  | .par is es, c, fx, st, h, r, X, Y, o => kPar_ok o h
  | .set i k m, c, fx, st, h, r, X, Y, o => by
    rw [kS_set_eq] at h
    split at h
    · obtain ⟨h, h3⟩ := and_inv h
      obtain ⟨h1, h2⟩ := and_inv h
      have hu := o.units
      exact ps_setE (by omega) (o.toCxOk.var h1) (kE_ok k h2 o.toCxOk).pe (kE_ok m h3 o.toCxOk).pe swapSub_ok
    · cases h
  | .app i m, c, fx, st, h, r, X, Y, o => by
    rw [kS_app_eq] at h
    split at h
    · obtain ⟨h, h5⟩ := and_inv h
      obtain ⟨h, h4⟩ := and_inv h
      obtain ⟨h, h3⟩ := and_inv h
      obtain ⟨h1, h2⟩ := and_inv h
      have := isN_eq h2
      subst this
      exact ps_mth1 (f := appIt) PySem.F.slot_list_append PySem.F.type_list_append (fun pn s σ H x xs v us Q I rx rv h => mt_append pn s σ H x xs v us Q I rx rv h) (fun Γ => rfl) (fun a b d e => app_ok a b d e) (o.toCxOk.var h1) (kE_ok m h4 o.toCxOk).pe (by rfl) (few_ok (by simp [noStars, h5]) (by simp)) (beq_iff_eq.mpr (Nat.eq_of_beq_eq_true h3)) (star_ok h5)
    · cases h
  | .appl i m, c, fx, st, h, r, X, Y, o => by
    rw [kS_appl_eq] at h
    split at h
    · obtain ⟨h, h5⟩ := and_inv h
      obtain ⟨h, h4⟩ := and_inv h
      obtain ⟨h, h3⟩ := and_inv h
      obtain ⟨h1, h2⟩ := and_inv h
      have := isN_eq h2
      subst this
      exact ps_applE (o.toCxOk.var h1) (kE_ok m h4 o.toCxOk).pe (by rfl) (few_ok (by simp [noStars, h5]) (by simp)) (beq_iff_eq.mpr (Nat.eq_of_beq_eq_true h3)) (star_ok h5)
    · cases h
  | .ext i m, c, fx, st, h, r, X, Y, o => by
    rw [kS_ext_eq] at h
    split at h
    · obtain ⟨h, h5⟩ := and_inv h
      obtain ⟨h, h4⟩ := and_inv h
      obtain ⟨h, h3⟩ := and_inv h
      obtain ⟨h1, h2⟩ := and_inv h
      have := isN_eq h2
      subst this
      exact ps_mth1 (f := extIt) PySem.F.slot_list_extend PySem.F.type_list_extend (fun pn s σ H x xs v us Q I rx rv h => mt_extA pn s σ H x xs v us Q I rx rv h) (fun Γ => rfl) (fun a b d e => o.K ▸ ext_ok a b d e) (o.toCxOk.var h1) (kE_ok m h4 o.toCxOk).pe (by rfl) (few_ok (by simp [noStars, h5]) (by simp)) (beq_iff_eq.mpr (Nat.eq_of_beq_eq_true h3)) (star_ok h5)
    · cases h
  | .app2 i k m, c, fx, st, h, r, X, Y, o => by
    rw [kS_app2_eq] at h
    split at h
    · obtain ⟨h, h6⟩ := and_inv h
      obtain ⟨h, h5⟩ := and_inv h
      obtain ⟨h, h4⟩ := and_inv h
      obtain ⟨h, h3⟩ := and_inv h
      obtain ⟨h1, h2⟩ := and_inv h
      have := isN_eq h3
      subst this
      split at h1
      · exact ps_app2E (o.toCxOk.var h2) (kE_ok k h5 o.toCxOk).pe (plainIx_ok h6) (o.toCxOk.var h1) (by rfl) (few_ok (by simp [noStars, noStar]) (by simp)) (beq_iff_eq.mpr (Nat.eq_of_beq_eq_true h4)) (star_ok rfl)
      · cases h1
    · cases h
  | .ins _ _ _, _, _, _, h, _, _, _, _ => by cases h
  | .clr _, _, _, _, h, _, _, _, _ => by cases h
  | .revs _, _, _, _, h, _, _, _, _ => by cases h
  | .upd _ _, _, _, _, h, _, _, _, _ => by cases h
  | .ife m a b, c, fx, st, h, r, X, Y, o => by
    rw [kS_ife_eq] at h
    split at h
    · obtain ⟨h, h4⟩ := and_inv h
      obtain ⟨h, h3⟩ := and_inv h
      obtain ⟨h1, h2⟩ := and_inv h
      exact ps_ifE ((kE_ok m h1 o.toCxOk).pt h2) (kSs_ok a h3 o) (kSs_ok b h4 o)
    · cases h
  | .for t it b, c, fx, st, h, r, X, Y, o => by
    rw [kS_for_eq] at h
    split at h
    · obtain ⟨h, h6⟩ := and_inv h
      obtain ⟨h, h5⟩ := and_inv h
      obtain ⟨h, h4⟩ := and_inv h
      obtain ⟨h, h3⟩ := and_inv h
      obtain ⟨h1, h2⟩ := and_inv h
      rw [List.all_eq_true] at h2
      exact ps_forE o.own o.calm (tpOnly_ok h3) (fun j hj => by simpa using h2 j hj) o.K (kI_ok it h4 o.toCxOk _ (tup_of h3 h1)) (kT_ok o.toCxOk h1) (kSs_ok b h6 o) (set_ok h5)
    · cases h
  | .whl m b, c, fx, st, h, r, X, Y, o => by
    rw [kS_whl_eq] at h
    split at h
    · obtain ⟨h, h3⟩ := and_inv h
      obtain ⟨h1, h2⟩ := and_inv h
      exact ps_whlE o.own ((kE_ok m h1 o.toCxOk).pt h2) (kSs_ok b h3 o)
    · cases h
  | .ret m, c, fx, st, h, r, X, Y, o => by
    rw [kS_ret_eq] at h
    split at h
    · exact ps_retE (kE_ok m h o.toCxOk).pe
    · cases h
  | .retv i, c, fx, st, h, r, X, Y, o => by
    rw [kS_retv_eq] at h
    split at h
    · exact ps_retvE (o.toCxOk.var h)
    · cases h
  | .retn, c, fx, st, h, r, X, Y, o => by
    rw [kS_retn_eq] at h
    split at h
    · exact ps_retnE
    · cases h
  | .pass, c, fx, st, h, r, X, Y, o => by
    rw [kS_pass_eq] at h
    split at h
    · exact ps_passE
    · cases h
  | .brk, c, fx, st, h, r, X, Y, o => by
    rw [kS_brk_eq] at h
    split at h
    · exact ps_brkE
    · cases h
  | .cont, c, fx, st, h, r, X, Y, o => by
    rw [kS_cont_eq] at h
    split at h
    · exact ps_contE
    · cases h
  | .raise cl ms, c, fx, st, h, r, X, Y, o => by
    rw [kS_raise_eq] at h
    split at h
    · obtain ⟨h1, h⟩ := and_inv h
      obtain ⟨h2, h⟩ := and_inv h
      obtain ⟨h3, h⟩ := and_inv h
      obtain ⟨h4, h⟩ := and_inv h
      obtain ⟨h5, h6⟩ := and_inv h
      have h1 := sEq_eq h1
      subst h1
      obtain ⟨k, R, room⟩ := o.ra cl h4 (fun z => by rw [z] at h5; cases h5)
      have st := (kEs_star h6).1
      simp only [noStars, List.all_cons, Bool.and_eq_true] at st
      exact ps_raiseE o.calm o.tk o.rx o.K R room (o.toCxOk.gl' h2) (kEs_ok ms h6 o.toCxOk) (plainN_ok h3).1 (star_ok st.1) (stars_ok (by simpa [noStars] using st.2)).1
    · cases h
  | .dead, c, fx, st, h, r, X, Y, o => ⟨fun pn s σ H D I ⟨_, _, _, _, q⟩ => q.elim⟩
  | .try b cl n hh, c, fx, st, h, r, X, Y, o => by
    rw [kS_try_eq] at h
    split at h
    · obtain ⟨h1, h⟩ := and_inv h
      obtain ⟨h2, h⟩ := and_inv h
      obtain ⟨h3, h⟩ := and_inv h
      obtain ⟨h4, h⟩ := and_inv h
      obtain ⟨h5, h⟩ := and_inv h
      obtain ⟨h6, h⟩ := and_inv h
      obtain ⟨h7, h8⟩ := and_inv h
      have h1 := sEq_eq h1
      obtain ⟨z, hz, ez⟩ := List.any_eq_true.mp h5
      have ez := of_decide_eq_true ez
      subst ez
      obtain ⟨nm1, nm2⟩ := names_ok o h2 h3 hz h4 h1
      unfold kNm at h7
      split at h7
      · exact ps_tryE o nm1 hz nm2 (fun o2 => kSs_ok b h6 o2) h8
      · obtain ⟨k1, h7⟩ := and_inv h7
        obtain ⟨k2, k3⟩ := and_inv h7
        exact ps_tryAsE o nm1 hz nm2 (fun o2 => kSs_ok b h6 o2) (by rw [o.N]; exact atS_eq k1) (by rw [o.sc]; exact Ck.isLocal_ok k2) (by simpa using k3) h8
      · cases h7
    · cases h
theorem kSs_ok : ∀ (m : Ss) {c : Ck} {fx : List Bool} {sts : List Stmt}, kSs c fx m sts = true → ∀ {r : Rd} {X : Ctx} {Y : Cx}, SxOk r X c Y → PSs Y sts (tSs r X (fxAt fx) m)
  | .nil, c, fx, sts, h, r, X, Y, o => by
    cases sts with
    | nil => exact pss_nilE
    | cons _ _ => cases h
  | .cons m ms, c, fx, sts, h, r, X, Y, o => by
    cases sts with
    | nil => cases h
    | cons st sts =>
      have h : (kS c fx m st && kSs c fx ms sts) = true := h
      obtain ⟨h1, h2⟩ := and_inv h
      exact pss_consE (kS_ok m h1 o) (kSs_ok ms h2 o)
end
end MI

set_option maxRecDepth 100000
/-! MI18: checked defs keep the mini program's promise. -/
namespace MI
open L2 PySem PyProof.Rows PySem.Spec
/-- as fnG_of, over what the head says of a def -/
theorem fnG_ofD {P : Program} {w : World} {K : PySem.W.Frag} {mg : Str → Option Value} {base : Heap} {k : Nat} {x qual : Str} {params : Arguments} {sts : List Stmt} {scope : Scope} {dvs : List V} {kws : List (Str × V)} {f : Addr} {fd : FuncData} {N ps : List Str} {sp : Sp} (D : FunD K x qual params sts scope dvs kws f fd) (S : FnScope N ps scope)
    (len : ∀ ws H Q E, sp ws H Q E → ws.length = ps.length)
    (body : ∀ (cdv : Value) (A : Around) (outer : List PySem.Env) (s : Shared) (H : Hp) (vs : List V) (Q : VK) (E : XK), Room k (A.deeper (envOfC qual scope s.heap.objs.size f cdv)) → A.guards = some [] → sp vs H Q E →
      ∃ t, PSs (cxOf (L2.CX P w) P w K mg base N qual scope f cdv A outer s H E) sts t ∧ t { nx := fun _ H' => Q .non H', rt := Q } (start N vs) H) :
    FnG P w K mg base (k + 1) f fd ps sp := by
  obtain ⟨oc, od, dV, kV, doc, pm, an, cdv, ct, osl, rfl, lk, hcd, _, _⟩ := D.ex
  refine ⟨len, fun A outer s H args us vs Q E room guard e0 binds rel want => ?_⟩
  have count := len vs H Q E want
  have stays : ∀ b o, base.get? b = some o → s.heap.get? b = some o := fun b o e => (e0.bs b o e).1
  have Kin := e0.mod.kin.keeps stays
  have kinds : ∀ y ∈ ps.zip us, scope.names.lookup y.1 = some .local ∨ (scope.names.lookup y.1 = some .cell ∧ ((cellsFrom (s.heap.objs.size + 1) scope.names []).lookup y.1).isSome = true) := by
    intro y hy
    have hp := (List.of_mem_zip (a := y.1) (b := y.2) hy).1
    cases S.par y.1 hp with
    | inl q => exact .inl q
    | inr q => exact .inr ⟨q, PySem.W.cellsFrom_some _ _ _ (.inl q)⟩
  refine codeAny_call_function room.depth (Kin f _ lk) rfl S.co S.gen rfl (PySem.W.codeRec_of Kin hcd) (binds _ _ _ _ ?_)
  refine wpAny_newFunctionEnv_cells S.kind kinds fun env eenv s1 entry => ?_
  cases eenv
  refine ⟨(e0.mod.nolimit.keeps stays).keeps entry.toInCall.keep, codeAny_func ?_⟩
  obtain ⟨t, ht, go⟩ := body cdv A outer s H vs Q E (room.deeper _) guard want
  have I := inv_start (CX := L2.CX P w) (E := E) S room.hd e0 count rel entry
  have out := ht.run [] s1 (start N vs) H _ I go
  refine wpAny_mono out (fun fl s' end_ => ?_) fun _ _ z => z
  cases fl with
  | ret u =>
    obtain ⟨v, σ', H', J, rv, q⟩ := end_
    exact ⟨v, H', J.os, J.bare, J.base, J.hok, rv, q⟩
  | next =>
    obtain ⟨σ', H', J, q⟩ := end_
    exact ⟨.non, H', J.os, J.bare, J.base, J.hok, rfl, q⟩
  | brk => exact (let ⟨_, _, _, z⟩ := end_; (show False from z).elim)
  | cont => exact (let ⟨_, _, _, z⟩ := end_; (show False from z).elim)
/-! ### a def's slots -/
section
variable {K : PySem.W.Frag} {F H : Hp} {fps : Nat → List Addr} {vs : List V} {os : List O}
/-- the slots behind the parameters are empty -/
theorem Good.pad (g : Good K F H (vs.map some) (os.map some) fps) (n m : Nat) (h : vs.length = os.length) (e : n = m) : Good K F H (vs.map some ++ List.replicate n none) (os.map some ++ List.replicate m none) fps := by
  subst e
  have hl : (os.map some).length = (vs.map some).length := by simp [h]
  have key : ∀ i o, (os.map some ++ List.replicate n none)[i]? = some (some o) → (os.map some)[i]? = some (some o) := fun i o e => by
    by_cases hi : i < (os.map some).length
    · rwa [List.getElem?_append_left hi] at e
    · rw [List.getElem?_append_right (by omega), List.getElem?_replicate] at e
      split at e <;> cases e
  refine ⟨g.sub, by simp [h], fun i o e => ?_, fun i hn => g.nil i fun o e => hn o ?_, g.own, g.dis, g.nd⟩
  · obtain ⟨v, ev, ro⟩ := g.env i o (key i o e)
    refine ⟨v, ?_, ro⟩
    have hi : i < (vs.map some).length := (List.getElem?_eq_some_iff.mp ev).1
    rw [List.getElem?_append_left hi]
    exact ev
  · have hi : i < (os.map some).length := (List.getElem?_eq_some_iff.mp e).1
    rw [List.getElem?_append_left hi]
    exact e
end
/-- the body's ends are the def's ends -/
theorem fin_ok {r : Rd} {F H : Hp} {fps : Nat → List Addr} {σ : St} {vs : List V} {io : List Bool} {np : Nat} {sr : SR} {Q : VK} {E : XK} (hW : ∀ cls d σ H, E cls d H → r.W cls d σ H) (hs : ∀ (i : Nat) (w : V), vs[i]? = some w → σ[i]? = some (some w))
    (h : match fin np sr with
      | .ok o outs => ∀ F' H' σ' Γ' fps' v fp, Step F H fps F' H' fps' → Good r.K F' H' σ' Γ' fps' → Tmp r.K F H fps F' H' fps' v o fp → outs = Γ'.take np → (∀ (i : Nat) (w : V), io[i]? = some true → vs[i]? = some w → σ'[i]? = some (some w)) → Q v H'
      | .exc c fs => ∀ F' H' cls d, Step F H fps F' H' (fun _ => []) → Sub F' H' → r.X c fs cls d F' H' → E cls d H'
      | .bad => False) : EvS r (fxAt io) F H fps σ { nx := fun _ H' => Q .non H', rt := Q } sr := by
  have keep : ∀ σ' : St, Kp (fxAt io) σ σ' → ∀ (i : Nat) (w : V), io[i]? = some true → vs[i]? = some w → σ'[i]? = some (some w) := fun σ' kp i w h1 h2 => by
    rw [kp i (by unfold fxAt; rw [List.getD_eq_getElem?_getD, h1]; rfl)]
    exact hs i w h2
  cases sr with
  | nx Γ' => exact fun F' H' fps' σ' s g kp => h F' H' σ' Γ' fps' .non [] s g (Tmp.data .non) rfl (keep σ' kp)
  | rt o Γ' => exact fun F' H' fps' σ' v fp s g kp t => h F' H' σ' Γ' fps' v fp s g t rfl (keep σ' kp)
  | bk Γ' => exact h.elim
  | ct Γ' => exact h.elim
  | exc c fs Γ' => exact fun F' H' fps' σ' cls d s g kp x => hW cls d σ' H' (h F' H' cls d ⟨s.sub, s.keep, s.frz, fun _ _ z => by cases z⟩ g.sub x)
  | bad => exact h.elim
/-! ### the check of a def -/
def nodupS : List Str → Bool
  | [] => true
  | x :: xs => !xs.any (sEq x) && nodupS xs
theorem nodupS_ok : ∀ {l : List Str}, nodupS l = true → l.Nodup
  | [], _ => List.nodup_nil
  | x :: xs, h => by
    obtain ⟨h1, h2⟩ := and_inv h
    rw [List.nodup_cons]
    refine ⟨fun hm => ?_, nodupS_ok h2⟩
    rw [Bool.not_eq_true', List.any_eq_false] at h1
    exact h1 x hm (nsEq_refl _)
def kScope (N : List Str) (np : Nat) (sc : Scope) : Bool :=
  (match sc.kind with | .function => true | _ => false) && !sc.isCoroutine && !sc.isGenerator && nodupS N && (N.take np).all (fun x => match lkS sc.names x with | some .local => true | some .cell => true | _ => false) && sc.names.all (fun y => match y.2 with | .free => false | _ => true)
theorem kScope_ok {N : List Str} {np : Nat} {sc : Scope} (h : kScope N np sc = true) : FnScope N (N.take np) sc := by
  unfold kScope at h
  obtain ⟨h, h6⟩ := and_inv h
  obtain ⟨h, h5⟩ := and_inv h
  obtain ⟨h, h4⟩ := and_inv h
  obtain ⟨h, h3⟩ := and_inv h
  obtain ⟨h1, h2⟩ := and_inv h
  refine ⟨?_, by simpa using h2, by simpa using h3, nodupS_ok h4, ?_, fun x hx => ?_, fun y hy => ?_⟩
  · split at h1
    · assumption
    · cases h1
  · rw [List.length_take]
    by_cases e : np ≤ N.length
    · rw [Nat.min_eq_left e]
    · rw [Nat.min_eq_right (by omega), List.take_length, List.take_of_length_le (by omega)]
  · have q := List.all_eq_true.mp h5 x hx
    split at q
    · exact .inl (lkS_eq (by assumption))
    · exact .inr (lkS_eq (by assumption))
    · cases q
  · have q := List.all_eq_true.mp h6 y hy
    intro z
    rw [z] at q
    cases q
/-- a def's text against its mini form -/
def kDef (tb : Tb) (N : List Str) (fn : Fn) (sc : Scope) (body : List Stmt) : Bool :=
  Nat.beq N.length fn.ns && Nat.ble fn.np fn.ns && kScope N fn.np sc && kSs ⟨N, sc, none, tb⟩ fn.io fn.body body
/-- as many values as parameters -/
def BindsA (fd : FuncData) (ps : List Str) : Prop := ∀ (s : Shared) (us : List Value), us.length = ps.length → BindsTo s fd ⟨us, []⟩ (ps.zip us)
theorem BindsA.to {K : PySem.W.Frag} {fd : FuncData} {ps : List Str} (h : BindsA fd ps) : Binds K fd ps [] := fun s us _ hl => by
  rw [List.append_nil] at hl ⊢
  exact h s us hl
/-- what is known of the program's names, at a base -/
structure Known (K : PySem.W.Frag) (mg : Str → Option Value) (tb : Tb) (Pm : Prog) (pars : Nat → List Str) : Prop where
  xs : ∀ cl ∈ allCl, tb.xs.any (sEq cl.name) = true → mg cl.name = some (.ref (cl.ad K)) ∧ hasCl K cl = true
  ra : ∀ cl, tb.xs.any (sEq cl.name) = true → cl.flds ≠ [] → ∀ (P : Program) (w : World) (base : Heap), RaOk P w K mg base 1 cl
  blt : ∀ s ∈ bltNames, mg (Str.ofString s) = none
  gl : ∀ (g : Nat) (x : Str), tb.gs[g]? = some x → ∃ u v d, mg x = some u ∧ RelV v u ∧ Pm.gls[g]? = some d ∧ ∀ F, RD K F v d
  fns : ∀ (f : Nat) (p : Str × Nat), tb.fs[f]? = some p → ∃ fn N qual params sts sc fa fd, Pm.fns[f]? = some fn ∧ p.2 = fn.np ∧ FunD K p.1 qual params sts sc [] [] fa fd ∧ mg p.1 = some (.ref fa) ∧ N.take fn.np = pars f ∧ BindsA fd (pars f) ∧ kDef tb N fn sc sts = true
/-- the function object at fa -/
def FdAt (K : PySem.W.Frag) (fa : Addr) (fd : FuncData) : Prop := ∃ oc od osl, K.lookup fa = some ⟨oc, od, .func fd, osl⟩
theorem FdAt.one {K : PySem.W.Frag} {fa : Addr} {fd fd2 : FuncData} (h : FdAt K fa fd) (h2 : FdAt K fa fd2) : fd = fd2 := by
  obtain ⟨_, _, _, e⟩ := h
  obtain ⟨_, _, _, e2⟩ := h2
  rw [e] at e2
  cases e2
  rfl
theorem fdAt_of {K : PySem.W.Frag} {x qual : Str} {params : Arguments} {body : List Stmt} {scope : Scope} {dvs : List V} {kws : List (Str × V)} {f : Addr} {fd : FuncData} (D : FunD K x qual params body scope dvs kws f fd) : FdAt K f fd := by
  obtain ⟨oc, od, dV, kV, doc, pm, an, cdv, ct, osl, rfl, lk, hcd, _, _⟩ := D.ex
  exact ⟨_, _, _, lk⟩
/-- every def keeps its promise, at every depth -/
theorem defs_ok {P : Program} {w : World} {K : PySem.W.Frag} {mg : Str → Option Value} {base : Heap} {tb : Tb} {Pm : Prog} {pars : Nat → List Str} (fu : Nat) (kn : Known K mg tb Pm pars) : ∀ (k f : Nat) (p : Str × Nat), tb.fs[f]? = some p → ∃ fa fd, mg p.1 = some (.ref fa) ∧ PySem.W.keepIn K (.ref fa) = true ∧ BindsA fd (pars f) ∧ FdAt K fa fd ∧
    FnG P w K mg base (k + 2) fa fd (pars f) (spG K (XR0 K) (callF Pm fu k) f p.2 (match Pm.fns[f]? with | some fn => fn.io | none => []))
  | 0, f, p, e => by
    obtain ⟨fn, N, qual, params, sts, sc, fa, fd, h1, h2, D, h3, hp, h4, h5⟩ := kn.fns f p e
    have hnp : fn.np = (pars f).length := by
      obtain ⟨h5, _⟩ := and_inv h5
      obtain ⟨h5, _⟩ := and_inv h5
      obtain ⟨a, b⟩ := and_inv h5
      have a := Nat.eq_of_beq_eq_true a
      have b := Nat.le_of_ble_eq_true b
      rw [← hp, List.length_take]; omega
    refine ⟨fa, fd, h3, D.kp, h4, fdAt_of D, ⟨fun vs H Q E q => by rw [q.1, h2, ← hnp], fun A outer s H args us vs Q E room guard e0 binds rel want => ?_⟩⟩
    obtain ⟨_, F, os, fps, _, _, q⟩ := want
    exact q.elim
  | k + 1, f, p, e => by
    obtain ⟨fn, N, qual, params, sts, sc, fa, fd, h1, h2, D, h3, hp, h4, h5⟩ := kn.fns f p e
    unfold kDef at h5
    obtain ⟨h5, k4⟩ := and_inv h5
    obtain ⟨h5, k3⟩ := and_inv h5
    obtain ⟨k1, k2⟩ := and_inv h5
    have k1 := Nat.eq_of_beq_eq_true k1
    have k2 := Nat.le_of_ble_eq_true k2
    have S := kScope_ok k3
    rw [hp] at S
    have hnp : fn.np = (pars f).length := by rw [← hp, List.length_take]; omega
    refine ⟨fa, fd, h3, D.kp, h4, fdAt_of D, fnG_ofD D S (fun vs H Q E q => by rw [q.1, h2, ← hnp]) fun cdv A outer s H vs Q E room guard want => ?_⟩
    obtain ⟨lv, F, os, fps, lo, g, q⟩ := want
    refine ⟨tSs ⟨K, fun cls d _ H => E cls d H, XR0 K⟩ (Pm.ctx fu (callF Pm fu k)) (fxAt fn.io) fn.body, ?_, F, os.map some ++ List.replicate (fn.ns - fn.np) none, fps, ?_, ?_⟩
    · refine kSs_ok fn.body k4 ⟨⟨rfl, S.nd, rfl, S.kind, rfl, ?_, guard, rfl, takes_of rfl rfl rfl rfl, fun x _ => .inl rfl, kn.blt, kn.gl, rfl, kn.xs, fun cl h1 h2 => ⟨1, kn.ra cl h1 h2 P w base, room.mono (by omega)⟩, k + 2, room, fun f2 p2 e2 => ?_⟩, passes_of rfl, rfl, rfl⟩
      · have := room.un
        show (A.deeper (envOfC qual sc s.heap.objs.size fa cdv)).units + 100 < cLine
        omega
      · obtain ⟨fa2, fd2, q1, q2, q3, _, q4⟩ := defs_ok fu kn k f2 p2 e2
        exact ⟨fa2, fd2, _, q1, q2, q3.to, q4⟩
    · unfold L2.start
      refine Good.pad g _ _ (by rw [lv, lo]) ?_
      rw [lv, k1, h2]
    · have e1 : callF Pm fu (k + 1) f os = fin fn.np (evSs (Pm.ctx fu (callF Pm fu k)) fn.body (os.map some ++ List.replicate (fn.ns - fn.np) none)) := by
        show (match Pm.fns[f]? with
          | none => CR.bad
          | some fn => runFn (Pm.ctx fu (callF Pm fu k)) fn os) = _
        rw [h1]
        show (if os.length = fn.np then _ else CR.bad) = _
        rw [if_pos (by rw [lo, h2])]
      rw [e1, h1, h2] at q
      refine fin_ok (vs := vs) (io := fn.io) (np := fn.np) (E := E) (fun _ _ _ _ z => z) (fun i w hw => ?_) q
      unfold L2.start
      rw [List.getElem?_append_left (by rw [List.length_map]; exact (List.getElem?_eq_some_iff.mp hw).1), List.getElem?_map, hw]
      rfl
/-- a def's datum -/
def dat (x : Str) (st : Stmt) : He.DefD := ⟨(x, none), x, x, defArgs st, defBody st, defScope st, [], []⟩
theorem fact_mem {fa : List He.Fa} {fn : List He.DefD} {K : PySem.W.Frag} (c : He.SaysD fa fn K) {f : He.Fa} (h : f ∈ fa) : f.ok K = true := by
  obtain ⟨i, hi⟩ := List.mem_iff_getElem?.mp h
  exact c.fact i hi
def bltFa : List He.Fa := bltNames.map fun s => .free (Str.ofString s)
end MI

set_option maxRecDepth 100000
set_option maxHeartbeats 1900000
/-! MI19: the law's end. -/
namespace MI
open L2 PySem PyProof.Rows PySem.Spec
/-- the promise for the script alone -/
def spS (K : PySem.W.Frag) (sp : Sp) (a : Addr) (ns : List Int) : Prop := ∀ G : Hp, SqL K G a (ns.map V.int) → sp [.ref a] G (fun v _ => v = .bl true) fun _ _ _ => False
/-- the heap in which at most the script is tracked -/
structure Lone (P : Program) (w : World) (K : PySem.W.Frag) (h : Heap) (a : Addr) (ns : List Int) (G : Hp) : Prop where
  seq : SqL K G a (ns.map V.int)
  hok : HOk P w G h
  one : ∀ b u, G b = some u → b = a
  frz : ∀ b u, G b = some u → ∃ o xs, u = .frz o (.lst xs)
  off : ∀ u, G a = some u → K.lookup a = none
theorem lone_of {P : Program} {w : World} {K : PySem.W.Frag} {h : Heap} {a : Addr} {vs : List Value} {ns : List Int} (inK : K.In h) (there : h.get? a = some { cls := .type "list", data := .seq vs.toArray }) (nums : IntsAre vs ns) (len : ns.length ≤ sizeLine) : ∃ G, Lone P w K h a ns G := by
  have rel := vals_ints nums
  have same := nums.length
  cases known : K.lookup a with
  | some ob =>
    have e := inK a ob known
    rw [there] at e
    cases e
    exact ⟨fun _ => none, .inr ⟨_, vs.toArray, _, known, rfl, rfl, rfl, by rw [List.size_toArray, same]; exact len, by simpa using rel⟩, (fun b u z => by cases z), (fun _ _ z => by cases z), (fun _ _ z => by cases z), fun _ z => by cases z⟩
  | none =>
    have at_ : ∀ {b u}, (if b = a then some (HO.frz { cls := .type "list", data := .seq vs.toArray } (.lst (ns.map V.int))) else none) = some u → b = a ∧ u = HO.frz { cls := .type "list", data := .seq vs.toArray } (.lst (ns.map V.int)) := fun {b u} z => by
      by_cases e : b = a
      · rw [if_pos e] at z
        cases z
        exact ⟨e, rfl⟩
      · rw [if_neg e] at z
        cases z
    refine ⟨fun b => if b = a then some (.frz { cls := .type "list", data := .seq vs.toArray } (.lst (ns.map V.int))) else none, .inl (.inr ⟨_, if_pos rfl⟩), fun b u z => ?_, fun b u z => (at_ z).1, fun b u z => ⟨_, _, (at_ z).2⟩, fun _ _ => known⟩
    obtain ⟨rfl, rfl⟩ := at_ z
    exact ⟨there, by rw [List.length_map]; exact len, vs, _, rel, there⟩
theorem law_callG {P : Program} {w : World} {K : PySem.W.Frag} {gm bm : Str → Option Value} {k : Nat} {fa a : Addr} {fd : FuncData} {x : Str} {sp : Sp} {s₀ : Shared} {vs : List Value} {ns : List Int} (inK : K.In s₀.heap) (names : s₀.heap.Ns mainGlobals gm) (blts : s₀.heap.Ns builtinsNs bm)
    (boot : ∀ y : Str, y ≠ "__name__" → bm y = bootBuiltins y) (nolim : s₀.heap.NoLimit) (still : s₀.gens = #[]) (there : s₀.heap.get? a = some { cls := .type "list", data := .seq vs.toArray }) (nums : IntsAre vs ns) (len : ns.length ≤ sizeLine) (room : Room k callerA)
    (keeps : ∀ base : Heap, K.In base → base.Ns mainGlobals gm → FnG P w K gm base k fa fd [x] sp) (binds : ∀ (s : Shared) (u : Value), BindsTo s fd ⟨[u], []⟩ [(x, u)]) (want : spS K sp a ns) :
    codeAny (model P w) callerA (.call (.ref fa) ⟨[.ref a], []⟩) (fun r t => r = .ok (.ret (.bool true)) ∧ OldK s₀.heap t.heap ∧ t.os = s₀.os ∧ AllBare t.gens) s₀ := by
  obtain ⟨G, L⟩ := lone_of (P := P) (w := w) inK there nums len
  -- what is not the script stands in the base
  have stays : ∀ {b : Addr} {o : Obj}, s₀.heap.get? b = some o → G b = none → (hidT s₀.heap G).get? b = some o := fun e n => hidT_get e n
  have free : ∀ {b : Addr} {o : Obj}, s₀.heap.get? b = some o → (∀ ys m, o.data ≠ .seq ys m) → G b = none := fun {b o} e n => by
    cases z : G b with
    | none => rfl
    | some u =>
      have eb := L.one b u z
      rw [eb, there] at e
      cases e
      exact absurd rfl (n _ _)
  have nsOf : ∀ {b : Addr} {m : Str → Option Value}, s₀.heap.Ns b m → (hidT s₀.heap G).Ns b m := fun {b m} ⟨o, es, ep, e, d, r⟩ => ⟨o, es, ep, stays e (free e fun ys m z => by rw [d] at z; cases z), d, r⟩
  have inB : K.In (hidT s₀.heap G) := fun b o e => stays (inK b o e) (by
    cases z : G b with
    | none => rfl
    | some u =>
      have eb := L.one b u z
      rw [eb] at z e
      rw [L.off u z] at e
      cases e)
  obtain ⟨lm, n1, n2⟩ := nolim
  have module : Mod K gm (hidT s₀.heap G) := ⟨inB, nsOf names, ⟨bm, nsOf blts, boot⟩, ⟨lm, nsOf n1, n2⟩⟩
  have start : Env0 P w K gm (hidT s₀.heap G) callerA [] s₀ G := ⟨rfl, module, fun b o e => of_hidT e, Nat.le_of_eq (hidT_size _ _), trivial, fun b z => absurd (show b ∈ ([] : List Addr) from z) (by simp), L.hok, .of_eq still⟩
  refine codeAny_mono ((keeps _ inB (nsOf names)).run callerA [] s₀ G ⟨[.ref a], []⟩ [.ref a] [.ref a] _ _ room rfl start (binds s₀ (.ref a)) (.cons rfl .nil) (want G L.seq)) fun res t end_ => ?_
  match res, end_ with
  | .error e, z =>
    obtain ⟨_, _, _, _, _, _, _, _, _, _, _, _, no⟩ := z
    exact no.elim
  | .ok .next, z => exact z.elim
  | .ok .brk, z => exact z.elim
  | .ok .cont, z => exact z.elim
  | .ok (.ret u), z =>
    obtain ⟨v, G2, os, bare, un, ok2, rel, told⟩ := z
    have told : v = .bl true := told
    subst told
    have eu : u = Value.bool true := rel
    subst eu
    refine ⟨rfl, OldK.of_keep (fun b o e => ?_), os, bare⟩
    cases z : G b with
    | none => exact un.keep b o e z (fun m => absurd (show b ∈ ([] : List Addr) from m) (by simp)) (by simp)
    | some u =>
      obtain ⟨ob, xs, rfl⟩ := L.frz b u z
      have later := un.frzs b ob _ z
      have here := (L.hok b _ z).1
      rw [e] at here
      cases here
      exact (ok2 b _ later).1
/-- a law whose def keeps the promise where nothing on the stack guards a repr -/
theorem walk_ofG {l : PySem.W.OpenLaw} {n k : Nat} {q : Program} {loose : List Str} {XP : (Str → Option Value) → Heap → Prop} {YP : World → Heap → Prop} {d : DefRec} {x : Str} (most : l.most = some n) (fits : n ≤ sizeLine) (plain : d.params.defaults = []) (room : Room k callerA)
    (F : ∀ (w : World) (gm : Str → Option Value) (fa : Addr) (h : Heap), YP w h → h.Ns mainGlobals gm → gm d.name = some (.ref fa) → ∃ (K : PySem.W.Frag) (fd : FuncData) (sp : Sp), K.In h ∧ (∀ (s : Shared) (u : Value), BindsTo s fd ⟨[u], []⟩ [(x, u)]) ∧
      (∀ (a : Addr) (ns : List Int), ns.length ≤ n → spS K sp a ns) ∧ ∀ base : Heap, K.In base → base.Ns mainGlobals gm → FnG l.prog w K gm base k fa fd [x] sp) : PySem.W.WalkO q loose XP YP l.row.toRowW d [] (fun f vs => PySem.call f vs) := by
  refine Att.attach_call most plain fun w sa sb gm bm fa o pm cd doc a vs ns G Y ho hd hcd named obj nums len still => ?_
  obtain ⟨K, fd, sp, inK, binds, want, keeps⟩ := F w gm fa _ Y G.T.g named
  exact law_callG inK G.T.g G.T.b G.T.builtins G.T.nolimit still obj nums (Nat.le_trans len fits) room keeps binds (want a ns len)
/-- what the law's mini form tells is what the def promises -/
theorem spS_of {K : PySem.W.Frag} {XR : XRel} {cf : Nat → List O → CR} {f : Nat} {a : Addr} {ns : List Int} {io : List Bool} (hl : ns.length ≤ sizeLine) (h : ∃ outs, cf f [.s ns] = .ok (.d (.bool true)) outs) : spS K (spG K XR cf f 1 io) a ns := fun G hs => by
  obtain ⟨outs, e⟩ := h
  refine ⟨rfl, G, [.s ns], fun _ => [], rfl, ⟨Sub.refl G, rfl, fun i o e => ?_, fun _ _ => rfl, (fun _ _ z => by cases z), (fun _ _ _ z => by cases z), fun _ => List.nodup_nil⟩, ?_⟩
  · cases i with
    | zero =>
      cases e
      exact ⟨.ref a, rfl, .s hs hl⟩
    | succ i => cases i <;> cases e
  · rw [e]
    exact fun F' H' σ' Γ' fps' v fp _ _ t _ _ => t.bool
/-- the law, by its mini form -/
theorem walk_mini {l : PySem.W.OpenLaw} {n : Nat} {q : Program} {loose : List Str} {XP : (Str → Option Value) → Heap → Prop} {d : DefRec} {fa : List He.Fa} {fn : List He.DefD} {tb : Tb} {Pm : Prog} {pars : Nat → List Str} {f k fu : Nat} {x : Str} (hn : Nat) (most : l.most = some n) (fits : n ≤ sizeLine)
    (plain : d.params.defaults = []) (room : Room (k + 2) callerA) (known : ∀ {K : PySem.W.Frag} {h : Heap} {gm : Str → Option Value}, K.In h → h.Ns mainGlobals gm → He.SaysD fa fn K → Known K gm tb Pm pars) (isLaw : tb.fs[f]? = some (d.name, 1)) (par : pars f = [x])
    (holds : ∀ ns : List Int, ns.length ≤ n → ∃ outs, callF Pm fu k f [.s ns] = .ok (.d (.bool true)) outs) : PySem.W.WalkO q loose XP (He.hookD hn fa fn).says l.row.toRowW d [] (fun f vs => PySem.call f vs) := by
  refine walk_ofG (x := x) (k := k + 2) most fits plain room fun w gm fz h Y G named => ?_
  obtain ⟨K, inK, c⟩ := Y
  have kn := known inK G c
  obtain ⟨fd1, D1⟩ : ∃ fd, (∀ (s : Shared) (u : Value), BindsTo s fd ⟨[u], []⟩ [(x, u)]) ∧ ∀ base : Heap, FnG l.prog w K gm base (k + 2) fz fd [x] (spG K (XR0 K) (callF Pm fu k) f 1 (match Pm.fns[f]? with | some fn => fn.io | none => [])) := by
    obtain ⟨fn0, N, qual, params, sts, sc, fb, fd, h1, h2, D, h3, hp, h4, h5⟩ := kn.fns f _ isLaw
    refine ⟨fd, fun s u => ?_, fun base => ?_⟩
    · have := h4 s [u] (by rw [par]; rfl)
      rw [par] at this
      exact this
    · obtain ⟨fa2, fd2, q1, q2, q3, q5, q4⟩ := defs_ok (P := l.prog) (w := w) (base := base) fu kn k f _ isLaw
      have e1 : fa2 = fz := by
        rw [named] at q1
        cases q1
        rfl
      have e2 : fb = fz := by
        rw [named] at h3
        cases h3
        rfl
      subst e1
      subst e2
      have e3 := q5.one (fdAt_of D)
      subst e3
      rw [par] at q4
      exact q4
  exact ⟨K, fd1, _, inK, D1.1, fun a ns hl => spS_of (Nat.le_trans hl fits) (holds ns hl), fun base _ _ => D1.2 base⟩
end MI

set_option maxRecDepth 100000
/-! MI20: the module's constants: whole numbers, texts, tuples of these. -/
namespace MI
open L2 PySem PyProof.Rows PySem.Spec
mutual
/-- does this value stand for this thing, by what is written -/
def isVal (K : PySem.W.Frag) : D → Value → Bool
  | .none, u => (match u with | .none => true | _ => false)
  | .bool b, u => (match u with | .bool c => b == c | _ => false)
  | .int i, u => (match u with | .int j _ => decide (i = j) | _ => false)
  | .str x, u => (match u with | .str y _ => sEq x y | _ => false)
  | .tuple ds, u => (match u with
    | .ref ad => (match K.lookup ad with
      | some ⟨.type c, none, .seq its _, _⟩ => decide (c = "tuple") && (Nat.ble its.size 1000 && areVals K ds its.toList)
      | _ => false)
    | _ => false)
  | _, _ => false
def areVals (K : PySem.W.Frag) : List D → List Value → Bool
  | [], us => (match us with | [] => true | _ :: _ => false)
  | d :: ds, us => (match us with | u :: us => isVal K d u && areVals K ds us | [] => false)
end
theorem isVal_tup (K : PySem.W.Frag) (ds : List D) (u : Value) : isVal K (.tuple ds) u = (match u with
    | .ref ad => (match K.lookup ad with
      | some ⟨.type c, none, .seq its _, _⟩ => decide (c = "tuple") && (Nat.ble its.size 1000 && areVals K ds its.toList)
      | _ => false)
    | _ => false) := rfl
mutual
theorem isVal_ok {K : PySem.W.Frag} : ∀ (d : D) (u : Value), isVal K d u = true → ∃ v, RelV v u ∧ ∀ F, RD K F v d
  | .none, u, h => by
    cases u <;> first | exact ⟨.non, rfl, fun _ => .non⟩ | cases h
  | .bool b, u, h => by
    cases u <;> first | cases h | skip
    have := eq_of_beq (show (b == _) = true from h)
    subst this
    exact ⟨.bl b, rfl, fun _ => .bl b⟩
  | .int i, u, h => by
    cases u <;> first | cases h | skip
    rename_i j t
    have : i = j := of_decide_eq_true h
    subst this
    exact ⟨.int i, ⟨t, rfl⟩, fun _ => .int i⟩
  | .str x, u, h => by
    cases u <;> first | cases h | skip
    rename_i y t
    have := sEq_eq (show sEq x y = true from h)
    subst this
    exact ⟨.str x, ⟨t, rfl⟩, fun _ => .str x⟩
  | .tuple ds, u, h => by
    rw [isVal_tup] at h
    split at h
    · rename_i a
      split at h
      · rename_i c its n sl e
        obtain ⟨h1, h2⟩ := and_inv h
        obtain ⟨h2, h3⟩ := and_inv h2
        have ec : c = "tuple" := of_decide_eq_true h1
        subst ec
        have hz := Nat.le_of_ble_eq_true h2
        obtain ⟨vs, r1, r2⟩ := areVals_ok ds its.toList h3
        have ln : vs.length = its.size := by rw [r1.length, Array.length_toList]
        refine ⟨.ref a, rfl, fun F => .tup (.inr ⟨_, its, n, e, rfl, rfl, rfl, ?_, r1⟩) ?_ (r2 F)⟩
        · rw [sizeLine_eq]; omega
        · rw [sizeLine_eq]; omega
      · cases h
    · cases h
  | .list _, u, h => by cases h
  | .dict _, u, h => by cases h
theorem areVals_ok {K : PySem.W.Frag} : ∀ (ds : List D) (us : List Value), areVals K ds us = true → ∃ vs, Vals vs us ∧ ∀ F, RDs K F vs ds
  | [], us, h => by
    cases us with
    | nil => exact ⟨[], .nil, fun _ => .nil⟩
    | cons _ _ => cases h
  | d :: ds, us, h => by
    cases us with
    | nil => cases h
    | cons u us =>
      obtain ⟨h1, h2⟩ := and_inv (show (isVal K d u && areVals K ds us) = true from h)
      obtain ⟨v, r1, r2⟩ := isVal_ok d u h1
      obtain ⟨vs, r3, r4⟩ := areVals_ok ds us h2
      exact ⟨v :: vs, .cons r1 r3, fun F => .cons (r2 F) (r4 F)⟩
end
/-- does the module's name stand for this thing -/
def kCn (K : PySem.W.Frag) (c : Str × D) : Bool := match PySem.W.nsIn K mainGlobals c.1 with
  | some (some u) => isVal K c.2 u
  | _ => false
theorem kCn_ok {K : PySem.W.Frag} {h : Heap} {gm : Str → Option Value} (inK : K.In h) (g : h.Ns mainGlobals gm) {c : Str × D} (hc : kCn K c = true) : ∃ u v, gm c.1 = some u ∧ RelV v u ∧ ∀ F, RD K F v c.2 := by
  unfold kCn at hc
  split at hc
  · rename_i u e
    obtain ⟨v, r1, r2⟩ := isVal_ok c.2 u hc
    exact ⟨u, v, PySem.W.mg_of inK g e, r1, r2⟩
  · cases hc
def CnOk (K : PySem.W.Frag) (cn : List (Str × D)) : Prop := cn.all (kCn K) = true
theorem CnOk.gl {K : PySem.W.Frag} {h : Heap} {gm : Str → Option Value} (inK : K.In h) (g : h.Ns mainGlobals gm) : ∀ {l : List (Nat × Str × D)}, CnOk K (l.map (·.2)) → ∀ (i : Nat) (x : Str), lookN (l.map fun p => (p.1, p.2.1)) i = some x →
    ∃ u v d, gm x = some u ∧ RelV v u ∧ lookN (l.map fun p => (p.1, p.2.2)) i = some d ∧ ∀ F, RD K F v d
  | [], _, _, _, e => by cases e
  | (j, y, d) :: r, c, i, x, e => by
    obtain ⟨c1, c2⟩ := and_inv (show (kCn K (y, d) && (r.map (·.2)).all (kCn K)) = true from c)
    have e : (match Nat.beq j i with | true => some y | false => lookN (r.map fun p => (p.1, p.2.1)) i) = some x := e
    show ∃ u v d', gm x = some u ∧ RelV v u ∧ (match Nat.beq j i with | true => some d | false => lookN (r.map fun p => (p.1, p.2.2)) i) = some d' ∧ ∀ F, RD K F v d'
    cases hb : Nat.beq j i with
    | true =>
      rw [hb] at e
      cases e
      obtain ⟨u, v, h1, h2, h3⟩ := kCn_ok inK g c1
      exact ⟨u, v, d, h1, h2, rfl, h3⟩
    | false =>
      rw [hb] at e
      exact CnOk.gl inK g c2 i x e
theorem lookN_app {α : Type} : ∀ {l m : List (Nat × α)} {i : Nat} {a : α}, lookN l i = some a → lookN (l ++ m) i = some a
  | (j, b) :: r, m, i, a, h => by
    show (match Nat.beq j i with | true => some b | false => lookN (r ++ m) i) = some a
    have h : (match Nat.beq j i with | true => some b | false => lookN r i) = some a := h
    cases e : Nat.beq j i with
    | true => rw [e] at h; exact h
    | false => rw [e] at h; exact lookN_app h
theorem gl_more {K : PySem.W.Frag} {gm : Str → Option Value} {x : Str} {l m : List (Nat × D)} {i : Nat} (h : ∃ u v d, gm x = some u ∧ RelV v u ∧ lookN l i = some d ∧ ∀ F, RD K F v d) :
    ∃ u v d, gm x = some u ∧ RelV v u ∧ (⟨l ++ m⟩ : Tab D)[i]? = some d ∧ ∀ F, RD K F v d := by
  obtain ⟨u, v, d, h1, h2, h3, h4⟩ := h
  exact ⟨u, v, d, h1, h2, lookN_app h3, h4⟩
/-- the look at the module, its constants too -/
def obsC (n : Nat) (fa : List He.Fa) (fn : List He.DefD) (cn : List (Str × D)) (g : Addr → Option Obj) : He.AlD × Bool := (He.obsDG n fa fn g, cn.all (kCn (He.frG g (He.asD g n))))
def hookC (n : Nat) (fa : List He.Fa) (fn : List He.DefD) (cn : List (Str × D)) : PySem.W.Hook where
  α := He.AlD × Bool
  obs := fun s => obsC n fa fn cn s.heap.get?
  val := fun _ => (He.valD fn, true)
  says := fun _ h => ∃ K : PySem.W.Frag, K.In h ∧ He.SaysD fa fn K ∧ CnOk K cn
  of := fun _ _ e => ⟨_, He.frG_in, congrArg Prod.fst e, congrArg Prod.snd e⟩
  keeps := fun _ _ _ ⟨K, hK, c, c2⟩ k => ⟨K, PySem.W.Frag.In.keeps hK k, c, c2⟩
theorem obsC_eq {n : Nat} {fa : List He.Fa} {fn : List He.DefD} {cn : List (Str × D)} {g : Addr → Option Obj} {s : Shared} (h : ∀ a, g a = s.heap.get? a) : obsC n fa fn cn g = (hookC n fa fn cn).obs s := by
  have heq : g = s.heap.get? := funext fun a => h a
  rw [heq]
  rfl
/-- the law, by its mini form, with constants -/
theorem walk_miniC {l : PySem.W.OpenLaw} {n : Nat} {q : Program} {loose : List Str} {XP : (Str → Option Value) → Heap → Prop} {d : DefRec} {fa : List He.Fa} {fn : List He.DefD} {cn : List (Str × D)} {tb : Tb} {Pm : Prog} {pars : Nat → List Str} {f k fu : Nat} {x : Str} (hn : Nat) (most : l.most = some n) (fits : n ≤ sizeLine)
    (plain : d.params.defaults = []) (room : Room (k + 2) callerA) (known : ∀ {K : PySem.W.Frag} {h : Heap} {gm : Str → Option Value}, K.In h → h.Ns mainGlobals gm → He.SaysD fa fn K → CnOk K cn → Known K gm tb Pm pars) (isLaw : tb.fs[f]? = some (d.name, 1)) (par : pars f = [x])
    (holds : ∀ ns : List Int, ns.length ≤ n → ∃ outs, callF Pm fu k f [.s ns] = .ok (.d (.bool true)) outs) : PySem.W.WalkO q loose XP (hookC hn fa fn cn).says l.row.toRowW d [] (fun f vs => PySem.call f vs) := by
  refine walk_ofG (x := x) (k := k + 2) most fits plain room fun w gm fz h Y G named => ?_
  obtain ⟨K, inK, c, c2⟩ := Y
  have kn := known inK G c c2
  obtain ⟨fn0, N, qual, params, sts, sc, fb, fd, h1, h2, D, h3, hp, h4, h5⟩ := kn.fns f _ isLaw
  have same : fb = fz := Value.ref.inj (Option.some.inj (h3.symm.trans named))
  subst same
  have one : ∀ (s : Shared) (u : Value), BindsTo s fd ⟨[u], []⟩ [(x, u)] := fun s u => by
    have := h4 s [u] (by rw [par]; rfl)
    rw [par] at this
    exact this
  refine ⟨K, fd, spG K (XR0 K) (callF Pm fu k) f 1 (match Pm.fns[f]? with | some fn => fn.io | none => []), inK, one, fun a ns hl => spS_of (Nat.le_trans hl fits) (holds ns hl), fun base _ _ => ?_⟩
  obtain ⟨fa2, fd2, q1, q2, q3, q5, q4⟩ := defs_ok (P := l.prog) (w := w) (base := base) fu kn k f _ isLaw
  have same2 : fa2 = fb := Value.ref.inj (Option.some.inj (q1.symm.trans named))
  subst same2
  have same3 := q5.one (fdAt_of D)
  subst same3
  rw [par] at q4
  exact q4
end MI

set_option maxRecDepth 100000
set_option maxHeartbeats 1900000
/-! MI21: the head of a law whose program has refusals. -/
namespace MI
open L2 PySem PyProof.Rows PySem.Spec
/-- a class's __init__ as it stands in the text -/
def cIni (st : Stmt) : Stmt := match st with
  | .ClassDef _ _ _ body _ _ _ _ _ _ _ => body.headD st
  | _ => st
def datI (c q : Str) (st : Stmt) : He.DefD := ⟨(c, some "__init__"), "__init__", q, defArgs (cIni st), defBody (cIni st), defScope (cIni st), [], []⟩
def isLo (sc : Scope) (x : Str) : Bool := match lkS sc.names x with
  | some .local => true
  | _ => false
theorem isLo_ok {sc : Scope} {x : Str} (h : isLo sc x = true) : sc.names.lookup x = some .local := by
  unfold isLo at h
  split at h
  · rename_i e
    exact lkS_eq e
  · cases h
def kIn1 (f : Str) (sc : Scope) (body : List Stmt) : Bool := (match body with
  | [a, b] => kIni0 sc a && kFld f f b
  | _ => false) && (kScope ["self", f] 2 sc && (isLo sc "self" && (isLo sc f && plainN f)))
def kIn2 (f g : Str) (sc : Scope) (body : List Stmt) : Bool := (match body with
  | [a, b, c] => kIni0 sc a && (kFld f f b && kFld g g c)
  | _ => false) && (kScope ["self", f, g] 3 sc && (isLo sc "self" && (isLo sc f && (isLo sc g && (plainN f && plainN g)))))
/-- what the head looks at in the classes: those that are named, those that are raised -/
def kXc (K : PySem.W.Frag) (xs rs : List Cl) : Bool := xs.all (fun c => hasCl K c && isCl K c) && ((rs.isEmpty || isHe K (Cl.handError.ad K)) && rs.all fun c => isOex K (c.ad K) && (He.Fa.meth c.name "__init__").ok K)
section
variable {K : PySem.W.Frag} {h : Heap} {gm : Str → Option Value} {xs rs : List Cl} {c : Cl}
theorem kXc_at (inK : K.In h) (g : h.Ns mainGlobals gm) (k : kXc K xs rs = true) (hc : c ∈ xs) : gm c.name = some (.ref (c.ad K)) ∧ hasCl K c = true ∧ ClOk K c := by
  obtain ⟨k1, _⟩ := and_inv k
  obtain ⟨a, b⟩ := and_inv (List.all_eq_true.mp k1 c hc)
  exact ⟨PySem.W.mg_of inK g (of_decide_eq_true a), a, isCl_ok b⟩
theorem kXc_in {tb : Tb} (hx : (allCl.all fun c => !tb.xs.any (sEq c.name) || xs.any fun z => decide (z = c)) = true) (hc : c ∈ allCl) (e : tb.xs.any (sEq c.name) = true) : c ∈ xs := by
  have q := List.all_eq_true.mp hx c hc
  rw [e] at q
  obtain ⟨z, hz, ez⟩ := List.any_eq_true.mp (show xs.any (fun z => decide (z = c)) = true from q)
  rw [← of_decide_eq_true ez]
  exact hz
theorem kXc_ra (k : kXc K xs rs = true) (hr : c ∈ rs) : HeC K (Cl.handError.ad K) ∧ OexC K (c.ad K) ∧ Meth K (c.ad K) "__init__" (He.ma K (c.ad K) "__init__") := by
  obtain ⟨_, k⟩ := and_inv k
  obtain ⟨k1, k2⟩ := and_inv k
  obtain ⟨a, b⟩ := and_inv (List.all_eq_true.mp k2 c hr)
  refine ⟨isHe_ok ?_, isOex_ok a, He.meth_ok b⟩
  cases rs with
  | nil => cases hr
  | cons _ _ => exact k1
theorem ra1_ok {f q : Str} {params : Arguments} {body : List Stmt} {sc : Scope} {fd : FuncData} (hfl : c.flds = [f]) (D : FunD K "__init__" q params body sc [] [] (He.ma K (c.ad K) "__init__") fd) (hb : BindsA fd ["self", f]) (hk : kIn1 f sc body = true)
    (k : kXc K xs rs = true) (hr : c ∈ rs) (cl : ClOk K c) (h0 : gm "HandError" = some (.ref (Cl.handError.ad K))) (at_ : gm c.name = some (.ref (c.ad K))) (hf : f ∈ fldN) (P : Program) (w : World) (base : Heap) : RaOk P w K gm base 1 c := by
  obtain ⟨T, O, M⟩ := kXc_ra k hr
  unfold kIn1 at hk
  obtain ⟨k1, hk⟩ := and_inv hk
  obtain ⟨k2, hk⟩ := and_inv hk
  obtain ⟨k3, hk⟩ := and_inv hk
  obtain ⟨k4, k5⟩ := and_inv hk
  split at k1
  · obtain ⟨k6, k7⟩ := and_inv k1
    refine ⟨at_, O, cl, _, fd, ["self", f], M.at_, beq_iff_eq.mp M.fn, hb.to, ?_⟩
    have e : spI K c = spI1 K (c.ad K) f := by
      unfold spI
      rw [hfl]
    rw [e]
    exact ini1_ok D (kScope_ok k2) k6 k7 (isLo_ok k3) (isLo_ok k4) k5 h0 T O (cl.no f hf)
  · cases k1
theorem ra2_ok {f g q : Str} {params : Arguments} {body : List Stmt} {sc : Scope} {fd : FuncData} (hfl : c.flds = [f, g]) (D : FunD K "__init__" q params body sc [] [] (He.ma K (c.ad K) "__init__") fd) (hb : BindsA fd ["self", f, g]) (hk : kIn2 f g sc body = true)
    (k : kXc K xs rs = true) (hr : c ∈ rs) (cl : ClOk K c) (h0 : gm "HandError" = some (.ref (Cl.handError.ad K))) (at_ : gm c.name = some (.ref (c.ad K))) (hf : f ∈ fldN) (hg : g ∈ fldN) (P : Program) (w : World) (base : Heap) : RaOk P w K gm base 1 c := by
  obtain ⟨T, O, M⟩ := kXc_ra k hr
  unfold kIn2 at hk
  obtain ⟨k1, hk⟩ := and_inv hk
  obtain ⟨k2, hk⟩ := and_inv hk
  obtain ⟨k3, hk⟩ := and_inv hk
  obtain ⟨k4, hk⟩ := and_inv hk
  obtain ⟨k5, hk⟩ := and_inv hk
  obtain ⟨k8, k9⟩ := and_inv hk
  split at k1
  · obtain ⟨k6, k1⟩ := and_inv k1
    obtain ⟨k7, k10⟩ := and_inv k1
    refine ⟨at_, O, cl, _, fd, ["self", f, g], M.at_, beq_iff_eq.mp M.fn, hb.to, ?_⟩
    have e : spI K c = spI2 K (c.ad K) f g := by
      unfold spI
      rw [hfl]
    rw [e]
    exact ini2_ok D (kScope_ok k2) k6 k7 k10 (isLo_ok k3) (isLo_ok k4) (isLo_ok k5) k8 k9 h0 T O (cl.no f hf) (cl.no g hg)
  · cases k1
end
/-- the objects looked at: the module's, and the interpreter's own table -/
def frX (g : Addr → Option Obj) (n : Nat) : PySem.W.Frag := He.frG g (cStatics :: He.asD g n)
/-- the look at the module, its constants and classes too -/
def obsX (n : Nat) (fa : List He.Fa) (fn : List He.DefD) (cn : List (Str × D)) (xs rs : List Cl) (g : Addr → Option Obj) : (He.AlD × Bool) × Bool := ((He.obsD fa fn (frX g n), cn.all (kCn (frX g n))), kXc (frX g n) xs rs)
def hookX (n : Nat) (fa : List He.Fa) (fn : List He.DefD) (cn : List (Str × D)) (xs rs : List Cl) : PySem.W.Hook where
  α := (He.AlD × Bool) × Bool
  obs := fun s => obsX n fa fn cn xs rs s.heap.get?
  val := fun _ => ((He.valD fn, true), true)
  says := fun _ h => ∃ K : PySem.W.Frag, K.In h ∧ He.SaysD fa fn K ∧ CnOk K cn ∧ kXc K xs rs = true
  of := fun _ _ e => ⟨_, He.frG_in, congrArg Prod.fst (congrArg Prod.fst e), congrArg Prod.snd (congrArg Prod.fst e), congrArg Prod.snd e⟩
  keeps := fun _ _ _ ⟨K, inK, c⟩ k => ⟨K, PySem.W.Frag.In.keeps inK k, c⟩
theorem obsX_eq {n : Nat} {fa : List He.Fa} {fn : List He.DefD} {cn : List (Str × D)} {xs rs : List Cl} {g : Addr → Option Obj} {s : Shared} (h : ∀ a, g a = s.heap.get? a) : obsX n fa fn cn xs rs g = (hookX n fa fn cn xs rs).obs s := by
  have heq : g = s.heap.get? := funext fun a => h a
  rw [heq]
  rfl
/-- the law, by its mini form, with constants and classes -/
theorem walk_miniX {l : PySem.W.OpenLaw} {n : Nat} {q : Program} {loose : List Str} {XP : (Str → Option Value) → Heap → Prop} {d : DefRec} {fa : List He.Fa} {fn : List He.DefD} {cn : List (Str × D)} {xs rs : List Cl} {tb : Tb} {Pm : Prog} {pars : Nat → List Str} {f k fu : Nat} {x : Str} (hn : Nat) (most : l.most = some n) (fits : n ≤ sizeLine)
    (plain : d.params.defaults = []) (room : Room (k + 2) callerA) (known : ∀ {K : PySem.W.Frag} {h : Heap} {gm : Str → Option Value}, K.In h → h.Ns mainGlobals gm → He.SaysD fa fn K → CnOk K cn → kXc K xs rs = true → Known K gm tb Pm pars) (isLaw : tb.fs[f]? = some (d.name, 1)) (par : pars f = [x])
    (holds : ∀ ns : List Int, ns.length ≤ n → ∃ outs, callF Pm fu k f [.s ns] = .ok (.d (.bool true)) outs) : PySem.W.WalkO q loose XP (hookX hn fa fn cn xs rs).says l.row.toRowW d [] (fun f vs => PySem.call f vs) := by
  refine walk_ofG (x := x) (k := k + 2) most fits plain room fun w gm fz h Y G named => ?_
  obtain ⟨K, inK, c, c2, c3⟩ := Y
  have kn := known inK G c c2 c3
  obtain ⟨fn0, N, qual, params, sts, sc, fb, fd, h1, h2, D, h3, hp, h4, h5⟩ := kn.fns f _ isLaw
  have same : fb = fz := Value.ref.inj (Option.some.inj (h3.symm.trans named))
  subst same
  have one : ∀ (s : Shared) (u : Value), BindsTo s fd ⟨[u], []⟩ [(x, u)] := fun s u => by
    have := h4 s [u] (by rw [par]; rfl)
    rw [par] at this
    exact this
  refine ⟨K, fd, spG K (XR0 K) (callF Pm fu k) f 1 (match Pm.fns[f]? with | some fn => fn.io | none => []), inK, one, fun a ns hl => spS_of (Nat.le_trans hl fits) (holds ns hl), fun base _ _ => ?_⟩
  obtain ⟨fa2, fd2, q1, q2, q3, q5, q4⟩ := defs_ok (P := l.prog) (w := w) (base := base) fu kn k f _ isLaw
  have same2 : fa2 = fb := Value.ref.inj (Option.some.inj (q1.symm.trans named))
  subst same2
  have same3 := q5.one (fdAt_of D)
  subst same3
  rw [par] at q4
  exact q4
end MI

set_option maxRecDepth 100000
/-! MP0: reasoning over the mini interpreter. -/
namespace MI
open PySem
/-- what is wished of a statement's ends -/
structure Po where
  nx : Env → Prop
  rt : O → Env → Prop := fun _ _ => False
  bk : Env → Prop := fun _ => False
  ct : Env → Prop := fun _ => False
  ex : Cl → List (Str × D) → Env → Prop := fun _ _ _ => False
def SR.wp : SR → Po → Prop
  | .nx Γ, Q => Q.nx Γ
  | .rt o Γ, Q => Q.rt o Γ
  | .bk Γ, Q => Q.bk Γ
  | .ct Γ, Q => Q.ct Γ
  | .exc c fs Γ, Q => Q.ex c fs Γ
  | .bad, _ => False
def R.wp {α : Type} : R α → (α → Env → Prop) → (Cl → List (Str × D) → Env → Prop) → Prop
  | .ok a Γ, Q, _ => Q a Γ
  | .exc c fs Γ, _, E => E c fs Γ
  | .bad, _, _ => False
@[simp] theorem SR.wp_nx (Γ : Env) (Q : Po) : (SR.nx Γ).wp Q = Q.nx Γ := rfl
@[simp] theorem SR.wp_rt (o : O) (Γ : Env) (Q : Po) : (SR.rt o Γ).wp Q = Q.rt o Γ := rfl
theorem forLoop_wp {t : T} {b : Env → SR} {xs : List D} {Γ : Env} {Q : Po} (I : Nat → Env → Prop) (h0 : I 0 Γ) (step : ∀ i x Γ, xs[i]? = some x → I i Γ → ∃ Γ1, asgT t x Γ = some Γ1 ∧ (b Γ1).wp { Q with nx := I (i + 1), ct := I (i + 1), bk := Q.nx }) (fin : ∀ Γ, I xs.length Γ → Q.nx Γ) : (forLoop t b xs Γ).wp Q := by
  induction xs generalizing I Γ with
  | nil => exact fin Γ h0
  | cons x xs ih =>
    obtain ⟨Γ1, e1, h1⟩ := step 0 x Γ rfl h0
    show SR.wp (match asgT t x Γ with
      | none => .bad
      | some Γ1 => match b Γ1 with
        | .nx Γ2 => forLoop t b xs Γ2
        | .ct Γ2 => forLoop t b xs Γ2
        | .bk Γ2 => .nx Γ2
        | r => r) Q
    rw [e1]
    have next : ∀ Γ2, I 1 Γ2 → (forLoop t b xs Γ2).wp Q := fun Γ2 h2 => ih (fun i => I (i + 1)) h2 (fun i y Γ e h => step (i + 1) y Γ (by simpa using e) h) fin
    show SR.wp (match b Γ1 with
        | .nx Γ2 => forLoop t b xs Γ2
        | .ct Γ2 => forLoop t b xs Γ2
        | .bk Γ2 => .nx Γ2
        | r => r) Q
    cases eb : b Γ1 with
    | nx Γ2 => rw [eb] at h1; exact next Γ2 h1
    | ct Γ2 => rw [eb] at h1; exact next Γ2 h1
    | bk Γ2 => rw [eb] at h1; exact h1
    | rt o Γ2 => rw [eb] at h1; exact h1
    | exc c fs Γ2 => rw [eb] at h1; exact h1
    | bad => rw [eb] at h1; exact h1
/-- the turns of a comprehension: J i ys Γ holds behind i of them -/
theorem lcLoop_ok {own : List Nat} {t : T} {c : Env → R Bool} {f : Env → R D} {xs : List D} {Γ : Env} (J : Nat → List D → Env → Prop) (h0 : J 0 [] Γ)
    (step : ∀ i x ys Γ, xs[i]? = some x → J i ys Γ → ∃ Γ1 b Γ2, asgT t x (wipe Γ own) = some Γ1 ∧ c Γ1 = .ok b Γ2 ∧ (b = true → ∃ y Γ3, f Γ2 = .ok y Γ3 ∧ J (i + 1) (ys ++ [y]) Γ3) ∧ (b = false → J (i + 1) ys Γ2)) : ∃ ys Γ', lcLoop own t c f xs Γ = .ok ys Γ' ∧ J xs.length ys Γ' := by
  have key : ∀ (zs : List D) (i : Nat) (acc : List D) (Γ : Env), xs.drop i = zs → i ≤ xs.length → J i acc Γ → ∃ ys Γ', lcLoop own t c f zs Γ = .ok ys Γ' ∧ J xs.length (acc ++ ys) Γ' := by
    intro zs
    induction zs with
    | nil =>
      intro i acc Γ e hi h
      have : i = xs.length := by
        have := congrArg List.length e
        simp at this
        omega
      subst this
      exact ⟨[], Γ, rfl, by simpa using h⟩
    | cons x zs ih =>
      intro i acc Γ e hi h
      have hx : xs[i]? = some x := by
        have := congrArg (·[0]?) e
        simpa using this
      have hl : i < xs.length := (List.getElem?_eq_some_iff.mp hx).1
      have e2 : xs.drop (i + 1) = zs := by
        rw [← List.tail_drop, e]
        rfl
      obtain ⟨Γ1, b, Γ2, h1, h2, h3, h4⟩ := step i x acc Γ hx h
      show ∃ ys Γ', (match asgT t x (wipe Γ own) with
        | none => R.bad
        | some Γ1 => match c Γ1 with
          | .ok true Γ2 => (f Γ2).bind fun y Γ3 => (lcLoop own t c f zs Γ3).bind fun ys Γ4 => .ok (y :: ys) Γ4
          | .ok false Γ2 => lcLoop own t c f zs Γ2
          | _ => .bad) = .ok ys Γ' ∧ _
      rw [h1]
      simp only [h2]
      cases b with
      | false => exact ih (i + 1) acc Γ2 e2 hl (h4 rfl)
      | true =>
        obtain ⟨y, Γ3, h5, h6⟩ := h3 rfl
        obtain ⟨ys, Γ', h7, h8⟩ := ih (i + 1) (acc ++ [y]) Γ3 e2 hl h6
        refine ⟨y :: ys, Γ', ?_, by simpa using h8⟩
        simp only [h5, R.bind_ok, h7]
  obtain ⟨ys, Γ', h1, h2⟩ := key xs 0 [] Γ rfl (Nat.zero_le _) h0
  exact ⟨ys, Γ', h1, by simpa using h2⟩
theorem seq_wp {a : SR} {f : Env → SR} {Q : Po} (h : a.wp { Q with nx := fun Γ => (f Γ).wp Q }) : (a.seq f).wp Q := by
  cases a <;> exact h
theorem st_wp {α : Type} {a : R α} {f : α → Env → SR} {Q : Po} {x : α} {Γ : Env} (e : a = .ok x Γ) (h : (f x Γ).wp Q) : (a.st f).wp Q := by
  rw [e]
  exact h
theorem SR.wp_mono {a : SR} {Q Q' : Po} (h : a.wp Q) (h1 : ∀ Γ, Q.nx Γ → Q'.nx Γ) (h2 : ∀ o Γ, Q.rt o Γ → Q'.rt o Γ) (h3 : ∀ Γ, Q.bk Γ → Q'.bk Γ) (h4 : ∀ Γ, Q.ct Γ → Q'.ct Γ) (h5 : ∀ c fs Γ, Q.ex c fs Γ → Q'.ex c fs Γ) : a.wp Q' := by
  cases a with
  | nx Γ => exact h1 Γ h
  | rt o Γ => exact h2 o Γ h
  | bk Γ => exact h3 Γ h
  | ct Γ => exact h4 Γ h
  | exc c fs Γ => exact h5 c fs Γ h
  | bad => exact h
/-- a def's end -/
theorem fin_wp {np : Nat} {a : SR} {Q : O → Env → Prop} (h : a.wp { nx := fun Γ => Q (.d .none) (Γ.take np), rt := fun o Γ => Q o (Γ.take np) }) : ∃ o outs, fin np a = .ok o outs ∧ Q o outs := by
  cases a with
  | nx Γ => exact ⟨_, _, rfl, h⟩
  | rt o Γ => exact ⟨_, _, rfl, h⟩
  | _ => exact h.elim
theorem fin_rt {np : Nat} {a : SR} {Rt : O → Env → Prop} (h : a.wp { nx := fun _ => False, rt := Rt }) : ∃ o Γ, fin np a = .ok o (Γ.take np) ∧ Rt o Γ := by
  cases a with
  | rt o Γ => exact ⟨_, _, rfl, h⟩
  | _ => exact h.elim
theorem seq_wp_eq (a : SR) (f : Env → SR) (Q : Po) : (a.seq f).wp Q = a.wp { Q with nx := fun Γ => (f Γ).wp Q } := by
  cases a <;> rfl
end MI

set_option maxRecDepth 100000
/-! MP1: the mini interpreter's steps, one by one, without lambdas. -/
namespace MI
open PySem
section
variable (X : Ctx)
/-! ### expressions -/
def kTD (o : O) (Γ : Env) : R D := toD o Γ
theorem toD_eq (r : R O) : r.toD = r.bind kTD := rfl
theorem kTD_d (x : D) (Γ : Env) : kTD (.d x) Γ = .ok x Γ := rfl
theorem kTD_l (x : List D) (Γ : Env) : kTD (.l x) Γ = .ok (.list x) Γ := rfl
theorem kTD_k (x : List (D × D)) (Γ : Env) : kTD (.k x) Γ = .ok (.dict x) Γ := rfl
theorem kTD_ll (x : List (List D)) (Γ : Env) : kTD (.ll x) Γ = .ok (.list (x.map .list)) Γ := rfl
def kTB (o : O) (Γ : Env) : R Bool := match o with
  | .d (.bool b) => .ok b Γ
  | _ => .bad
theorem toB_eq (r : R O) : r.toB = r.bind kTB := rfl
theorem kTB_b (b : Bool) (Γ : Env) : kTB (.d (.bool b)) Γ = .ok b Γ := rfl
def kV (x : D) (Γ : Env) : R B := .ok (.v x) Γ
/-- an operand that is no name -/
def isV : E → Bool
  | .var _ => true
  | _ => false
theorem opB_v {e : E} (h : isV e = false) (Γ : Env) (r : R O) : opB e Γ r = (r.bind kTD).bind kV := by cases e <;> first | rfl | cases h
theorem opB_cst (x : D) (Γ : Env) (r : R O) : opB (.cst x) Γ r = (r.bind kTD).bind kV := rfl
theorem opB_glob (g : Nat) (Γ : Env) (r : R O) : opB (.glob g) Γ r = (r.bind kTD).bind kV := rfl
theorem opB_bin (op : Bop) (a b : E) (Γ : Env) (r : R O) : opB (.bin op a b) Γ r = (r.bind kTD).bind kV := rfl
theorem opB_not (a : E) (Γ : Env) (r : R O) : opB (.not a) Γ r = (r.bind kTD).bind kV := rfl
theorem opB_neg (a : E) (Γ : Env) (r : R O) : opB (.neg a) Γ r = (r.bind kTD).bind kV := rfl
theorem opB_and (a b : E) (Γ : Env) (r : R O) : opB (.and a b) Γ r = (r.bind kTD).bind kV := rfl
theorem opB_or (a b : E) (Γ : Env) (r : R O) : opB (.or a b) Γ r = (r.bind kTD).bind kV := rfl
theorem opB_cmp (op : Cop) (a b : E) (Γ : Env) (r : R O) : opB (.cmp op a b) Γ r = (r.bind kTD).bind kV := rfl
theorem opB_chain (op op2 : Cop) (a b c : E) (Γ : Env) (r : R O) : opB (.chain op op2 a b c) Γ r = (r.bind kTD).bind kV := rfl
theorem opB_ite (a b c : E) (Γ : Env) (r : R O) : opB (.ite a b c) Γ r = (r.bind kTD).bind kV := rfl
theorem opB_tup (es : Es) (Γ : Env) (r : R O) : opB (.tup es) Γ r = (r.bind kTD).bind kV := rfl
theorem opB_lst (es : Es) (Γ : Env) (r : R O) : opB (.lst es) Γ r = (r.bind kTD).bind kV := rfl
theorem opB_dct (es : Es) (Γ : Env) (r : R O) : opB (.dct es) Γ r = (r.bind kTD).bind kV := rfl
theorem opB_lc (own : List Nat) (t : T) (it : I) (c e : E) (Γ : Env) (r : R O) : opB (.lc own t it c e) Γ r = (r.bind kTD).bind kV := rfl
theorem opB_idx (a b : E) (Γ : Env) (r : R O) : opB (.idx a b) Γ r = (r.bind kTD).bind kV := rfl
theorem opB_slh (a b : E) (Γ : Env) (r : R O) : opB (.slh a b) Γ r = (r.bind kTD).bind kV := rfl
theorem opB_sll (a b : E) (Γ : Env) (r : R O) : opB (.sll a b) Γ r = (r.bind kTD).bind kV := rfl
theorem opB_slb (a b c : E) (Γ : Env) (r : R O) : opB (.slb a b c) Γ r = (r.bind kTD).bind kV := rfl
theorem opB_scut (i : Nat) (n : Int) (Γ : Env) (r : R O) : opB (.scut i n) Γ r = (r.bind kTD).bind kV := rfl
theorem opB_rev (a : E) (Γ : Env) (r : R O) : opB (.rev a) Γ r = (r.bind kTD).bind kV := rfl
theorem opB_call (f : Nat) (es : Es) (Γ : Env) (r : R O) : opB (.call f es) Γ r = (r.bind kTD).bind kV := rfl
theorem opB_blt (b : Blt) (a : E) (Γ : Env) (r : R O) : opB (.blt b a) Γ r = (r.bind kTD).bind kV := rfl
theorem opB_blts (b : Blt) (es : Es) (Γ : Env) (r : R O) : opB (.blts b es) Γ r = (r.bind kTD).bind kV := rfl
theorem opB_mth (m : Mth) (a : E) (es : Es) (Γ : Env) (r : R O) : opB (.mth m a es) Γ r = (r.bind kTD).bind kV := rfl
theorem opB_pop (i : Nat) (Γ : Env) (r : R O) : opB (.pop i) Γ r = (r.bind kTD).bind kV := rfl
theorem opB_popat (i : Nat) (e : E) (Γ : Env) (r : R O) : opB (.popat i e) Γ r = (r.bind kTD).bind kV := rfl
theorem opB_att (i : Nat) (f : Str) (Γ : Env) (r : R O) : opB (.att i f) Γ r = (r.bind kTD).bind kV := rfl
theorem opB_isi (a : E) (ty : Ty) (Γ : Env) (r : R O) : opB (.isi a ty) Γ r = (r.bind kTD).bind kV := rfl
theorem opB_isx (i : Nat) (cs : List Cl) (Γ : Env) (r : R O) : opB (.isx i cs) Γ r = (r.bind kTD).bind kV := rfl
def hasS (Γ : Env) (i : Nat) : Bool := match Γ[i]? with
  | some (some _) => true
  | _ => false
theorem opB_s (i : Nat) (Γ : Env) (r : R O) : opB (.var i) Γ r = match hasS Γ i with | true => .ok (.sl i) Γ | false => .bad := by
  show (match Γ[i]? with
    | some (some _) => R.ok (B.sl i) Γ
    | _ => .bad) = _
  unfold hasS
  cases Γ[i]? with
  | none => rfl
  | some o => cases o <;> rfl
theorem hasS_0 (o : O) (Γ : Env) : hasS (some o :: Γ) 0 = true := rfl
theorem hasS_s (o : Option O) (Γ : Env) (i : Nat) : hasS (o :: Γ) (i + 1) = hasS Γ i := by
  unfold hasS
  rw [List.getElem?_cons_succ]
def kBin2 (op : Bop) (x y : D) (Γ : Env) : R O := optR (bop op x y) Γ
def kBin1 (op : Bop) (q : B) (x : D) (Γ : Env) : R O := (rdB q Γ).bind (kBin2 op x)
def kBin0 (op : Bop) (p q : B) (Γ : Env) : R O := (rdB p Γ).bind (kBin1 op q)
def kBin (op : Bop) (b : E) (p : B) (Γ : Env) : R O := (opB b Γ (evE X b Γ)).bind (kBin0 op p)
theorem ev_bin (op : Bop) (a b : E) (Γ : Env) : evE X (.bin op a b) Γ = (opB a Γ (evE X a Γ)).bind (kBin X op b) := rfl
def kBo (r : Bool) (Γ : Env) : R O := .ok (.d (.bool r)) Γ
def kCmp2 (op : Cop) (x y : D) (Γ : Env) : R O := (optR (cop op x y) Γ).bind kBo
def kCmp1 (op : Cop) (q : B) (x : D) (Γ : Env) : R O := (rdB q Γ).bind (kCmp2 op x)
def kCmp0 (op : Cop) (p q : B) (Γ : Env) : R O := (rdB p Γ).bind (kCmp1 op q)
def kCmp (op : Cop) (b : E) (p : B) (Γ : Env) : R O := (opB b Γ (evE X b Γ)).bind (kCmp0 op p)
theorem ev_cmp (op : Cop) (a b : E) (Γ : Env) : evE X (.cmp op a b) Γ = (opB a Γ (evE X a Γ)).bind (kCmp X op b) := rfl
def kNot (b : Bool) (Γ : Env) : R O := .ok (.d (.bool (!b))) Γ
theorem ev_not (a : E) (Γ : Env) : evE X (.not a) Γ = ((evE X a Γ).bind kTB).bind kNot := rfl
def kAnd (b : E) (x : D) (Γ : Env) : R O := match x with
  | .bool true => evE X b Γ
  | .bool false => .ok (.d (.bool false)) Γ
  | _ => .bad
theorem ev_and (a b : E) (Γ : Env) : evE X (.and a b) Γ = ((evE X a Γ).bind kTD).bind (kAnd X b) := rfl
theorem kAnd_t (b : E) (Γ : Env) : kAnd X b (.bool true) Γ = evE X b Γ := rfl
theorem kAnd_f (b : E) (Γ : Env) : kAnd X b (.bool false) Γ = .ok (.d (.bool false)) Γ := rfl
def kOr (b : E) (x : D) (Γ : Env) : R O := match x with
  | .bool true => .ok (.d (.bool true)) Γ
  | .bool false => evE X b Γ
  | _ => .bad
theorem ev_or (a b : E) (Γ : Env) : evE X (.or a b) Γ = ((evE X a Γ).bind kTD).bind (kOr X b) := rfl
theorem kOr_t (b : E) (Γ : Env) : kOr X b (.bool true) Γ = .ok (.d (.bool true)) Γ := rfl
theorem kOr_f (b : E) (Γ : Env) : kOr X b (.bool false) Γ = evE X b Γ := rfl
def kIte (a b : E) (t : Bool) (Γ : Env) : R O := match t with
  | true => evE X a Γ
  | false => evE X b Γ
theorem ev_ite (c a b : E) (Γ : Env) : evE X (.ite c a b) Γ = ((evE X c Γ).bind kTB).bind (kIte X a b) := rfl
theorem kIte_t (a b : E) (Γ : Env) : kIte X a b true Γ = evE X a Γ := rfl
theorem kIte_f (a b : E) (Γ : Env) : kIte X a b false Γ = evE X b Γ := rfl
def kTup (xs : List D) (Γ : Env) : R O := .ok (.d (.tuple xs)) Γ
def kLst (xs : List D) (Γ : Env) : R O := .ok (.l xs) Γ
theorem ev_tup (es : Es) (Γ : Env) : evE X (.tup es) Γ = (evDs X es Γ).bind kTup := rfl
theorem ev_lst (es : Es) (Γ : Env) : evE X (.lst es) Γ = (evDs X es Γ).bind kLst := rfl
def kCons (x : D) (xs : List D) (Γ : Env) : R (List D) := .ok (x :: xs) Γ
def kDs (es : Es) (x : D) (Γ : Env) : R (List D) := (evDs X es Γ).bind (kCons x)
theorem evDs_nil (Γ : Env) : evDs X .nil Γ = .ok [] Γ := rfl
theorem evDs_cons (e : E) (es : Es) (Γ : Env) : evDs X (.cons e es) Γ = ((evE X e Γ).bind kTD).bind (kDs X es) := rfl
def kD1 (y : D) (Γ : Env) : R O := .ok (.d y) Γ
def kIdx1 (j x : D) (Γ : Env) : R O := (optR (idxD x j) Γ).bind kD1
def kIdx0 (p : B) (j : D) (Γ : Env) : R O := (rdB p Γ).bind (kIdx1 j)
def kIdx (i : E) (p : B) (Γ : Env) : R O := ((evE X i Γ).bind kTD).bind (kIdx0 p)
theorem ev_idx (a i : E) (Γ : Env) : evE X (.idx a i) Γ = (opB a Γ (evE X a Γ)).bind (kIdx X i) := rfl
def kBlt1 (b : Blt) (x : D) (Γ : Env) : R O := optR (MI.blt b [x]) Γ
def kBlt (b : Blt) (p : B) (Γ : Env) : R O := (rdB p Γ).bind (kBlt1 b)
theorem ev_blt (b : Blt) (a : E) (Γ : Env) : evE X (.blt b a) Γ = (opB a Γ (evE X a Γ)).bind (kBlt b) := rfl
def kCall (f : Nat) (args : Es) (os : List O) (Γ : Env) : R O := match X.cf f os with
  | .ok v outs => .ok v (takeBack (X.io f) args outs Γ)
  | .exc c fs => .exc c fs Γ
  | .bad => .bad
theorem ev_call (f : Nat) (args : Es) (Γ : Env) : evE X (.call f args) Γ = (evAs X (X.io f) args Γ).bind (kCall X f args) := rfl
theorem kCall_ok {f : Nat} {args : Es} {os : List O} {v : O} {outs Γ : Env} (h : X.cf f os = .ok v outs) : kCall X f args os Γ = .ok v (takeBack (X.io f) args outs Γ) := by unfold kCall; rw [h]
def kConsO (o : O) (os : List O) (Γ : Env) : R (List O) := .ok (o :: os) Γ
def kAs1 (io : List Bool) (es : Es) (o : O) (Γ : Env) : R (List O) := (evAs X io es Γ).bind (kConsO o)
def kAs (io : List Bool) (es : Es) (o : O) (Γ : Env) : R (List O) := (pass1 o Γ).bind (kAs1 X io es)
theorem evAs_nil (io : List Bool) (Γ : Env) : evAs X io .nil Γ = .ok [] Γ := rfl
theorem evAs_pass (io : List Bool) (e : E) (es : Es) (Γ : Env) : evAs X (false :: io) (.cons e es) Γ = (evE X e Γ).bind (kAs X io es) := rfl
def kGv (i : Nat) (os : List O) (Γ : Env) : R (List O) := gvO (slot Γ i) i os Γ
theorem gvO_some (o : O) (i : Nat) (os : List O) (Γ : Env) : gvO (some o) i os Γ = .ok (o :: os) (Γ.set i none) := rfl
theorem evAs_give {io : List Bool} {i : Nat} {es : Es} {Γ : Env} {o : O} (h : slot Γ i = some o) : evAs X (true :: io) (.cons (.var i) es) Γ = (evAs X io es Γ).bind (kGv i) := by
  have e1 : giveS (.var i) Γ = some i := by simp [giveS, h]
  show (match true, giveS (.var i) Γ with
    | true, some i => (evAs X io es Γ).bind fun os Γ => gvO (slot Γ i) i os Γ
    | _, _ => (evE X (.var i) Γ).bind fun o Γ => (pass1 o Γ).bind fun o Γ => (evAs X io es Γ).bind fun os Γ => .ok (o :: os) Γ) = _
  rw [e1]
  rfl
/-! ### slots -/
theorem slot_0 (o : Option O) (Γ : Env) : slot (o :: Γ) 0 = o := rfl
theorem slot_s (o : Option O) (Γ : Env) (i : Nat) : slot (o :: Γ) (i + 1) = slot Γ i := by
  unfold slot
  rw [List.getElem?_cons_succ]
def rdO (o : Option O) (i : Nat) (Γ : Env) : R D := match o with
  | some (.d x) => .ok x Γ
  | some (.l xs) => .ok (.list xs) Γ
  | some (.k kvs) => .ok (.dict kvs) Γ
  | some (.ll xss) => .ok (.list (xss.map .list)) (Γ.set i (some (.d (.list (xss.map .list)))))
  | _ => .bad
theorem rdB_s (i : Nat) (Γ : Env) : rdB (.sl i) Γ = rdO (slot Γ i) i Γ := by
  show (match Γ[i]? with
    | some (some (.d x)) => R.ok x Γ
    | some (some (.l xs)) => R.ok (PyData.list xs) Γ
    | some (some (.k kvs)) => R.ok (PyData.dict kvs) Γ
    | some (some (.ll xss)) => R.ok (PyData.list (xss.map .list)) (Γ.set i (some (.d (.list (xss.map .list)))))
    | _ => .bad) = rdO ((Γ[i]?).bind id) i Γ
  cases Γ[i]? with
  | none => rfl
  | some o => cases o with
    | none => rfl
    | some o => cases o <;> rfl
theorem rdB_v (x : D) (Γ : Env) : rdB (.v x) Γ = .ok x Γ := rfl
theorem rdO_d (x : D) (i : Nat) (Γ : Env) : rdO (some (.d x)) i Γ = .ok x Γ := rfl
theorem rdO_l (x : List D) (i : Nat) (Γ : Env) : rdO (some (.l x)) i Γ = .ok (.list x) Γ := rfl
theorem rdO_k (x : List (D × D)) (i : Nat) (Γ : Env) : rdO (some (.k x)) i Γ = .ok (.dict x) Γ := rfl
def rdVO (o : Option O) (i : Nat) (Γ : Env) : R O := match o with
  | some (.d x) => .ok (.d x) Γ
  | some (.l xs) => .ok (.d (.list xs)) (Γ.set i (some (.d (.list xs))))
  | some (.k kvs) => .ok (.d (.dict kvs)) (Γ.set i (some (.d (.dict kvs))))
  | some (.ll xss) => .ok (.d (.list (xss.map .list))) (Γ.set i (some (.d (.list (xss.map .list)))))
  | some (.s ns) => .ok (.s ns) Γ
  | some (.x c fs) => .ok (.x c fs) Γ
  | none => .bad
theorem ev_var (i : Nat) (Γ : Env) : evE X (.var i) Γ = rdVO (slot Γ i) i Γ := by
  show rdV i Γ = _
  unfold rdV slot rdVO
  cases Γ[i]? with
  | none => rfl
  | some o => cases o with
    | none => rfl
    | some o => cases o <;> rfl
theorem rdVO_d (x : D) (i : Nat) (Γ : Env) : rdVO (some (.d x)) i Γ = .ok (.d x) Γ := rfl
theorem rdVO_s (x : List Int) (i : Nat) (Γ : Env) : rdVO (some (.s x)) i Γ = .ok (.s x) Γ := rfl
theorem rdVO_l (x : List D) (i : Nat) (Γ : Env) : rdVO (some (.l x)) i Γ = .ok (.d (.list x)) (Γ.set i (some (.d (.list x)))) := rfl
theorem ev_cst (x : D) (Γ : Env) : evE X (.cst x) Γ = .ok (.d x) Γ := rfl
/-! ### statements -/
theorem ss_nil (Γ : Env) : evSs X .nil Γ = .nx Γ := rfl
theorem ss_cons (s : S) (ss : Ss) (Γ : Env) : evSs X (.cons s ss) Γ = (evS X s Γ).seq (evSs X ss) := rfl
theorem seq_nx (Γ : Env) (f : Env → SR) : (SR.nx Γ).seq f = f Γ := rfl
theorem seq_rt (o : O) (Γ : Env) (f : Env → SR) : (SR.rt o Γ).seq f = .rt o Γ := rfl
def kAsg (i : Nat) (o : O) (Γ : Env) : SR := .nx (Γ.set i (some o))
theorem s_asg (i : Nat) (e : E) (Γ : Env) : evS X (.asg i e) Γ = (evE X e Γ).st (kAsg i) := rfl
def kSet2 (i : Nat) (y x : D) (Γ : Env) : SR := putSlot Γ i (setIt (slot Γ i) x y)
def kSet (i : Nat) (k : E) (y : D) (Γ : Env) : SR := match (slot Γ i).isSome with
  | false => .bad
  | true => ((evE X k Γ).bind kTD).st (kSet2 i y)
theorem s_set (i : Nat) (k v : E) (Γ : Env) : evS X (.set i k v) Γ = ((evE X v Γ).bind kTD).st (kSet X i k) := rfl
def kIf (t e : Ss) (b : Bool) (Γ : Env) : SR := match b with
  | true => evSs X t Γ
  | false => evSs X e Γ
theorem s_ife (c : E) (t e : Ss) (Γ : Env) : evS X (.ife c t e) Γ = ((evE X c Γ).bind kTB).st (kIf X t e) := rfl
theorem kIf_t (t e : Ss) (Γ : Env) : kIf X t e true Γ = evSs X t Γ := rfl
theorem kIf_f (t e : Ss) (Γ : Env) : kIf X t e false Γ = evSs X e Γ := rfl
def kRt (o : O) (Γ : Env) : SR := .rt o Γ
theorem s_ret (e : E) (Γ : Env) : evS X (.ret e) Γ = (evE X e Γ).st kRt := rfl
theorem s_retv (i : Nat) (Γ : Env) : evS X (.retv i) Γ = match slot Γ i with | some o => .rt o (Γ.set i none) | none => .bad := rfl
def kFor (t : T) (b : Ss) (xs : List D) (Γ : Env) : SR := forLoop t (evSs X b) xs Γ
theorem s_for (t : T) (it : I) (b : Ss) (Γ : Env) : evS X (.for t it b) Γ = (evI X it Γ).st (kFor X t b) := rfl
theorem run_fn {P : Prog} {fu k f : Nat} {fn : Fn} {os : List O} (hf : P.fns[f]? = some fn) (hl : os.length = fn.np) : callF P fu (k + 1) f os = fin fn.np (evSs (P.ctx fu (callF P fu k)) fn.body (os.map some ++ List.replicate (fn.ns - fn.np) none)) := by
  show (match P.fns[f]? with
    | none => CR.bad
    | some fn => runFn (P.ctx fu (callF P fu k)) fn os) = _
  rw [hf]
  show (if os.length = fn.np then _ else CR.bad) = _
  rw [if_pos hl]
/-! ### comprehensions, walks, pops -/
def kLc (own : List Nat) (t : T) (c e : E) (xs : List D) (Γ : Env) : R O := match lcLoop own t (fun Γ => (evE X c Γ).toB) (fun Γ => (evE X e Γ).toD) xs Γ with
  | .ok ys Γ2 => .ok (.l ys) (restore Γ Γ2 own)
  | _ => .bad
theorem ev_lc (own : List Nat) (t : T) (it : I) (c e : E) (Γ : Env) : evE X (.lc own t it c e) Γ = (evI X it Γ).bind (kLc X own t c e) := rfl
theorem kLc_ok {own : List Nat} {t : T} {c e : E} {xs ys : List D} {Γ Γ2 : Env} (h : lcLoop own t (fun Γ => (evE X c Γ).toB) (fun Γ => (evE X e Γ).toD) xs Γ = .ok ys Γ2) : kLc X own t c e xs Γ = .ok (.l ys) (restore Γ Γ2 own) := by
  unfold kLc
  rw [h]
def kSeq (x : D) (Γ : Env) : R (List D) := optR (items x) Γ
theorem evI_seq (e : E) (Γ : Env) : evI X (.seq e) Γ = ((evE X e Γ).bind kTD).bind kSeq := rfl
def kRng1 (x : D) (Γ : Env) : R (List D) := optR (rngD [x]) Γ
theorem evI_rng1 (a : E) (Γ : Env) : evI X (.rng1 a) Γ = ((evE X a Γ).bind kTD).bind kRng1 := rfl
def kRng2b (x y : D) (Γ : Env) : R (List D) := optR (rngD [x, y]) Γ
def kRng2 (b : E) (x : D) (Γ : Env) : R (List D) := ((evE X b Γ).bind kTD).bind (kRng2b x)
theorem evI_rng2 (a b : E) (Γ : Env) : evI X (.rng2 a b) Γ = ((evE X a Γ).bind kTD).bind (kRng2 X b) := rfl
theorem rng1_ok {m : Int} (h1 : -1000000 < m) (h2 : m < 1000000) : rngD [.int m] = some ((List.range m.toNat).map fun (k : Nat) => .int k) := by
  show (if rngOk m then _ else _) = _
  rw [if_pos (by simp only [rngOk, Bool.and_eq_true, small_iff]; omega)]
theorem rng2_ok {i j : Int} (h1 : -1000000 < i) (h2 : i < 1000000) (h3 : -1000000 < j) (h4 : j < 1000000) : rngD [.int i, .int j] = some ((List.range (j - i).toNat).map fun (k : Nat) => .int (i + k)) := by
  show (if rngOk i && rngOk j then _ else _) = _
  rw [if_pos (by simp only [rngOk, Bool.and_eq_true, small_iff]; omega)]
def kPop1 (i : Nat) (p : D × List D) (Γ : Env) : R O := .ok (.d p.1) (Γ.set i (some (.l p.2)))
def kPop0 (i : Nat) (j : D) (Γ : Env) : R O := (optR (popAt (slot Γ i) j) Γ).bind (kPop1 i)
theorem ev_popat {i : Nat} {e : E} {Γ : Env} (h : isL (slot Γ i) = true) : evE X (.popat i e) Γ = ((evE X e Γ).bind kTD).bind (kPop0 i) := by
  show (match isL (slot Γ i) with
    | false => R.bad
    | true => _) = _
  rw [h]
  rfl
theorem ctx_cf (P : Prog) (fu : Nat) (cf : Nat → List O → CR) : (P.ctx fu cf).cf = cf := rfl
theorem ctx_io {P : Prog} {fu : Nat} {cf : Nat → List O → CR} {f : Nat} {fn : Fn} (h : P.fns[f]? = some fn) : (P.ctx fu cf).io f = fn.io := by
  show (match P.fns[f]? with
    | some fn => fn.io
    | none => []) = _
  rw [h]
theorem slot_set0 (o : Option O) (Γ : Env) (x : Option O) : (o :: Γ).set 0 x = x :: Γ := rfl
theorem pass_d (x : D) (Γ : Env) : pass1 (.d x) Γ = .ok (.d x) Γ := rfl
theorem pass_s (x : List Int) (Γ : Env) : pass1 (.s x) Γ = .ok (.s x) Γ := rfl
theorem pass_l (x : List D) (Γ : Env) : pass1 (.l x) Γ = .ok (.d (.list x)) Γ := rfl
theorem tb_t (i : Nat) (io : List Bool) (es : Es) (o : Option O) (outs Γ : Env) : takeBack (true :: io) (.cons (.var i) es) (o :: outs) Γ = takeBack io es outs (Γ.set i o) := rfl
theorem tb_nil (es : Es) (outs Γ : Env) : takeBack [] es outs Γ = Γ := by cases es <;> rfl
theorem tb_end (io : List Bool) (outs Γ : Env) : takeBack io .nil outs Γ = Γ := by cases io with | nil => rfl | cons b io => cases b <;> rfl
theorem tb_f (io : List Bool) (e : E) (es : Es) (o : Option O) (outs Γ : Env) : takeBack (false :: io) (.cons e es) (o :: outs) Γ = takeBack io es outs Γ := rfl
/-! ### methods -/
def kdS : Option O → Kd
  | some (.d x) => kdOf x
  | some (.l _) => .lst
  | some (.k _) => .dct
  | some (.ll _) => .lst
  | _ => .other
theorem kdB_s (i : Nat) (Γ : Env) : kdB (.sl i) Γ = kdS (slot Γ i) := by
  show (match Γ[i]? with
    | some (some (.d x)) => kdOf x
    | some (some (.l _)) => .lst
    | some (some (.k _)) => .dct
    | some (some (.ll _)) => .lst
    | _ => .other) = kdS ((Γ[i]?).bind id)
  cases Γ[i]? with
  | none => rfl
  | some o => cases o with
    | none => rfl
    | some o => cases o <;> rfl
theorem kdB_v (x : D) (Γ : Env) : kdB (.v x) Γ = kdOf x := rfl
def kMth2 (m : Mth) (kd : Kd) (xs : List D) (x : D) (Γ : Env) : R O := match decide (kdOf x = kd) with
  | true => optR (MI.mth m x xs) Γ
  | false => .bad
def kMth1 (m : Mth) (p : B) (kd : Kd) (xs : List D) (Γ : Env) : R O := (rdB p Γ).bind (kMth2 m kd xs)
def kMth (m : Mth) (args : Es) (p : B) (Γ : Env) : R O := match m.on (kdB p Γ) with
  | false => .bad
  | true => (evDs X args Γ).bind (kMth1 m p (kdB p Γ))
theorem ev_mth (m : Mth) (a : E) (args : Es) (Γ : Env) : evE X (.mth m a args) Γ = (opB a Γ (evE X a Γ)).bind (kMth X m args) := rfl
theorem kMth_on {m : Mth} {args : Es} {p : B} {Γ : Env} {kd : Kd} (h : kdB p Γ = kd) (h2 : m.on kd = true) : kMth X m args p Γ = (evDs X args Γ).bind (kMth1 m p kd) := by
  unfold kMth
  rw [h, h2]
theorem kMth2_on {m : Mth} {kd : Kd} {xs : List D} {x : D} {Γ : Env} (h : kdOf x = kd) : kMth2 m kd xs x Γ = optR (MI.mth m x xs) Γ := by
  unfold kMth2
  rw [h, decide_eq_true rfl]
/-! ### dicts, slices -/
def kPair (ps : List (D × D)) (Γ : Env) : R O := match keysOk ps with
  | true => .ok (.k (putAll [] ps)) Γ
  | false => .bad
def kDct (xs : List D) (Γ : Env) : R O := (optR (pairUp xs) Γ).bind kPair
theorem ev_dct (es : Es) (Γ : Env) : evE X (.dct es) Γ = (evDs X es Γ).bind kDct := rfl
def kRev1 (x : D) (Γ : Env) : R O := optR (revD x) Γ
def kRev (p : B) (Γ : Env) : R O := (rdB p Γ).bind kRev1
theorem ev_rev (a : E) (Γ : Env) : evE X (.rev a) Γ = (opB a Γ (evE X a Γ)).bind kRev := rfl
theorem ev_scut {i : Nat} {n : Int} {Γ : Env} {ns : List Int} (h : slot Γ i = some (.s ns)) : evE X (.scut i n) Γ = .ok (.l ((cut ns none (some n)).map .int)) Γ := by
  have h2 : Γ[i]? = some (some (.s ns)) := by
    unfold slot at h
    cases e : Γ[i]? with
    | none => (rw [e] at h; cases h)
    | some z => rw [e] at h; exact congrArg some h
  show (match Γ[i]? with
    | some (some (.s ns)) => R.ok (O.l ((cut ns none (some n)).map .int)) Γ
    | _ => .bad) = _
  rw [h2]
end
theorem run_at {P : Prog} {fu k f : Nat} {fn : Fn} {os : List O} {np : Nat} {b : Ss} {Γ : Env} (hf : P.fns[f]? = some fn) (hl : os.length = fn.np) (hn : fn.np = np) (hb : fn.body = b) (he : os.map some ++ List.replicate (fn.ns - fn.np) none = Γ) : callF P fu (k + 1) f os = fin np (evSs (P.ctx fu (callF P fu k)) b Γ) := by
  subst hn hb he
  exact run_fn hf hl
end MI

set_option maxRecDepth 100000
/-! MP2: comprehensions whose parts change nothing. -/
namespace MI
open PySem
theorem set_twice {Γ : Env} {i : Nat} {a b : Option O} : (Γ.set i a).set i b = Γ.set i b := List.set_set ..
theorem loop_pure {i : Nat} {c : Env → R Bool} {f : Env → R D} {p : D → Bool} {g : D → D} {Γ : Env} : ∀ (xs : List D),
    (∀ x ∈ xs, c (Γ.set i (some (.d x))) = .ok (p x) (Γ.set i (some (.d x)))) → (∀ x ∈ xs, p x = true → f (Γ.set i (some (.d x))) = .ok (g x) (Γ.set i (some (.d x)))) →
    ∀ z, ∃ z', lcLoop [i] (.nm i) c f xs (Γ.set i z) = .ok ((xs.filter p).map g) (Γ.set i z')
  | [], _, _, z => ⟨z, rfl⟩
  | x :: xs, hc, hf, z => by
    have e0 : asgT (.nm i) x (wipe (Γ.set i z) [i]) = some (Γ.set i (some (.d x))) := by
      show some (((Γ.set i z).set i none).set i (some (.d x))) = _
      rw [set_twice, set_twice]
    have h1 := hc x (by simp)
    obtain ⟨z', ih⟩ := loop_pure xs (fun y hy => hc y (by simp [hy])) (fun y hy => hf y (by simp [hy])) (some (.d x))
    refine ⟨z', ?_⟩
    show (match asgT (.nm i) x (wipe (Γ.set i z) [i]) with
      | none => R.bad
      | some Γ1 => match c Γ1 with
        | .ok true Γ2 => (f Γ2).bind fun y Γ3 => (lcLoop [i] (.nm i) c f xs Γ3).bind fun ys Γ4 => .ok (y :: ys) Γ4
        | .ok false Γ2 => lcLoop [i] (.nm i) c f xs Γ2
        | _ => .bad) = _
    rw [e0]
    dsimp only
    rw [h1]
    cases hp : p x with
    | false =>
      dsimp only
      rw [ih, List.filter_cons, hp]
      rfl
    | true =>
      dsimp only
      rw [hf x (by simp) hp]
      dsimp only [R.bind_ok]
      rw [ih, List.filter_cons, hp]
      rfl
theorem set_none {Γ : Env} {i : Nat} (h : slot Γ i = none) (z : Option O) (hi : i < Γ.length) : (Γ.set i z).set i (keepD (Γ[i]?.getD none)) = Γ := by
  have e : Γ[i]?.getD none = none := by
    unfold slot at h
    cases e : Γ[i]? with
    | none => rfl
    | some o => rw [e] at h; exact h
  rw [e, set_twice]
  show Γ.set i none = Γ
  rw [List.getElem?_eq_getElem hi] at e
  have e2 : Γ[i] = none := e
  rw [← e2]
  exact List.set_getElem_self hi
/-- a comprehension over one name whose test and part change nothing -/
theorem lc_pure {X : Ctx} {i : Nat} {c e : E} {xs : List D} {Γ : Env} (p : D → Bool) (g : D → D) (hs : slot Γ i = none) (hi : i < Γ.length)
    (hc : ∀ x ∈ xs, (evE X c (Γ.set i (some (.d x)))).bind kTB = .ok (p x) (Γ.set i (some (.d x)))) (hf : ∀ x ∈ xs, p x = true → (evE X e (Γ.set i (some (.d x)))).bind kTD = .ok (g x) (Γ.set i (some (.d x)))) :
    kLc X [i] (.nm i) c e xs Γ = .ok (.l ((xs.filter p).map g)) Γ := by
  obtain ⟨z, h⟩ := loop_pure (c := fun Γ => (evE X c Γ).toB) (f := fun Γ => (evE X e Γ).toD) xs hc hf (Γ[i])
  rw [List.set_getElem_self hi] at h
  rw [kLc_ok X h]
  show R.ok _ ((Γ.set i z).set i (keepD (Γ[i]?.getD none))) = _
  rw [set_none hs z hi]
theorem lc_map {X : Ctx} {i : Nat} {e : E} {xs : List D} {Γ : Env} (g : D → D) (hs : slot Γ i = none) (hi : i < Γ.length)
    (hf : ∀ x ∈ xs, (evE X e (Γ.set i (some (.d x)))).bind kTD = .ok (g x) (Γ.set i (some (.d x)))) :
    kLc X [i] (.nm i) (.cst (.bool true)) e xs Γ = .ok (.l (xs.map g)) Γ := by
  have h := lc_pure (X := X) (i := i) (c := .cst (.bool true)) (e := e) (xs := xs) (Γ := Γ) (fun _ => true) g hs hi (fun x _ => rfl) (fun x hx _ => hf x hx)
  rw [List.filter_eq_self.mpr (fun _ _ => rfl)] at h
  exact h
/-- the same over whole numbers -/
theorem lc_ints {X : Ctx} {i : Nat} {e : E} {ns : List Int} {Γ : Env} (g : Int → D) (hs : slot Γ i = none) (hi : i < Γ.length)
    (hf : ∀ n ∈ ns, (evE X e (Γ.set i (some (.d (.int n))))).bind kTD = .ok (g n) (Γ.set i (some (.d (.int n))))) :
    kLc X [i] (.nm i) (.cst (.bool true)) e (ns.map .int) Γ = .ok (.l (ns.map g)) Γ := by
  have h := lc_map (X := X) (i := i) (e := e) (xs := ns.map .int) (Γ := Γ) (fun x => match x with | .int n => g n | _ => .none) hs hi (fun x hx => by
    obtain ⟨n, hn, rfl⟩ := List.mem_map.mp hx
    exact hf n hn)
  rw [List.map_map] at h
  exact h
end MI

set_option maxRecDepth 100000
/-! MP3: what is small enough to be told by repr. -/
namespace MI
open PySem
structure Fit (d : D) (n k : Nat) : Prop where
  sh : d.showable = true
  lay : PyData.canLay0 d = true
  dp : d.depth ≤ k
  len : d.shown.length ≤ n
theorem Fit.mono {d : D} {n k n' k' : Nat} (h : Fit d n k) (h1 : n ≤ n') (h2 : k ≤ k') : Fit d n' k' := ⟨h.sh, h.lay, Nat.le_trans h.dp h2, Nat.le_trans h.len h1⟩
theorem Fit.bool (b : Bool) : Fit (.bool b) 5 0 := ⟨rfl, rfl, Nat.le_refl _, by cases b <;> decide⟩
theorem Fit.none : Fit .none 4 0 := ⟨rfl, rfl, Nat.le_refl _, by decide⟩
theorem Fit.int {i : Int} (h : i.natAbs < 10 ^ 18) : Fit (.int i) 19 0 := by
  refine ⟨?_, rfl, Nat.le_refl _, ?_⟩
  · show decide (i.natAbs.log2 < 1920) = true
    rw [decide_eq_true_eq]
    by_cases h0 : i.natAbs = 0
    · rw [h0]; decide
    · rw [Nat.log2_lt h0]
      exact Nat.lt_of_lt_of_le h (by decide +kernel)
  · rw [PyData.shown_int]
    have := int_text_length_le10 (k := 18) (by decide) h
    show (Str.ofString (toString i)).length ≤ 19
    rw [ofString_length]
    exact this
theorem Fit.shs {n k : Nat} : ∀ {xs : List D}, (∀ x ∈ xs, Fit x n k) → PyData.showableAll xs = true
  | [], _ => rfl
  | x :: xs, h => by
    show (x.showable && PyData.showableAll xs) = true
    rw [(h x (by simp)).sh, Fit.shs fun y hy => h y (by simp [hy])]
    rfl
theorem Fit.lays {n k : Nat} : ∀ {xs : List D}, (∀ x ∈ xs, Fit x n k) → PyData.canLayAll0 xs = true
  | [], _ => rfl
  | x :: xs, h => by
    show (x.canLay0 && PyData.canLayAll0 xs) = true
    rw [(h x (by simp)).lay, Fit.lays fun y hy => h y (by simp [hy])]
    rfl
theorem Fit.dps {n k : Nat} : ∀ {xs : List D}, (∀ x ∈ xs, Fit x n k) → PyData.depthAll xs ≤ k
  | [], _ => Nat.zero_le _
  | x :: xs, h => by
    show max x.depth (PyData.depthAll xs) ≤ k
    have h1 := (h x (by simp)).dp
    have h2 := Fit.dps (xs := xs) fun y hy => h y (by simp [hy])
    omega
theorem Fit.lens {n k : Nat} : ∀ {xs : List D}, (∀ x ∈ xs, Fit x n k) → ((PyData.shownAll xs).map (·.length)).sum ≤ n * xs.length
  | [], _ => Nat.zero_le _
  | x :: xs, h => by
    have h1 := (h x (by simp)).len
    have h2 := Fit.lens (xs := xs) fun y hy => h y (by simp [hy])
    rw [PyData.shownAll_cons, List.map_cons, List.sum_cons, List.length_cons, Nat.mul_succ]
    omega
theorem Fit.tup {n k m : Nat} {xs : List D} (h : ∀ x ∈ xs, Fit x n k) (hm : xs.length ≤ m) : Fit (.tuple xs) ((n + 2) * m + 3) (k + 1) := by
  refine ⟨Fit.shs h, Fit.lays h, ?_, ?_⟩
  · show PyData.depthAll xs + 1 ≤ _
    have := Fit.dps h
    omega
  · show (tupleText (PyData.shownAll xs)).length ≤ _
    have h1 := tupleText_len_le (PyData.shownAll xs)
    have h2 := Fit.lens h
    rw [PyData.shownAll_length] at h1
    have h3 : (n + 2) * xs.length ≤ (n + 2) * m := Nat.mul_le_mul_left _ hm
    rw [Nat.add_mul] at h3
    omega
theorem Fit.lst {n k m : Nat} {xs : List D} (h : ∀ x ∈ xs, Fit x n k) (hm : xs.length ≤ m) : Fit (.list xs) ((n + 2) * m + 3) (k + 1) := by
  refine ⟨Fit.shs h, Fit.lays h, ?_, ?_⟩
  · show PyData.depthAll xs + 1 ≤ _
    have := Fit.dps h
    omega
  · show (listText (PyData.shownAll xs)).length ≤ _
    have h1 := listText_len_le (PyData.shownAll xs)
    have h2 := Fit.lens h
    rw [PyData.shownAll_length] at h1
    have h3 : (n + 2) * xs.length ≤ (n + 2) * m := Nat.mul_le_mul_left _ hm
    rw [Nat.add_mul] at h3
    omega
theorem Fit.ok {d : D} {n k : Nat} (h : Fit d n k) (hn : n ≤ lim) (hk : k ≤ 64) : showOk d = true := by
  show (d.showable && decide (d.shown.length ≤ lim) && (PyData.canLay0 d && decide (d.depth ≤ 64))) = true
  rw [h.sh, h.lay, decide_eq_true (Nat.le_trans h.len hn), decide_eq_true (Nat.le_trans h.dp hk)]
  rfl
theorem Fit.shaped {d : D} {n k : Nat} (h : Fit d n k) (hk : k ≤ 64) : SeqAt.shaped d = true := by
  show (PyData.canLay0 d && decide (d.depth ≤ 64)) = true
  rw [h.lay, decide_eq_true (Nat.le_trans h.dp hk)]
  rfl
theorem Fit.repr {d : D} {n k : Nat} (h : Fit d n k) (hn : n ≤ lim) (hk : k ≤ 64) : blt .repr [d] = some (.d (.str d.shown)) := by
  show (if showOk d then _ else _) = _
  rw [if_pos (h.ok hn hk)]
theorem ne_same (x : Str) : cop .ne (.str x) (.str x) = some false := by
  show some (!(x.cps.toList == x.cps.toList)) = _
  simp
theorem eq_same (x : Str) : cop .eq (.str x) (.str x) = some true := by
  show some (x.cps.toList == x.cps.toList) = _
  simp
/-- a row of small whole numbers -/
theorem Fit.ints {ns : List Int} {m : Nat} (h : ∀ n ∈ ns, n.natAbs < 10 ^ 18) (hm : ns.length ≤ m) : Fit (.tuple (ns.map .int)) (21 * m + 3) 1 :=
  Fit.tup (n := 19) (k := 0) (fun x hx => by
    obtain ⟨n, hn, rfl⟩ := List.mem_map.mp hx
    exact Fit.int (h n hn)) (by rw [List.length_map]; exact hm)
end MI

set_option maxRecDepth 100000
/-! MP4: more of the mini interpreter's steps. -/
namespace MI
open PySem
section
variable (X : Ctx)
def kSlh3 (h : Int) (x : D) (Γ : Env) : R O := optR (slD x none (some h)) Γ
def kSlh2 (p : B) (h : Int) (Γ : Env) : R O := (rdB p Γ).bind (kSlh3 h)
def kSlh1 (p : B) (h : D) (Γ : Env) : R O := (optR (asInt h) Γ).bind (kSlh2 p)
def kSlh (hi : E) (p : B) (Γ : Env) : R O := ((evE X hi Γ).bind kTD).bind (kSlh1 p)
theorem ev_slh (a hi : E) (Γ : Env) : evE X (.slh a hi) Γ = (opB a Γ (evE X a Γ)).bind (kSlh X hi) := rfl
def kSll3 (h : Int) (x : D) (Γ : Env) : R O := optR (slD x (some h) none) Γ
def kSll2 (p : B) (h : Int) (Γ : Env) : R O := (rdB p Γ).bind (kSll3 h)
def kSll1 (p : B) (h : D) (Γ : Env) : R O := (optR (asInt h) Γ).bind (kSll2 p)
def kSll (lo : E) (p : B) (Γ : Env) : R O := ((evE X lo Γ).bind kTD).bind (kSll1 p)
theorem ev_sll (a lo : E) (Γ : Env) : evE X (.sll a lo) Γ = (opB a Γ (evE X a Γ)).bind (kSll X lo) := rfl
theorem asInt_int (i : Int) : asInt (.int i) = some i := rfl
theorem slD_tup (xs : List D) (lo hi : Option Int) : slD (.tuple xs) lo hi = some (.d (.tuple (cut xs lo hi))) := rfl
theorem slD_list (xs : List D) (lo hi : Option Int) : slD (.list xs) lo hi = some (.l (cut xs lo hi)) := rfl
def kNeg (x : D) (Γ : Env) : R O := match x with
  | .int i => .ok (.d (.int (-i))) Γ
  | _ => .bad
theorem ev_neg (a : E) (Γ : Env) : evE X (.neg a) Γ = ((evE X a Γ).bind kTD).bind kNeg := rfl
theorem kNeg_int (i : Int) (Γ : Env) : kNeg (.int i) Γ = .ok (.d (.int (-i))) Γ := rfl
theorem ev_lls0 (Γ : Env) : evE X (.lls .nil) Γ = .ok (.ll []) Γ := rfl
theorem ev_llnil {i : Nat} {Γ : Env} {xss : List (List D)} (h : slot Γ i = some (.ll xss)) (hs : SeqAt.shaped (.list (xss.map .list)) = true) : evE X (.llnil i) Γ = .ok (.d (.bool xss.isEmpty)) Γ := by
  show (match slot Γ i with
    | some (.ll xss) => if SeqAt.shaped (.list (xss.map .list)) then R.ok (O.d (.bool xss.isEmpty)) Γ else .bad
    | _ => .bad) = _
  rw [h]
  show (if SeqAt.shaped (.list (xss.map .list)) then _ else _) = _
  rw [if_pos hs]
def kApp (i : Nat) (x : D) (Γ : Env) : SR := putSlot Γ i (appIt (slot Γ i) x)
theorem s_app {i : Nat} {e : E} {Γ : Env} (h : isL (slot Γ i) = true) : evS X (.app i e) Γ = ((evE X e Γ).bind kTD).st (kApp i) := by
  show (match isL (slot Γ i) with
    | false => SR.bad
    | true => _) = _
  rw [h]
  rfl
def kAppl (i : Nat) (o : O) (Γ : Env) : SR := putSlot Γ i (applIt (slot Γ i) o)
theorem s_appl {i : Nat} {e : E} {Γ : Env} (h : isLL (slot Γ i) = true) : evS X (.appl i e) Γ = (evE X e Γ).st (kAppl i) := by
  show (match isLL (slot Γ i) with
    | false => SR.bad
    | true => _) = _
  rw [h]
  rfl
def kApp2 (i h : Nat) (j : D) (Γ : Env) : SR := putSlot Γ i (app2It (slot Γ i) j (slot Γ h))
theorem s_app2 {i h : Nat} {j : E} {Γ : Env} (hl : isLL (slot Γ i) = true) : evS X (.app2 i j (.var h)) Γ = ((evE X j Γ).bind kTD).st (kApp2 i h) := by
  show (match isLL (slot Γ i) with
    | false => SR.bad
    | true => _) = _
  rw [hl]
  rfl
def kExt (i : Nat) (x : D) (Γ : Env) : SR := putSlot Γ i (extIt (slot Γ i) x)
theorem s_ext {i : Nat} {e : E} {Γ : Env} (h : isL (slot Γ i) = true) : evS X (.ext i e) Γ = ((evE X e Γ).bind kTD).st (kExt i) := by
  show (match isL (slot Γ i) with
    | false => SR.bad
    | true => _) = _
  rw [h]
  rfl
def kBlts (b : Blt) (xs : List D) (Γ : Env) : R O := optR (MI.blt b xs) Γ
theorem ev_blts (b : Blt) (args : Es) (Γ : Env) : evE X (.blts b args) Γ = (evDs X args Γ).bind (kBlts b) := rfl
def kTasg (is : List Nat) (x : D) (Γ : Env) : SR := optS (asgT (.tp is) x Γ)
theorem s_tasg (is : List Nat) (e : E) (Γ : Env) : evS X (.tasg is e) Γ = ((evE X e Γ).bind kTD).st (kTasg is) := rfl
theorem s_pass (Γ : Env) : evS X .pass Γ = .nx Γ := rfl
def kExpr (o : O) (Γ : Env) : SR := .nx Γ
theorem s_expr (e : E) (Γ : Env) : evS X (.expr e) Γ = (evE X e Γ).st kExpr := rfl
theorem c_eqI (i j : Int) : cop .eq (.int i) (.int j) = some (i == j) := rfl
theorem c_neI (i j : Int) : cop .ne (.int i) (.int j) = some (!(i == j)) := rfl
theorem rdVO_k (x : List (D × D)) (i : Nat) (Γ : Env) : rdVO (some (.k x)) i Γ = .ok (.d (.dict x)) (Γ.set i (some (.d (.dict x)))) := rfl
theorem rdVO_ll (x : List (List D)) (i : Nat) (Γ : Env) : rdVO (some (.ll x)) i Γ = .ok (.d (.list (x.map .list))) (Γ.set i (some (.d (.list (x.map .list))))) := rfl
theorem list_tup (xs : List D) : blt .list [.tuple xs] = some (.l xs) := rfl
theorem list_list (xs : List D) : blt .list [.list xs] = some (.l xs) := rfl
theorem items_list (xs : List D) : items (.list xs) = some xs := rfl
end
theorem loop_on {α : Type} {i : Nat} {c : Env → R Bool} {f : Env → R D} (d g : α → D) {Γ : Env} : ∀ (l : List α),
    (∀ a ∈ l, c (Γ.set i (some (.d (d a)))) = .ok true (Γ.set i (some (.d (d a))))) → (∀ a ∈ l, f (Γ.set i (some (.d (d a)))) = .ok (g a) (Γ.set i (some (.d (d a))))) →
    ∀ z, ∃ z', lcLoop [i] (.nm i) c f (l.map d) (Γ.set i z) = .ok (l.map g) (Γ.set i z')
  | [], _, _, z => ⟨z, rfl⟩
  | a :: l, hc, hf, z => by
    have e0 : asgT (.nm i) (d a) (wipe (Γ.set i z) [i]) = some (Γ.set i (some (.d (d a)))) := by
      show some (((Γ.set i z).set i none).set i (some (.d (d a)))) = _
      rw [set_twice, set_twice]
    obtain ⟨z', ih⟩ := loop_on d g l (fun b hb => hc b (by simp [hb])) (fun b hb => hf b (by simp [hb])) (some (.d (d a)))
    refine ⟨z', ?_⟩
    show (match asgT (.nm i) (d a) (wipe (Γ.set i z) [i]) with
      | none => R.bad
      | some Γ1 => match c Γ1 with
        | .ok true Γ2 => (f Γ2).bind fun y Γ3 => (lcLoop [i] (.nm i) c f (l.map d) Γ3).bind fun ys Γ4 => .ok (y :: ys) Γ4
        | .ok false Γ2 => lcLoop [i] (.nm i) c f (l.map d) Γ2
        | _ => .bad) = _
    rw [e0]
    dsimp only
    rw [hc a (by simp)]
    dsimp only
    rw [hf a (by simp)]
    dsimp only [R.bind_ok]
    rw [ih]
    rfl
/-- a comprehension over a row that is told by d -/
theorem lc_on {α : Type} {X : Ctx} {i : Nat} {e : E} {l : List α} {Γ : Env} (d g : α → D) (hs : slot Γ i = none) (hi : i < Γ.length) (hf : ∀ a ∈ l, (evE X e (Γ.set i (some (.d (d a))))).bind kTD = .ok (g a) (Γ.set i (some (.d (d a))))) :
    kLc X [i] (.nm i) (.cst (.bool true)) e (l.map d) Γ = .ok (.l (l.map g)) Γ := by
  obtain ⟨z, h⟩ := loop_on (c := fun Γ => (evE X (.cst (.bool true)) Γ).toB) (f := fun Γ => (evE X e Γ).toD) d g l (fun a _ => rfl) hf (Γ[i])
  rw [List.set_getElem_self hi] at h
  rw [kLc_ok X h]
  show R.ok _ ((Γ.set i z).set i (keepD (Γ[i]?.getD none))) = _
  rw [set_none hs z hi]
end MI

set_option maxRecDepth 100000
/-! MP5: kinds, chains, constants, texts: more steps. -/
namespace MI
open PySem
section
variable (X : Ctx)
def kIsi1 (ty : Ty) (x : D) (Γ : Env) : R O := (optR (isTy ty x) Γ).bind kBo
def kIsi (ty : Ty) (p : B) (Γ : Env) : R O := (rdB p Γ).bind (kIsi1 ty)
theorem ev_isi (a : E) (ty : Ty) (Γ : Env) : evE X (.isi a ty) Γ = (opB a Γ (evE X a Γ)).bind (kIsi ty) := rfl
def kCh3 (op2 : Cop) (y z : D) (Γ : Env) : R O := (optR (cop op2 y z) Γ).bind kBo
def kCh2 (op2 : Cop) (c : E) (y : D) (r : Bool) (Γ : Env) : R O := match r with
  | false => .ok (.d (.bool false)) Γ
  | true => ((evE X c Γ).bind kTD).bind (kCh3 op2 y)
theorem kCh2_f (op2 : Cop) (c : E) (y : D) (Γ : Env) : kCh2 X op2 c y false Γ = .ok (.d (.bool false)) Γ := rfl
theorem kCh2_t (op2 : Cop) (c : E) (y : D) (Γ : Env) : kCh2 X op2 c y true Γ = ((evE X c Γ).bind kTD).bind (kCh3 op2 y) := rfl
def kCh1 (op op2 : Cop) (c : E) (x y : D) (Γ : Env) : R O := (optR (cop op x y) Γ).bind (kCh2 X op2 c y)
def kCh0 (op op2 : Cop) (b c : E) (x : D) (Γ : Env) : R O := ((evE X b Γ).bind kTD).bind (kCh1 X op op2 c x)
theorem ev_chain (op op2 : Cop) (a b c : E) (Γ : Env) : evE X (.chain op op2 a b c) Γ = ((evE X a Γ).bind kTD).bind (kCh0 X op op2 b c) := by
  show ((evE X a Γ).bind kTD).bind (fun x Γ => ((evE X b Γ).bind kTD).bind fun y Γ => (optR (cop op x y) Γ).bind fun r Γ => match r with
    | false => R.ok (O.d (.bool false)) Γ
    | true => ((evE X c Γ).bind kTD).bind fun z Γ => (optR (cop op2 y z) Γ).bind fun r Γ => R.ok (O.d (.bool r)) Γ) = _
  congr 1
theorem ev_glob {g : Nat} {x : D} {Γ : Env} (h : X.gl g = some x) : evE X (.glob g) Γ = .ok (.d x) Γ := by
  show (match X.gl g with
    | some x => R.ok (O.d x) Γ
    | none => .bad) = _
  rw [h]
theorem ctx_gl (P : Prog) (fu : Nat) (cf : Nat → List O → CR) (g : Nat) : (P.ctx fu cf).gl g = P.gls[g]? := rfl
end
def isTyB (ty : Ty) (x : D) : Bool := (isTy ty x).getD false
theorem isTy_some (ty : Ty) (x : D) : isTy ty x = some (isTyB ty x) := by cases ty <;> cases x <;> rfl
end MI

set_option maxRecDepth 100000
/-! LU0: any plain thing, within bounds. -/
namespace MI
open PySem
mutual
def ud (N : Nat) : D → Bool
  | .none => true
  | .bool _ => true
  | .int i => decide (i.natAbs ≤ N)
  | .str x => x.cps.toList.all fun c => decide (c < 128)
  | .list xs => uds N xs
  | .tuple xs => uds N xs
  | .dict _ => false
def uds (N : Nat) : List D → Bool
  | [] => true
  | x :: xs => ud N x && uds N xs
end
theorem uds_iff {N : Nat} : ∀ {xs : List D}, uds N xs = true ↔ ∀ x ∈ xs, ud N x = true
  | [] => by simp [uds]
  | x :: xs => by simp only [uds, Bool.and_eq_true, uds_iff (xs := xs), List.mem_cons, forall_eq_or_imp]
mutual
theorem ud_mono {N M : Nat} (h : N ≤ M) : ∀ d : D, ud N d = true → ud M d = true
  | .none, _ => rfl
  | .bool _, _ => rfl
  | .int i, e => by
    simp only [ud, decide_eq_true_eq] at e ⊢
    omega
  | .str x, e => e
  | .list xs, e => uds_mono h xs e
  | .tuple xs, e => uds_mono h xs e
  | .dict _, e => e
theorem uds_mono {N M : Nat} (h : N ≤ M) : ∀ xs : List D, uds N xs = true → uds M xs = true
  | [], _ => rfl
  | x :: xs, e => by
    simp only [uds, Bool.and_eq_true] at e ⊢
    exact ⟨ud_mono h x e.1, uds_mono h xs e.2⟩
end
theorem log_small {n k : Nat} (hk : k ≤ 500) (h : n < 10 ^ k) : n.log2 < 1920 := by
  by_cases h0 : n = 0
  · rw [h0]; decide
  · rw [Nat.log2_lt h0]
    exact Nat.lt_of_lt_of_le h (Nat.le_trans (Nat.pow_le_pow_right (by decide) hk) (by decide +kernel))
theorem ud_int {N : Nat} {i : Int} (hN : N < 10 ^ 60) (h : i.natAbs ≤ N) : i.natAbs < 10 ^ 60 := Nat.lt_of_le_of_lt h hN
mutual
theorem ud_lay {N : Nat} : ∀ d : D, ud N d = true → d.canLay0 = true
  | .none, _ => rfl
  | .bool _, _ => rfl
  | .int i, _ => rfl
  | .str x, e => by
    show x.cps.all (· < 0x110000) = true
    rw [← Array.all_toList]
    rw [List.all_eq_true]
    intro c hc
    simp only [ud, List.all_eq_true, decide_eq_true_eq] at e
    have := e c hc
    rw [decide_eq_true_eq]
    omega
  | .list xs, e => uds_lay xs e
  | .tuple xs, e => uds_lay xs e
theorem uds_lay {N : Nat} : ∀ xs : List D, uds N xs = true → PyData.canLayAll0 xs = true
  | [], _ => rfl
  | x :: xs, e => by
    simp only [uds, Bool.and_eq_true] at e
    show (x.canLay0 && PyData.canLayAll0 xs) = true
    rw [ud_lay x e.1, uds_lay xs e.2]
    rfl
end
mutual
theorem ud_show {N : Nat} (hN : N < 10 ^ 60) : ∀ d : D, ud N d = true → d.showable = true
  | .none, _ => rfl
  | .bool _, _ => rfl
  | .int i, e => by
    simp only [ud, decide_eq_true_eq] at e
    show decide (i.natAbs.log2 < 1920) = true
    rw [decide_eq_true_eq]
    exact log_small (k := 60) (by decide) (ud_int hN e)
  | .str x, e => rfl
  | .list xs, e => uds_show hN xs e
  | .tuple xs, e => uds_show hN xs e
theorem uds_show {N : Nat} (hN : N < 10 ^ 60) : ∀ xs : List D, uds N xs = true → PyData.showableAll xs = true
  | [], _ => rfl
  | x :: xs, e => by
    simp only [uds, Bool.and_eq_true] at e
    show (x.showable && PyData.showableAll xs) = true
    rw [ud_show hN x e.1, uds_show hN xs e.2]
    rfl
end
mutual
theorem ud_short {N : Nat} (hN : N < 10 ^ 60) : ∀ d : D, ud N d = true → d.leavesShort 64 = true
  | .none, _ => rfl
  | .bool _, _ => rfl
  | .int i, e => by
    simp only [ud, decide_eq_true_eq] at e
    show decide ((PyData.shown (.int i)).length ≤ 64) = true
    rw [decide_eq_true_eq, PyData.shown_int]
    have := int_text_length_le10 (k := 60) (by decide) (ud_int hN e)
    show (Str.ofString (toString i)).length ≤ 64
    rw [PySem.ofString_length]
    omega
  | .str x, e => by
    show (x.cps.toList.all fun c => decide (c < 16 ^ 8)) = true
    rw [List.all_eq_true]
    intro c hc
    simp only [ud, List.all_eq_true, decide_eq_true_eq] at e
    have := e c hc
    rw [decide_eq_true_eq]
    omega
  | .list xs, e => uds_short hN xs e
  | .tuple xs, e => uds_short hN xs e
theorem uds_short {N : Nat} (hN : N < 10 ^ 60) : ∀ xs : List D, uds N xs = true → PyData.leavesShortAll 64 xs = true
  | [], _ => rfl
  | x :: xs, e => by
    simp only [uds, Bool.and_eq_true] at e
    show (x.leavesShort 64 && PyData.leavesShortAll 64 xs) = true
    rw [ud_short hN x e.1, uds_short hN xs e.2]
    rfl
end
/-- a thing within bounds: numbers, weight, depth -/
structure Ux (N w k : Nat) (d : D) : Prop where
  ud : ud N d = true
  wt : d.weight ≤ w
  dp : d.depth ≤ k
/-- a row of things within bounds -/
structure Us (N w k : Nat) (xs : List D) : Prop where
  ud : uds N xs = true
  wt : PyData.weightAll xs ≤ w
  dp : PyData.depthAll xs ≤ k
theorem Ux.mono {N w k M v j : Nat} {d : D} (h : Ux N w k d) (h1 : N ≤ M) (h2 : w ≤ v) (h3 : k ≤ j) : Ux M v j d := ⟨ud_mono h1 d h.ud, Nat.le_trans h.wt h2, Nat.le_trans h.dp h3⟩
theorem Us.mono {N w k M v j : Nat} {d : List D} (h : Us N w k d) (h1 : N ≤ M) (h2 : w ≤ v) (h3 : k ≤ j) : Us M v j d := ⟨uds_mono h1 d h.ud, Nat.le_trans h.wt h2, Nat.le_trans h.dp h3⟩
theorem Ux.fit {N w k : Nat} {d : D} (h : Ux N w k d) (hN : N < 10 ^ 60) : Fit d (66 * w + 64) k := by
  refine ⟨ud_show hN d h.ud, ud_lay d h.ud, h.dp, ?_⟩
  have e := PyData.shown_le 64 (by decide) d (ud_short hN d h.ud)
  have := h.wt
  have e2 : (64 + 2) * d.weight ≤ 66 * w := Nat.mul_le_mul_left _ this
  omega
theorem Ux.tup_iff {N w k : Nat} {xs : List D} : Ux N w (k + 1) (.tuple xs) ↔ Us N w k xs := by
  constructor
  · rintro ⟨a, b, c⟩
    have c' : PyData.depthAll xs + 1 ≤ k + 1 := c
    exact ⟨a, b, by omega⟩
  · rintro ⟨a, b, c⟩
    refine ⟨a, b, ?_⟩
    show PyData.depthAll xs + 1 ≤ k + 1
    omega
theorem Ux.lst_iff {N w k : Nat} {xs : List D} : Ux N w (k + 1) (.list xs) ↔ Us N w k xs := by
  constructor
  · rintro ⟨a, b, c⟩
    have c' : PyData.depthAll xs + 1 ≤ k + 1 := c
    exact ⟨a, b, by omega⟩
  · rintro ⟨a, b, c⟩
    refine ⟨a, b, ?_⟩
    show PyData.depthAll xs + 1 ≤ k + 1
    omega
theorem Ux.tup0 {N w k : Nat} {xs : List D} (h : Ux N w k (.tuple xs)) : ∃ j, k = j + 1 ∧ Us N w j xs := by
  have c : PyData.depthAll xs + 1 ≤ k := h.dp
  exact ⟨k - 1, by omega, Ux.tup_iff.mp (by rw [show k - 1 + 1 = k by omega]; exact h)⟩
theorem Ux.lst0 {N w k : Nat} {xs : List D} (h : Ux N w k (.list xs)) : ∃ j, k = j + 1 ∧ Us N w j xs := by
  have c : PyData.depthAll xs + 1 ≤ k := h.dp
  exact ⟨k - 1, by omega, Ux.lst_iff.mp (by rw [show k - 1 + 1 = k by omega]; exact h)⟩
theorem wA_nil : PyData.weightAll [] = 0 := rfl
theorem wA_cons (x : D) (xs : List D) : PyData.weightAll (x :: xs) = x.weight + 1 + PyData.weightAll xs := rfl
theorem wA_app : ∀ xs ys : List D, PyData.weightAll (xs ++ ys) = PyData.weightAll xs + PyData.weightAll ys
  | [], ys => by simp [wA_nil]
  | x :: xs, ys => by rw [List.cons_append, wA_cons, wA_cons, wA_app xs ys]; omega
theorem dA_app : ∀ xs ys : List D, PyData.depthAll (xs ++ ys) = max (PyData.depthAll xs) (PyData.depthAll ys)
  | [], ys => by
    show PyData.depthAll ys = max 0 _
    omega
  | x :: xs, ys => by
    show max x.depth (PyData.depthAll (xs ++ ys)) = max (max x.depth (PyData.depthAll xs)) _
    rw [dA_app xs ys]
    omega
theorem uds_app {N : Nat} (xs ys : List D) : uds N (xs ++ ys) = (uds N xs && uds N ys) := by
  rw [Bool.eq_iff_iff, Bool.and_eq_true, uds_iff, uds_iff, uds_iff]
  exact List.forall_mem_append
theorem len_wA : ∀ xs : List D, xs.length ≤ PyData.weightAll xs
  | [] => Nat.zero_le _
  | x :: xs => by
    have := len_wA xs
    rw [wA_cons, List.length_cons]
    omega
theorem Us.len {N w k : Nat} {xs : List D} (h : Us N w k xs) : xs.length ≤ w := Nat.le_trans (len_wA xs) h.wt
theorem Us.nil {N k : Nat} : Us N 0 k [] := ⟨rfl, Nat.le_refl _, Nat.zero_le _⟩
theorem Us.app {N w v k : Nat} {xs ys : List D} (h : Us N w k xs) (h2 : Us N v k ys) : Us N (w + v) k (xs ++ ys) := by
  refine ⟨?_, ?_, ?_⟩
  · rw [uds_app, h.ud, h2.ud]; rfl
  · rw [wA_app]
    exact Nat.add_le_add h.wt h2.wt
  · rw [dA_app]
    have := h.dp
    have := h2.dp
    omega
theorem Us.one {N w k : Nat} {x : D} (h : Ux N w k x) : Us N (w + 1) k [x] := by
  refine ⟨?_, ?_, ?_⟩
  · simp only [uds, h.ud, Bool.and_true]
  · rw [wA_cons, wA_nil]
    have := h.wt
    omega
  · show max x.depth 0 ≤ k
    have := h.dp
    omega
/-- of a row that is cut in two -/
theorem Us.parts {N w k : Nat} {xs ys : List D} (h : Us N w k (xs ++ ys)) : Us N (w - PyData.weightAll ys) k xs ∧ Us N (w - PyData.weightAll xs) k ys := by
  obtain ⟨a, b, c⟩ := h
  rw [uds_app, Bool.and_eq_true] at a
  rw [wA_app] at b
  rw [dA_app] at c
  exact ⟨⟨a.1, by omega, by omega⟩, ⟨a.2, by omega, by omega⟩⟩
theorem Us.take {N w k : Nat} {xs : List D} (h : Us N w k xs) (n : Nat) : Us N w k (xs.take n) := by
  rw [← List.take_append_drop n xs] at h
  exact h.parts.1.mono (Nat.le_refl _) (Nat.sub_le ..) (Nat.le_refl _)
theorem Us.drop {N w k : Nat} {xs : List D} (h : Us N w k xs) (n : Nat) : Us N w k (xs.drop n) := by
  rw [← List.take_append_drop n xs] at h
  exact h.parts.2.mono (Nat.le_refl _) (Nat.sub_le ..) (Nat.le_refl _)
theorem Us.cut {N w k : Nat} {xs : List D} (h : Us N w k xs) (lo hi : Option Int) : Us N w k (MI.cut xs lo hi) := (h.drop _).take _
theorem wA_rev : ∀ xs : List D, PyData.weightAll xs.reverse = PyData.weightAll xs
  | [] => rfl
  | x :: xs => by rw [List.reverse_cons, wA_app, wA_rev xs, wA_cons, wA_cons, wA_nil]; omega
theorem dA_rev : ∀ xs : List D, PyData.depthAll xs.reverse = PyData.depthAll xs
  | [] => rfl
  | x :: xs => by
    rw [List.reverse_cons, dA_app, dA_rev xs]
    show max _ (max x.depth 0) = max x.depth _
    omega
theorem Us.rev {N w k : Nat} {xs : List D} (h : Us N w k xs) : Us N w k xs.reverse := by
  refine ⟨?_, by rw [wA_rev]; exact h.wt, by rw [dA_rev]; exact h.dp⟩
  rw [uds_iff]
  intro x hx
  exact uds_iff.mp h.ud x (List.mem_reverse.mp hx)
theorem Us.mem {N w k : Nat} {xs : List D} (h : Us N w k xs) {x : D} (hx : x ∈ xs) : Ux N w k x := by
  obtain ⟨a, b, rfl⟩ := List.append_of_mem hx
  obtain ⟨p, q⟩ := h.parts
  refine ⟨uds_iff.mp h.ud x hx, ?_, ?_⟩
  · have := q.wt
    rw [wA_cons] at this
    omega
  · have : max x.depth (PyData.depthAll b) ≤ k := q.dp
    omega
/-- one of a row made otherwise -/
theorem Us.put {N w k : Nat} {xs : List D} (h : Us N w k xs) {n : Nat} (hn : n < xs.length) : xs[n].weight + 1 ≤ w ∧ Ux N xs[n].weight k xs[n] ∧
    ∀ M v j y, N ≤ M → k ≤ j → Ux M v j y → Us M (w - xs[n].weight + v) j (xs.take n ++ [y] ++ xs.drop (n + 1)) := by
  have e : xs = xs.take n ++ ([xs[n]] ++ xs.drop (n + 1)) := by
    rw [List.singleton_append, List.getElem_cons_drop, List.take_append_drop]
  have hm := h.mem (List.getElem_mem hn)
  have hw : PyData.weightAll xs = PyData.weightAll (xs.take n) + (xs[n].weight + 1 + PyData.weightAll (xs.drop (n + 1))) := by
    conv => lhs; rw [e]
    rw [wA_app, wA_app, wA_cons, wA_nil]
  have hb := h.wt
  refine ⟨by omega, ⟨hm.ud, Nat.le_refl _, hm.dp⟩, fun M v j y h1 h2 hy => ?_⟩
  have a := (h.take n).mono h1 (Nat.le_refl _) h2
  have b := (h.drop (n + 1)).mono h1 (Nat.le_refl _) h2
  have a' : Us M (PyData.weightAll (xs.take n)) j (xs.take n) := ⟨a.ud, Nat.le_refl _, a.dp⟩
  have b' : Us M (PyData.weightAll (xs.drop (n + 1))) j (xs.drop (n + 1)) := ⟨b.ud, Nat.le_refl _, b.dp⟩
  refine ((a'.app (.one hy)).app b').mono (Nat.le_refl _) ?_ (Nat.le_refl _)
  omega
theorem Ux.none {N w k : Nat} : Ux N w k .none := ⟨rfl, Nat.zero_le _, Nat.zero_le _⟩
theorem Ux.bool {N w k : Nat} (b : Bool) : Ux N w k (.bool b) := ⟨rfl, Nat.zero_le _, Nat.zero_le _⟩
theorem Ux.int {N w k : Nat} {i : Int} (h : i.natAbs ≤ N) (hN : N < 10 ^ 60) (hw : 200 ≤ w) : Ux N w k (.int i) := by
  refine ⟨by simp only [MI.ud, decide_eq_true_eq]; exact h, ?_, Nat.zero_le _⟩
  show (if i == 0 then 0 else i.natAbs.log2 + 1) ≤ w
  split
  · exact Nat.zero_le _
  · rename_i h0
    have h1 : i.natAbs ≠ 0 := by
      intro e
      rw [Int.natAbs_eq_zero] at e
      simp [e] at h0
    have : i.natAbs.log2 < 200 := by
      rw [Nat.log2_lt h1]
      exact Nat.lt_of_lt_of_le (ud_int hN h) (by decide +kernel)
    omega
theorem Ux.str {N w k : Nat} {x : Str} (h : ∀ c ∈ x.cps.toList, c < 128) (hw : x.cps.size ≤ w) : Ux N w k (.str x) := by
  refine ⟨?_, hw, Nat.zero_le _⟩
  simp only [MI.ud, List.all_eq_true, decide_eq_true_eq]
  exact h
theorem Ux.chars {N w k : Nat} {x : Str} (h : Ux N w k (.str x)) : (∀ c ∈ x.cps.toList, c < 128) ∧ x.cps.size ≤ w := by
  obtain ⟨a, b, _⟩ := h
  simp only [MI.ud, List.all_eq_true, decide_eq_true_eq] at a
  exact ⟨a, b⟩
theorem text_ascii (i : Int) : ∀ c ∈ (Str.ofString (toString i)).cps.toList, c < 128 := by
  intro c hc
  rw [PyProof.Rows.signs_ofString] at hc
  obtain ⟨ch, h1, rfl⟩ := List.mem_map.mp hc
  obtain h | h := PyProof.Rows.int_sign i ch h1
  · exact digit_ascii h
  · subst h; decide
/-- a number as a text -/
theorem Ux.text {N w k : Nat} {i : Int} (h : i.natAbs ≤ N) (hN : N < 10 ^ 60) (hw : 100 ≤ w) : Ux N w k (.str (Str.ofString (toString i))) := by
  refine .str (text_ascii i) ?_
  have := int_text_length_le10 (k := 60) (by decide) (ud_int hN h)
  show (Str.ofString (toString i)).length ≤ w
  rw [PySem.ofString_length]
  omega
theorem blt_str_int {N : Nat} {i : Int} (h : i.natAbs ≤ N) (hN : N < 10 ^ 60) : blt .str [.int i] = some (.d (.str (Str.ofString (toString i)))) := by
  show (if i.natAbs.log2 < 1920 then _ else _) = _
  rw [if_pos (log_small (k := 60) (by decide) (ud_int hN h))]
end MI

set_option maxRecDepth 100000
/-! MP6: all steps without premises, so that one simp runs a whole block. -/
namespace MI
open PySem
section
variable (X : Ctx)
/-! ### calls -/
def kRes (io : List Bool) (args : Es) (Γ : Env) : CR → R O
  | .ok v outs => .ok v (takeBack io args outs Γ)
  | .exc c fs => .exc c fs Γ
  | .bad => .bad
theorem kCall_eq (f : Nat) (args : Es) (os : List O) (Γ : Env) : kCall X f args os Γ = kRes (X.io f) args Γ (X.cf f os) := rfl
theorem kRes_ok (io : List Bool) (args : Es) (Γ outs : Env) (v : O) : kRes io args Γ (.ok v outs) = .ok v (takeBack io args outs Γ) := rfl
theorem kRes_exc (io : List Bool) (args : Es) (Γ : Env) (c : Cl) (fs : List (Str × D)) : kRes io args Γ (.exc c fs) = .exc c fs Γ := rfl
def kAsT (io : List Bool) (i : Nat) (es : Es) (Γ : Env) (o : Option O) : R (List O) := match o with
  | some _ => (evAs X io es Γ).bind (kGv i)
  | none => (evE X (.var i) Γ).bind (kAs X io es)
theorem evAs_t (io : List Bool) (i : Nat) (es : Es) (Γ : Env) : evAs X (true :: io) (.cons (.var i) es) Γ = kAsT X io i es Γ (slot Γ i) := by
  cases e : slot Γ i with
  | some o => exact evAs_give X e
  | none =>
    have e1 : giveS (.var i) Γ = none := by simp [giveS, e]
    show (match true, giveS (.var i) Γ with
      | true, some i => (evAs X io es Γ).bind fun os Γ => gvO (slot Γ i) i os Γ
      | _, _ => (evE X (.var i) Γ).bind fun o Γ => (pass1 o Γ).bind fun o Γ => (evAs X io es Γ).bind fun os Γ => .ok (o :: os) Γ) = _
    rw [e1]
    rfl
theorem kAsT_some (io : List Bool) (i : Nat) (es : Es) (Γ : Env) (o : O) : kAsT X io i es Γ (some o) = (evAs X io es Γ).bind (kGv i) := rfl
theorem pass_k (x : List (D × D)) (Γ : Env) : pass1 (.k x) Γ = .ok (.d (.dict x)) Γ := rfl
theorem pass_ll (x : List (List D)) (Γ : Env) : pass1 (.ll x) Γ = .ok (.d (.list (x.map .list))) Γ := rfl
theorem pass_x (c : Cl) (fs : List (Str × D)) (Γ : Env) : pass1 (.x c fs) Γ = .ok (.x c fs) Γ := rfl
/-! ### pops -/
def kPopE (o : Option (D × List D)) (i : Nat) (Γ : Env) : R O := (optR o Γ).bind (kPop1 i)
theorem ev_pop (i : Nat) (Γ : Env) : evE X (.pop i) Γ = kPopE (popEnd (slot Γ i)) i Γ := rfl
def kPopA (i : Nat) (e : E) (Γ : Env) (b : Bool) : R O := match b with
  | true => ((evE X e Γ).bind kTD).bind (kPop0 i)
  | false => .bad
theorem ev_popA (i : Nat) (e : E) (Γ : Env) : evE X (.popat i e) Γ = kPopA X i e Γ (isL (slot Γ i)) := by
  show (match isL (slot Γ i) with
    | false => R.bad
    | true => _) = _
  cases isL (slot Γ i) <;> rfl
theorem kPopA_t (i : Nat) (e : E) (Γ : Env) : kPopA X i e Γ true = ((evE X e Γ).bind kTD).bind (kPop0 i) := rfl
theorem isL_l (xs : List D) : isL (some (.l xs)) = true := rfl
theorem isLL_l (xs : List D) : isLL (some (.l xs)) = true := rfl
theorem isLL_ll (xs : List (List D)) : isLL (some (.ll xs)) = true := rfl
def kLln (o : Option O) (Γ : Env) : R O := match o with
  | some (.ll xss) => if SeqAt.shaped (.list (xss.map .list)) then .ok (.d (.bool xss.isEmpty)) Γ else .bad
  | _ => .bad
theorem ev_lln (i : Nat) (Γ : Env) : evE X (.llnil i) Γ = kLln (slot Γ i) Γ := by
  show (match slot Γ i with
    | some (.ll xss) => if SeqAt.shaped (.list (xss.map .list)) then R.ok (O.d (.bool xss.isEmpty)) Γ else .bad
    | _ => .bad) = _
  rfl
/-! ### slices with both ends -/
def kSlb5 (l h : Int) (x : D) (Γ : Env) : R O := optR (slD x (some l) (some h)) Γ
def kSlb4 (p : B) (l h : Int) (Γ : Env) : R O := (rdB p Γ).bind (kSlb5 l h)
def kSlb3 (p : B) (l : Int) (h : D) (Γ : Env) : R O := (optR (asInt h) Γ).bind (kSlb4 p l)
def kSlb2 (hi : E) (p : B) (l : Int) (Γ : Env) : R O := ((evE X hi Γ).bind kTD).bind (kSlb3 p l)
def kSlb1 (hi : E) (p : B) (l : D) (Γ : Env) : R O := (optR (asInt l) Γ).bind (kSlb2 X hi p)
def kSlb (lo hi : E) (p : B) (Γ : Env) : R O := ((evE X lo Γ).bind kTD).bind (kSlb1 X hi p)
theorem ev_slb (a lo hi : E) (Γ : Env) : evE X (.slb a lo hi) Γ = (opB a Γ (evE X a Γ)).bind (kSlb X lo hi) := rfl
/-! ### methods -/
def kMthK (m : Mth) (args : Es) (p : B) (kd : Kd) (Γ : Env) (b : Bool) : R O := match b with
  | true => (evDs X args Γ).bind (kMth1 m p kd)
  | false => .bad
theorem kMth_eq (m : Mth) (args : Es) (p : B) (Γ : Env) : kMth X m args p Γ = kMthK X m args p (kdB p Γ) Γ (m.on (kdB p Γ)) := by
  unfold kMth kMthK
  cases m.on (kdB p Γ) <;> rfl
theorem kMthK_t (m : Mth) (args : Es) (p : B) (kd : Kd) (Γ : Env) : kMthK X m args p kd Γ true = (evDs X args Γ).bind (kMth1 m p kd) := rfl
/-! ### refusals looked at -/
def kAtt (f : Str) (Γ : Env) : Option O → R O
  | some (.x _ fs) => (match fs.lookup f with
    | some v => .ok (.d v) Γ
    | none => .bad)
  | _ => .bad
/-! ### walks -/
def kKeys (x : D) (Γ : Env) : R (List D) := match x with
  | .dict kvs => .ok (kvs.map (·.1)) Γ
  | _ => .bad
theorem evI_keys (e : E) (Γ : Env) : evI X (.keys e) Γ = ((evE X e Γ).bind kTD).bind kKeys := rfl
theorem kKeys_d (kvs : List (D × D)) (Γ : Env) : kKeys (.dict kvs) Γ = .ok (kvs.map (·.1)) Γ := rfl
def kItems (x : D) (Γ : Env) : R (List D) := match x with
  | .dict kvs => .ok (kvs.map fun kv => .tuple [kv.1, kv.2]) Γ
  | _ => .bad
theorem evI_items (e : E) (Γ : Env) : evI X (.items e) Γ = ((evE X e Γ).bind kTD).bind kItems := rfl
theorem kItems_d (kvs : List (D × D)) (Γ : Env) : kItems (.dict kvs) Γ = .ok (kvs.map fun kv => .tuple [kv.1, kv.2]) Γ := rfl
def enumL (xs : List D) : List D := xs.zipIdx.map fun p => .tuple [.int p.2, p.1]
def kEnum (x : D) (Γ : Env) : R (List D) := match items x with
  | some xs => .ok (enumL xs) Γ
  | none => .bad
theorem evI_enum (e : E) (Γ : Env) : evI X (.enum e) Γ = ((evE X e Γ).bind kTD).bind kEnum := rfl
theorem kEnum_l (xs : List D) (Γ : Env) : kEnum (.list xs) Γ = .ok (enumL xs) Γ := rfl
theorem kEnum_t (xs : List D) (Γ : Env) : kEnum (.tuple xs) Γ = .ok (enumL xs) Γ := rfl
def zipL (xs ys : List D) : List D := (xs.zip ys).map fun p => .tuple [p.1, p.2]
def kZip1 (x y : D) (Γ : Env) : R (List D) := match x, y with
  | .list xs, .list ys => .ok (zipL xs ys) Γ
  | .tuple xs, .tuple ys => .ok (zipL xs ys) Γ
  | _, _ => .bad
def kZip (b : E) (x : D) (Γ : Env) : R (List D) := ((evE X b Γ).bind kTD).bind (kZip1 x)
theorem evI_zip (a b : E) (Γ : Env) : evI X (.zip a b) Γ = ((evE X a Γ).bind kTD).bind (kZip X b) := rfl
theorem kZip1_tt (xs ys : List D) (Γ : Env) : kZip1 (.tuple xs) (.tuple ys) Γ = .ok (zipL xs ys) Γ := rfl
theorem kZip1_ll (xs ys : List D) (Γ : Env) : kZip1 (.list xs) (.list ys) Γ = .ok (zipL xs ys) Γ := rfl
def kRng3c (x y z : D) (Γ : Env) : R (List D) := optR (rngD [x, y, z]) Γ
def kRng3b (c : E) (x y : D) (Γ : Env) : R (List D) := ((evE X c Γ).bind kTD).bind (kRng3c x y)
def kRng3 (b c : E) (x : D) (Γ : Env) : R (List D) := ((evE X b Γ).bind kTD).bind (kRng3b X c x)
theorem evI_rng3 (a b c : E) (Γ : Env) : evI X (.rng3 a b c) Γ = ((evE X a Γ).bind kTD).bind (kRng3 X b c) := rfl
/-! ### statements -/
def kAppC (i : Nat) (e : E) (Γ : Env) (b : Bool) : SR := match b with
  | true => ((evE X e Γ).bind kTD).st (kApp i)
  | false => .bad
theorem s_appC (i : Nat) (e : E) (Γ : Env) : evS X (.app i e) Γ = kAppC X i e Γ (isL (slot Γ i)) := by
  show (match isL (slot Γ i) with
    | false => SR.bad
    | true => _) = _
  cases isL (slot Γ i) <;> rfl
theorem kAppC_t (i : Nat) (e : E) (Γ : Env) : kAppC X i e Γ true = ((evE X e Γ).bind kTD).st (kApp i) := rfl
def kApplC (i : Nat) (e : E) (Γ : Env) (b : Bool) : SR := match b with
  | true => (evE X e Γ).st (kAppl i)
  | false => .bad
theorem s_applC (i : Nat) (e : E) (Γ : Env) : evS X (.appl i e) Γ = kApplC X i e Γ (isLL (slot Γ i)) := by
  show (match isLL (slot Γ i) with
    | false => SR.bad
    | true => _) = _
  cases isLL (slot Γ i) <;> rfl
theorem kApplC_t (i : Nat) (e : E) (Γ : Env) : kApplC X i e Γ true = (evE X e Γ).st (kAppl i) := rfl
def kExtC (i : Nat) (e : E) (Γ : Env) (b : Bool) : SR := match b with
  | true => ((evE X e Γ).bind kTD).st (kExt i)
  | false => .bad
theorem s_extC (i : Nat) (e : E) (Γ : Env) : evS X (.ext i e) Γ = kExtC X i e Γ (isL (slot Γ i)) := by
  show (match isL (slot Γ i) with
    | false => SR.bad
    | true => _) = _
  cases isL (slot Γ i) <;> rfl
theorem kExtC_t (i : Nat) (e : E) (Γ : Env) : kExtC X i e Γ true = ((evE X e Γ).bind kTD).st (kExt i) := rfl
def kIns2 (i : Nat) (j x : D) (Γ : Env) : SR := putSlot Γ i (insIt (slot Γ i) j x)
def kIns1 (i : Nat) (e : E) (j : D) (Γ : Env) : SR := ((evE X e Γ).bind kTD).st (kIns2 i j)
def kInsC (i : Nat) (j e : E) (Γ : Env) (b : Bool) : SR := match b with
  | true => ((evE X j Γ).bind kTD).st (kIns1 X i e)
  | false => .bad
theorem s_insC (i : Nat) (j e : E) (Γ : Env) : evS X (.ins i j e) Γ = kInsC X i j e Γ (isL (slot Γ i)) := by
  show (match isL (slot Γ i) with
    | false => SR.bad
    | true => _) = _
  cases isL (slot Γ i) <;> rfl
theorem kInsC_t (i : Nat) (j e : E) (Γ : Env) : kInsC X i j e Γ true = ((evE X j Γ).bind kTD).st (kIns1 X i e) := rfl
def kRevs (i : Nat) (Γ : Env) : Option O → SR
  | some (.l xs) => .nx (Γ.set i (some (.l xs.reverse)))
  | _ => .bad
theorem s_revs (i : Nat) (Γ : Env) : evS X (.revs i) Γ = kRevs i Γ (slot Γ i) := by
  show (match slot Γ i with
    | some (.l xs) => SR.nx (Γ.set i (some (.l xs.reverse)))
    | _ => .bad) = _
  cases slot Γ i with
  | none => rfl
  | some o => cases o <;> rfl
theorem kRevs_l (i : Nat) (Γ : Env) (xs : List D) : kRevs i Γ (some (.l xs)) = .nx (Γ.set i (some (.l xs.reverse))) := rfl
def kClr (i : Nat) (Γ : Env) : Option O → SR
  | some (.l _) => .nx (Γ.set i (some (.l [])))
  | some (.k _) => .nx (Γ.set i (some (.k [])))
  | _ => .bad
theorem s_clr (i : Nat) (Γ : Env) : evS X (.clr i) Γ = kClr i Γ (slot Γ i) := by
  show (match slot Γ i with
    | some (.l _) => SR.nx (Γ.set i (some (.l [])))
    | some (.k _) => SR.nx (Γ.set i (some (.k [])))
    | _ => .bad) = _
  cases slot Γ i with
  | none => rfl
  | some o => cases o <;> rfl
theorem kClr_l (i : Nat) (Γ : Env) (xs : List D) : kClr i Γ (some (.l xs)) = .nx (Γ.set i (some (.l []))) := rfl
theorem kClr_k (i : Nat) (Γ : Env) (xs : List (D × D)) : kClr i Γ (some (.k xs)) = .nx (Γ.set i (some (.k []))) := rfl
def kParS (is : List Nat) (xs : List D) (Γ : Env) : SR := optS (setAll is xs Γ)
theorem s_par (is : List Nat) (es : Es) (Γ : Env) : evS X (.par is es) Γ = (evDs X es Γ).st (kParS is) := rfl
theorem s_brk (Γ : Env) : evS X .brk Γ = .bk Γ := rfl
theorem s_cont (Γ : Env) : evS X .cont Γ = .ct Γ := rfl
theorem s_retn (Γ : Env) : evS X .retn Γ = .rt (.d .none) Γ := rfl
theorem s_raise (c : Cl) (es : Es) (Γ : Env) : evS X (.raise c es) Γ = (evDs X es Γ).st (raiseC c) := rfl
theorem s_try (b : Ss) (c : Cl) (n : Option Nat) (h : Ss) (Γ : Env) : evS X (.try b c n h) Γ = tryE c n h (evSs X b Γ) := rfl
def kWhl (c : E) (b : Ss) (n : Nat) (Γ : Env) : SR := whlLoop (evT X c) (evSs X b) n Γ
theorem s_whl (c : E) (b : Ss) (Γ : Env) : evS X (.whl c b) Γ = kWhl X c b X.fu Γ := rfl
def kRetv (i : Nat) (Γ : Env) : Option O → SR
  | some o => .rt o (Γ.set i none)
  | none => .bad
theorem s_rv (i : Nat) (Γ : Env) : evS X (.retv i) Γ = kRetv i Γ (slot Γ i) := by
  show (match slot Γ i with | some o => SR.rt o (Γ.set i none) | none => .bad) = _
  cases slot Γ i <;> rfl
theorem kRetv_s (i : Nat) (Γ : Env) (o : O) : kRetv i Γ (some o) = .rt o (Γ.set i none) := rfl
def kSetC (i : Nat) (k : E) (y : D) (Γ : Env) : Bool → SR
  | true => ((evE X k Γ).bind kTD).st (kSet2 i y)
  | false => .bad
theorem kSet_eq (i : Nat) (k : E) (y : D) (Γ : Env) : kSet X i k y Γ = kSetC X i k y Γ (slot Γ i).isSome := by
  unfold kSet
  cases (slot Γ i).isSome <;> rfl
theorem kSetC_t (i : Nat) (k : E) (y : D) (Γ : Env) : kSetC X i k y Γ true = ((evE X k Γ).bind kTD).st (kSet2 i y) := rfl
end
theorem tb_1 (es : Es) (outs Γ : Env) : takeBack [false] es outs Γ = Γ := by
  cases es <;> cases outs <;> first | rfl | exact tb_nil ..
theorem tb_2 (es : Es) (outs Γ : Env) : takeBack [false, false] es outs Γ = Γ := by
  cases es <;> cases outs <;> first | rfl | exact tb_1 ..
theorem tb_3 (es : Es) (outs Γ : Env) : takeBack [false, false, false] es outs Γ = Γ := by
  cases es <;> cases outs <;> first | rfl | exact tb_2 ..
theorem tb_4 (es : Es) (outs Γ : Env) : takeBack [false, false, false, false] es outs Γ = Γ := by
  cases es <;> cases outs <;> first | rfl | exact tb_3 ..
theorem tb_5 (es : Es) (outs Γ : Env) : takeBack [false, false, false, false, false] es outs Γ = Γ := by
  cases es <;> cases outs <;> first | rfl | exact tb_4 ..
def kMth2C (m : Mth) (xs : List D) (x : D) (Γ : Env) (b : Bool) : R O := match b with
  | true => optR (MI.mth m x xs) Γ
  | false => .bad
theorem kMth2_eq (m : Mth) (kd : Kd) (xs : List D) (x : D) (Γ : Env) : kMth2 m kd xs x Γ = kMth2C m xs x Γ (decide (kdOf x = kd)) := by
  unfold kMth2 kMth2C
  cases decide (kdOf x = kd) <;> rfl
theorem kMth2C_t (m : Mth) (xs : List D) (x : D) (Γ : Env) : kMth2C m xs x Γ true = optR (MI.mth m x xs) Γ := rfl
theorem kdS_d (x : D) : kdS (some (.d x)) = kdOf x := rfl
theorem kdS_l (x : List D) : kdS (some (.l x)) = .lst := rfl
theorem kdS_k (x : List (D × D)) : kdS (some (.k x)) = .dct := rfl
theorem kd_lst (xs : List D) : kdOf (.list xs) = .lst := rfl
theorem kd_tup (xs : List D) : kdOf (.tuple xs) = .tup := rfl
theorem kd_dct (xs : List (D × D)) : kdOf (.dict xs) = .dct := rfl
theorem kd_str (x : Str) : kdOf (.str x) = .str := rfl
theorem on_1 : Mth.on .count .lst = true := rfl
theorem on_2 : Mth.on .count .tup = true := rfl
theorem on_3 : Mth.on .index .lst = true := rfl
theorem on_4 : Mth.on .index .tup = true := rfl
theorem on_5 : Mth.on .get1 .dct = true := rfl
theorem on_6 : Mth.on .get2 .dct = true := rfl
theorem on_7 : Mth.on .join .str = true := rfl
theorem on_8 : Mth.on .upper .str = true := rfl
theorem on_9 : Mth.on .values .dct = true := rfl
theorem on_10 : Mth.on .items .dct = true := rfl
theorem on_11 : Mth.on .split .str = true := rfl
theorem isN_int (i : Int) : cop .is (.int i) .none = some false := rfl
theorem isN_bool (b : Bool) : cop .is (.bool b) .none = some false := rfl
theorem isN_str (x : Str) : cop .is (.str x) .none = some false := rfl
theorem isN_tup (xs : List D) : cop .is (.tuple xs) .none = some false := rfl
theorem isN_lst (xs : List D) : cop .is (.list xs) .none = some false := rfl
theorem isN_dct (xs : List (D × D)) : cop .is (.dict xs) .none = some false := rfl
theorem isN_non : cop .is .none .none = some true := rfl
theorem inN_int (i : Int) : cop .isnt (.int i) .none = some true := rfl
theorem inN_bool (b : Bool) : cop .isnt (.bool b) .none = some true := rfl
theorem inN_str (x : Str) : cop .isnt (.str x) .none = some true := rfl
theorem inN_tup (xs : List D) : cop .isnt (.tuple xs) .none = some true := rfl
theorem inN_lst (xs : List D) : cop .isnt (.list xs) .none = some true := rfl
theorem inN_dct (xs : List (D × D)) : cop .isnt (.dict xs) .none = some true := rfl
theorem inN_non : cop .isnt .none .none = some false := rfl
theorem isT_true : cop .is (.bool true) (.bool true) = some true := rfl
theorem inT_true : cop .isnt (.bool true) (.bool true) = some false := rfl
theorem isT_false : cop .is (.bool false) (.bool true) = some false := rfl
theorem inT_false : cop .isnt (.bool false) (.bool true) = some true := rfl
theorem putSlot_s (Γ : Env) (i : Nat) (o : O) : putSlot Γ i (some o) = .nx (Γ.set i (some o)) := rfl
theorem seq_bk (Γ : Env) (f : Env → SR) : (SR.bk Γ).seq f = .bk Γ := rfl
theorem seq_ct (Γ : Env) (f : Env → SR) : (SR.ct Γ).seq f = .ct Γ := rfl
theorem seq_exc (c : Cl) (fs : List (Str × D)) (Γ : Env) (f : Env → SR) : (SR.exc c fs Γ).seq f = .exc c fs Γ := rfl
theorem tryE_nx (c : Cl) (n : Option Nat) (h : Ss) (Γ : Env) : tryE c n h (.nx Γ) = .nx Γ := rfl
theorem tryE_rt (c : Cl) (n : Option Nat) (h : Ss) (o : O) (Γ : Env) : tryE c n h (.rt o Γ) = .rt o Γ := rfl
theorem fin_r (np : Nat) (o : O) (Γ : Env) : fin np (.rt o Γ) = .ok o (Γ.take np) := rfl
theorem fin_n (np : Nat) (Γ : Env) : fin np (.nx Γ) = .ok (.d .none) (Γ.take np) := rfl
theorem fin_e (np : Nat) (c : Cl) (fs : List (Str × D)) (Γ : Env) : fin np (.exc c fs Γ) = .exc c fs := rfl
theorem raise_step (a : D) (Γ : Env) : raiseC .noStep [a] Γ = .exc .noStep [("hand", a)] Γ := rfl
theorem raise_paper (a b : D) (Γ : Env) : raiseC .noPaper [a, b] Γ = .exc .noPaper [("at", b), ("word", a)] Γ := rfl
theorem raise_stand (a b : D) (Γ : Env) : raiseC .noStand [a, b] Γ = .exc .noStand [("at", b), ("word", a)] Γ := rfl
theorem raise_many (a : D) (Γ : Env) : raiseC .tooMany [a] Γ = .exc .tooMany [("word", a)] Γ := rfl
theorem raise_type (a : D) (Γ : Env) : raiseC .noType [a] Γ = .exc .noType [("type_here", a)] Γ := rfl
theorem opS_some (Γ : Env) : optS (some Γ) = .nx Γ := rfl
theorem asg_nm (i : Nat) (x : D) (Γ : Env) : asgT (.nm i) x Γ = some (Γ.set i (some (.d x))) := rfl
theorem asg_tp (is : List Nat) (xs : List D) (Γ : Env) : asgT (.tp is) (.tuple xs) Γ = setAll is xs Γ := rfl
theorem setAll_nil (Γ : Env) : setAll [] [] Γ = some Γ := rfl
theorem setAll_cons (i : Nat) (is : List Nat) (x : D) (xs : List D) (Γ : Env) : setAll (i :: is) (x :: xs) Γ = setAll is xs (Γ.set i (some (.d x))) := rfl
theorem app_some {xs : List D} {x : D} (h : xs.length < lim) : appIt (some (.l xs)) x = some (.l (xs ++ [x])) := by
  show (if xs.length < lim then _ else _) = _
  rw [if_pos h]
theorem ext_tup {xs ys : List D} (h : xs.length + ys.length ≤ lim) : extIt (some (.l xs)) (.tuple ys) = some (.l (xs ++ ys)) := by
  show (if xs.length + ys.length ≤ lim then _ else _) = _
  rw [if_pos h]
theorem ext_lst {xs ys : List D} (h : xs.length + ys.length ≤ lim) : extIt (some (.l xs)) (.list ys) = some (.l (xs ++ ys)) := by
  show (if xs.length + ys.length ≤ lim then _ else _) = _
  rw [if_pos h]
/-! ### what a wish becomes of a run -/
theorem ok_of {np : Nat} {a : SR} {v : O} {outs : Env} (h : a.wp { nx := fun Γ => v = .d .none ∧ Γ.take np = outs, rt := fun o Γ => o = v ∧ Γ.take np = outs }) : fin np a = .ok v outs := by
  cases a with
  | nx Γ => obtain ⟨rfl, rfl⟩ := h; rfl
  | rt o Γ => obtain ⟨rfl, rfl⟩ := h; rfl
  | _ => exact h.elim
theorem wp_if (X : Ctx) (t e : Ss) (b : Bool) (Γ : Env) (Q : Po) : (kIf X t e b Γ).wp Q = if b = true then (evSs X t Γ).wp Q else (evSs X e Γ).wp Q := by cases b <;> rfl
end MI

set_option maxRecDepth 100000
/-! MP7: loops. -/
namespace MI
open PySem
theorem law_ok {np : Nat} {a : SR} (h : a.wp { nx := fun _ => False, rt := fun o _ => o = .d (.bool true) }) : ∃ outs, fin np a = .ok (.d (.bool true)) outs := by
  obtain ⟨o, Γ, e, rfl⟩ := fin_rt (np := np) h
  exact ⟨_, e⟩
theorem ok_ex {np : Nat} {a : SR} {v : O} (h : a.wp { nx := fun _ => v = .d .none, rt := fun o _ => o = v }) : ∃ outs, fin np a = .ok v outs := by
  cases a with
  | nx Γ => exact ⟨_, by rw [show v = .d .none from h]; rfl⟩
  | rt o Γ => exact ⟨_, by rw [← show o = v from h]; rfl⟩
  | _ => exact h.elim
/-- a def's end, with a wish of the value and of what stands in the parameters -/
theorem ok_wp {np : Nat} {a : SR} {Q : O → Env → Prop} (h : a.wp { nx := fun Γ => Q (.d .none) (Γ.take np), rt := fun o Γ => Q o (Γ.take np) }) : ∃ o outs, Q o outs ∧ fin np a = .ok o outs := by
  obtain ⟨o, outs, e, q⟩ := fin_wp h
  exact ⟨o, outs, q, e⟩
theorem st_wp_eq {α : Type} (x : α) (Γ : Env) (f : α → Env → SR) (Q : Po) : ((R.ok x Γ).st f).wp Q = (f x Γ).wp Q := rfl
theorem for_wp {X : Ctx} {t : T} {it : I} {b : Ss} {rest : Env → SR} {Γ : Env} {Q : Po} (xs : List D) (hx : evI X it Γ = .ok xs Γ) (J : Nat → Env → Prop) (h0 : J 0 Γ)
    (step : ∀ i x Γ, xs[i]? = some x → J i Γ → ∃ Γ1, asgT t x Γ = some Γ1 ∧ (evSs X b Γ1).wp { Q with nx := J (i + 1), ct := J (i + 1), bk := fun Γ => (rest Γ).wp Q })
    (fin : ∀ Γ, J xs.length Γ → (rest Γ).wp Q) : ((evS X (.for t it b) Γ).seq rest).wp Q := by
  rw [seq_wp_eq, s_for, hx]
  exact forLoop_wp (Q := { Q with nx := fun Γ => (rest Γ).wp Q }) J h0 step fin
theorem range_at' {n i : Nat} {x : D} (h : ((List.range n).map fun (k : Nat) => PyData.int (k : Int))[i]? = some x) : i < n ∧ x = .int i := by
  rw [List.getElem?_map, Option.map_eq_some_iff] at h
  obtain ⟨k, h1, rfl⟩ := h
  obtain ⟨h2, h3⟩ := List.getElem?_eq_some_iff.mp h1
  rw [List.getElem_range] at h3
  subst h3
  exact ⟨by simpa using h2, rfl⟩
theorem rng1_nat {n : Nat} (h : n < 1000000) : rngD [.int (n : Int)] = some ((List.range n).map fun (k : Nat) => .int k) := by
  have := rng1_ok (m := (n : Int)) (by omega) (by omega)
  rwa [Int.toNat_natCast] at this
theorem for_rng {X : Ctx} {j : Nat} {e : E} {b : Ss} {rest : Env → SR} {Γ : Env} {Q : Po} (n : Nat) (hn : n < 1000000) (he : (evE X e Γ).bind kTD = .ok (.int n) Γ) (J : Nat → Env → Prop) (h0 : J 0 Γ)
    (step : ∀ i Γ, i < n → J i Γ → (evSs X b (Γ.set j (some (.d (.int i))))).wp { Q with nx := J (i + 1), ct := J (i + 1), bk := fun Γ => (rest Γ).wp Q })
    (fin : ∀ Γ, J n Γ → (rest Γ).wp Q) : ((evS X (.for (.nm j) (.rng1 e) b) Γ).seq rest).wp Q := by
  refine for_wp ((List.range n).map fun (k : Nat) => .int k) ?_ J h0 (fun i x Γ hx h => ?_) (fun Γ h => fin Γ (by simpa using h))
  · rw [evI_rng1, he]
    show optR (rngD [.int n]) Γ = _
    rw [rng1_nat hn]
    rfl
  · obtain ⟨hi, rfl⟩ := range_at' hx
    exact ⟨_, rfl, step i Γ hi h⟩
theorem rng2_nat {a b : Nat} (h : b < 1000000) (ha : a < 1000000) : rngD [.int (a : Int), .int (b : Int)] = some ((List.range (b - a)).map fun (k : Nat) => .int ((a + k : Nat) : Int)) := by
  have := rng2_ok (i := (a : Int)) (j := (b : Int)) (by omega) (by omega) (by omega) (by omega)
  rw [this, show ((b : Int) - (a : Int)).toNat = b - a by omega]
  rfl
theorem for_rng2 {X : Ctx} {j : Nat} {e1 e2 : E} {b : Ss} {rest : Env → SR} {Γ : Env} {Q : Po} (a n : Nat) (hn : a + n < 1000000) (he1 : (evE X e1 Γ).bind kTD = .ok (.int a) Γ) (he2 : (evE X e2 Γ).bind kTD = .ok (.int ((a + n : Nat) : Int)) Γ) (J : Nat → Env → Prop) (h0 : J 0 Γ)
    (step : ∀ i Γ, i < n → J i Γ → (evSs X b (Γ.set j (some (.d (.int ((a + i : Nat) : Int)))))).wp { Q with nx := J (i + 1), ct := J (i + 1), bk := fun Γ => (rest Γ).wp Q })
    (fin : ∀ Γ, J n Γ → (rest Γ).wp Q) : ((evS X (.for (.nm j) (.rng2 e1 e2) b) Γ).seq rest).wp Q := by
  refine for_wp ((List.range n).map fun (k : Nat) => .int ((a + k : Nat) : Int)) ?_ J h0 (fun i x Γ hx h => ?_) (fun Γ h => fin Γ (by simpa using h))
  · rw [evI_rng2, he1]
    show ((evE X e2 Γ).bind kTD).bind (kRng2b (.int a)) = _
    rw [he2]
    show optR (rngD [.int a, .int ((a + n : Nat) : Int)]) Γ = _
    rw [rng2_nat hn (by omega), show a + n - a = n by omega]
    rfl
  · rw [List.getElem?_map, Option.map_eq_some_iff] at hx
    obtain ⟨k, h1, rfl⟩ := hx
    obtain ⟨h2, h3⟩ := List.getElem?_eq_some_iff.mp h1
    rw [List.getElem_range] at h3
    subst h3
    exact ⟨_, rfl, step i Γ (by simpa using h2) h⟩
/-- a for over a row of things, one by one -/
theorem for_map {α : Type} {X : Ctx} {j : Nat} {it : I} {b : Ss} {rest : Env → SR} {Γ : Env} {Q : Po} (l : List α) (d : α → D) (hx : evI X it Γ = .ok (l.map d) Γ) (J : Nat → Env → Prop) (h0 : J 0 Γ)
    (step : ∀ i a Γ, l[i]? = some a → J i Γ → (evSs X b (Γ.set j (some (.d (d a))))).wp { Q with nx := J (i + 1), ct := J (i + 1), bk := fun Γ => (rest Γ).wp Q })
    (fin : ∀ Γ, J l.length Γ → (rest Γ).wp Q) : ((evS X (.for (.nm j) it b) Γ).seq rest).wp Q := by
  refine for_wp (l.map d) hx J h0 (fun i x Γ hx h => ?_) (fun Γ h => fin Γ (by simpa using h))
  rw [List.getElem?_map, Option.map_eq_some_iff] at hx
  obtain ⟨a, h1, rfl⟩ := hx
  exact ⟨_, rfl, step i a Γ h1 h⟩
/-- a comprehension over a range: its part may turn the state, told by J -/
theorem lc_rng {X : Ctx} {j : Nat} {e : E} {Γ : Env} (n : Nat) (J : Nat → List D → Env → Prop) (h0 : J 0 [] Γ)
    (step : ∀ i ys Γ1, i < n → J i ys Γ1 → ∃ y Γ2, (evE X e ((Γ1.set j none).set j (some (.d (.int i))))).bind kTD = .ok y Γ2 ∧ J (i + 1) (ys ++ [y]) Γ2) :
    ∃ ys Γ2, kLc X [j] (.nm j) (.cst (.bool true)) e ((List.range n).map fun (k : Nat) => .int k) Γ = .ok (.l ys) (restore Γ Γ2 [j]) ∧ J n ys Γ2 := by
  obtain ⟨ys, Γ2, h1, h2⟩ := lcLoop_ok (own := [j]) (t := .nm j) (c := fun Γ => (evE X (.cst (.bool true)) Γ).toB) (f := fun Γ => (evE X e Γ).toD) (xs := (List.range n).map fun (k : Nat) => PyData.int k) (Γ := Γ) J h0 (fun i x ys Γ1 hx h => by
    obtain ⟨hi, rfl⟩ := range_at' hx
    obtain ⟨y, Γ2, h3, h4⟩ := step i ys Γ1 hi h
    exact ⟨_, true, _, rfl, rfl, fun _ => ⟨y, Γ2, h3, h4⟩, fun z => nomatch z⟩)
  exact ⟨ys, Γ2, kLc_ok X h1, by simpa using h2⟩
end MI

set_option maxRecDepth 100000
namespace MI
open PySem
def fn_first_decider : Fn := ⟨1, [false], 1, (.cons (.ret (.tup (.cons (.cst (.none)) (.cons (.cst (.bool false)) (.cons (.bin .mul (.tup (.cons (.cst (.str "out")) .nil)) (.var 0)) .nil)))))
  .nil)⟩
def fn__law_feed : Fn := ⟨1, [false], 1, (.cons (.ret (.dct (.cons (.cst (.str "cells")) (.cons (.scut 0 63) (.cons (.cst (.str "at")) (.cons (.cst (.int 0)) (.cons (.cst (.str "left")) (.cons (.cst (.int 0)) (.cons (.cst (.str "turn")) (.cons (.cst (.int 0)) .nil))))))))))
  .nil)⟩
def fn__law_draw : Fn := ⟨2, [true, false], 7, (.cons (.asg 2 (.bin .add (.idx (.var 0) (.cst (.str "turn"))) (.cst (.int 1))))
  (.cons (.set 0 (.cst (.str "turn")) (.var 2))
  (.cons (.ife (.cmp .gt (.idx (.var 0) (.cst (.str "left"))) (.cst (.int 0)))
  (.cons (.asg 3 (.bin .mod (.idx (.var 0) (.cst (.str "left"))) (.var 1)))
  (.cons (.set 0 (.cst (.str "left")) (.bin .fdiv (.idx (.var 0) (.cst (.str "left"))) (.var 1)))
  (.cons (.retv 3)
  .nil)))
  .nil)
  (.cons (.asg 4 (.idx (.var 0) (.cst (.str "cells"))))
  (.cons (.asg 5 (.ite (.cmp .gt (.blt .len (.var 4)) (.cst (.int 0))) (.idx (.var 4) (.bin .mod (.idx (.var 0) (.cst (.str "at"))) (.blt .len (.var 4)))) (.cst (.int 0))))
  (.cons (.set 0 (.cst (.str "at")) (.bin .add (.idx (.var 0) (.cst (.str "at"))) (.cst (.int 1))))
  (.cons (.ife (.and (.cmp .ge (.var 5) (.bin .pow (.cst (.int 10)) (.cst (.int 18)))) (.cmp .le (.idx (.var 0) (.cst (.str "at"))) (.blt .len (.var 4))))
  (.cons (.set 0 (.cst (.str "left")) (.bin .fdiv (.var 5) (.var 1)))
  (.cons (.ret (.bin .mod (.var 5) (.var 1)))
  .nil))
  .nil)
  (.cons (.asg 6 (.bin .mod (.bin .mul (.bin .add (.bin .add (.bin .add (.bin .mod (.var 5) (.cst (.int 1000003))) (.bin .mul (.bin .mul (.cst (.int 31)) (.var 2)) (.var 2))) (.bin .mul (.cst (.int 7)) (.var 2))) (.cst (.int 11))) (.cst (.int 48271))) (.cst (.int 2147483647))))
  (.cons (.asg 6 (.bin .mod (.bin .add (.bin .mul (.bin .fdiv (.var 6) (.cst (.int 64))) (.cst (.int 69621))) (.bin .mul (.cst (.int 7919)) (.var 2))) (.cst (.int 2147483587))))
  (.cons (.ret (.bin .mod (.bin .fdiv (.var 6) (.cst (.int 64))) (.var 1)))
  .nil))))))))))⟩
def fn__law_words : Fn := ⟨0, [], 0, (.cons (.ret (.lst (.cons (.cst (.str "out")) (.cons (.cst (.str "ask")) (.cons (.cst (.str "close")) (.cons (.cst (.str "look")) (.cons (.cst (.str "holds")) (.cons (.cst (.str "right")) (.cons (.cst (.str "down")) .nil)))))))))
  .nil)⟩
def fn__law_stand : Fn := ⟨2, [true, false], 5, (.cons (.asg 2 (.idx (.lst (.cons (.cst (.none)) (.cons (.call 5 (.cons (.var 0) (.cons (.var 1) .nil))) (.cons (.call 5 (.cons (.var 0) (.cons (.var 1) .nil))) .nil)))) (.call 5 (.cons (.var 0) (.cons (.cst (.int 3)) .nil)))))
  (.cons (.asg 3 (.blt .tuple (.lc [4] (.nm 4) (.rng1 (.var 1)) (.cst (.bool true)) (.idx (.call 6 .nil) (.call 5 (.cons (.var 0) (.cons (.cst (.int 7)) .nil)))))))
  (.cons (.ret (.tup (.cons (.var 2) (.cons (.cmp .eq (.call 5 (.cons (.var 0) (.cons (.cst (.int 2)) .nil))) (.cst (.int 1))) (.cons (.var 3) .nil)))))
  .nil)))⟩
def fn_behind_word : Fn := ⟨4, [false, false, false, false], 4, (.cons (.ife (.cmp .eq (.var 2) (.cst (.str "out")))
  (.cons (.ret (.tup (.cons (.var 3) (.cons (.var 1) (.cons (.cst (.str "ask")) .nil)))))
  .nil)
  .nil)
  (.cons (.ife (.cmp .eq (.var 2) (.cst (.str "ask")))
  (.cons (.ret (.tup (.cons (.var 0) (.cons (.var 1) (.cons (.ite (.var 1) (.cst (.str "right")) (.cst (.str "close"))) .nil)))))
  .nil)
  .nil)
  (.cons (.ife (.cmp .eq (.var 2) (.cst (.str "close")))
  (.cons (.ret (.tup (.cons (.var 0) (.cons (.cst (.bool true)) (.cons (.cst (.str "look")) .nil)))))
  .nil)
  .nil)
  (.cons (.ife (.cmp .eq (.var 2) (.cst (.str "look")))
  (.cons (.ret (.tup (.cons (.var 0) (.cons (.var 1) (.cons (.ite (.cmp .eq (.var 0) (.var 3)) (.cst (.str "holds")) (.cst (.str "down"))) .nil)))))
  .nil)
  .nil)
  (.cons (.ret (.cst (.none)))
  .nil)))))⟩
def fn_step_decider : Fn := ⟨2, [false, false], 6, (.cons (.tasg [2, 3, 4] (.var 0))
  (.cons (.asg 5 (.call 13 (.cons (.var 2) (.cons (.var 3) (.cons (.idx (.var 4) (.var 1)) (.cons (.var 1) .nil))))))
  (.cons (.ife (.cmp .is (.var 5) (.cst (.none)))
  (.cons (.raise .noStep (.cons (.var 1) .nil))
  .nil)
  .nil)
  (.cons (.ret (.tup (.cons (.idx (.var 5) (.cst (.int 0))) (.cons (.idx (.var 5) (.cst (.int 1))) (.cons (.bin .add (.bin .add (.slh (.var 4) (.var 1)) (.tup (.cons (.idx (.var 5) (.cst (.int 2))) .nil))) (.sll (.var 4) (.bin .add (.var 1) (.cst (.int 1))))) .nil)))))
  .nil))))⟩
def fn__law_moves : Fn := ⟨2, [false, false], 2, (.cons (.try (.cons (.ret (.call 14 (.cons (.var 0) (.cons (.var 1) .nil))))
  .nil) .noStep none
  (.cons (.ret (.cst (.none)))
  .nil))
  .nil)⟩
def fn__law_fits : Fn := ⟨1, [false], 3, (.cons (.asg 1 (.lc [2] (.nm 2) (.seq (.idx (.var 0) (.cst (.int 2)))) (.cmp .ne (.var 2) (.cst (.str "out"))) (.var 2)))
  (.cons (.ife (.cmp .gt (.mth .count (.var 1) (.cons (.cst (.str "holds")) .nil)) (.cst (.int 1)))
  (.cons (.ret (.cst (.bool false)))
  .nil)
  .nil)
  (.cons (.ret (.or (.cmp .eq (.var 1) (.lst .nil)) (.and (.cmp .lt (.mth .count (.var 1) (.cons (.cst (.str "right")) .nil)) (.blt .len (.var 1))) (.cmp .lt (.mth .count (.var 1) (.cons (.cst (.str "down")) .nil)) (.blt .len (.var 1))))))
  .nil)))⟩
def fn__law_woven : Fn := ⟨3, [true, false, false], 8, (.cons (.asg 3 (.call 2 (.cons (.var 1) .nil)))
  (.cons (.asg 4 (.bin .mul (.lst (.cons (.cst (.int 0)) .nil)) (.var 1)))
  (.cons (.for (.nm 5) (.rng1 (.bin .mul (.cst (.int 6)) (.var 1)))
  (.cons (.asg 6 (.call 5 (.cons (.var 0) (.cons (.var 1) .nil))))
  (.cons (.asg 7 (.ite (.cmp .lt (.idx (.var 4) (.var 6)) (.idx (.var 2) (.var 6))) (.call 18 (.cons (.var 3) (.cons (.var 6) .nil))) (.cst (.none))))
  (.cons (.ife (.cmp .isnt (.var 7) (.cst (.none)))
  (.cons (.asg 3 (.var 7))
  (.cons (.set 4 (.var 6) (.bin .add (.idx (.var 4) (.var 6)) (.cst (.int 1))))
  .nil))
  .nil)
  (.cons (.ife (.or (.cmp .gt (.idx (.var 4) (.var 6)) (.cst (.int 4))) (.not (.call 19 (.cons (.var 3) .nil))))
  (.cons (.ret (.cst (.none)))
  .nil)
  .nil)
  .nil)))))
  (.cons (.retv 3)
  .nil))))⟩
def fn_law_k03 : Fn := ⟨1, [false], 10, (.cons (.asg 1 (.call 4 (.cons (.var 0) .nil)))
  (.cons (.for (.nm 2) (.rng1 (.cst (.int 10)))
  (.cons (.asg 3 (.bin .add (.cst (.int 1)) (.call 5 (.cons (.var 1) (.cons (.cst (.int 6)) .nil)))))
  (.cons (.asg 4 (.lc [6] (.nm 6) (.rng1 (.var 3)) (.cst (.bool true)) (.idx (.lst (.cons (.cst (.int 9)) (.cons (.cst (.int 9)) (.cons (.cst (.int 0)) (.cons (.cst (.int 1)) (.cons (.cst (.int 2)) (.cons (.cst (.int 3)) .nil))))))) (.call 5 (.cons (.var 1) (.cons (.cst (.int 6)) .nil))))))
  (.cons (.asg 5 (.call 20 (.cons (.var 1) (.cons (.var 3) (.cons (.var 4) .nil)))))
  (.cons (.ife (.cmp .is (.var 5) (.cst (.none)))
  (.cons (.ret (.cst (.bool false)))
  .nil)
  .nil)
  (.cons (.for (.nm 6) (.rng1 (.var 3))
  (.cons (.for (.nm 8) (.rng1 (.cst (.int 5)))
  (.cons (.asg 9 (.call 18 (.cons (.var 5) (.cons (.var 6) .nil))))
  (.cons (.asg 5 (.ite (.cmp .is (.var 9) (.cst (.none))) (.var 5) (.var 9)))
  .nil)))
  (.cons (.ife (.or (.cmp .notin (.idx (.idx (.var 5) (.cst (.int 2))) (.var 6)) (.tup (.cons (.cst (.str "holds")) (.cons (.cst (.str "right")) (.cons (.cst (.str "down")) .nil))))) (.not (.call 19 (.cons (.var 5) .nil))))
  (.cons (.ret (.cst (.bool false)))
  .nil)
  .nil)
  .nil)))
  (.cons (.asg 7 (.call 5 (.cons (.var 1) (.cons (.var 3) .nil))))
  (.cons (.asg 5 (.call 2 (.cons (.var 3) .nil)))
  (.cons (.for (.nm 8) (.rng1 (.cst (.int 4)))
  (.cons (.asg 5 (.call 14 (.cons (.var 5) (.cons (.var 7) .nil))))
  .nil))
  (.cons (.ife (.or (.cmp .ne (.idx (.idx (.var 5) (.cst (.int 2))) (.var 7)) (.cst (.str "holds"))) (.cmp .isnt (.call 18 (.cons (.var 5) (.cons (.var 7) .nil))) (.cst (.none))))
  (.cons (.ret (.cst (.bool false)))
  .nil)
  .nil)
  (.cons (.for (.nm 6) (.rng1 (.var 3))
  (.cons (.ife (.cmp .ne (.var 6) (.var 7))
  (.cons (.asg 5 (.call 14 (.cons (.call 14 (.cons (.var 5) (.cons (.var 6) .nil))) (.cons (.var 6) .nil))))
  (.cons (.ife (.or (.cmp .ne (.idx (.idx (.var 5) (.cst (.int 2))) (.var 6)) (.cst (.str "right"))) (.or (.cmp .ne (.idx (.idx (.var 5) (.cst (.int 2))) (.var 7)) (.cst (.str "holds"))) (.cmp .ne (.idx (.var 5) (.cst (.int 0))) (.var 6))))
  (.cons (.ret (.cst (.bool false)))
  .nil)
  .nil)
  .nil))
  .nil)
  .nil))
  .nil)))))))))))
  (.cons (.ret (.cst (.bool true)))
  .nil)))⟩
def cnT : List (Nat × Str × D) := []
def cnX : List (Nat × D) := []
def prog : Prog := ⟨⟨[(2, fn_first_decider), (4, fn__law_feed), (5, fn__law_draw), (6, fn__law_words), (7, fn__law_stand), (13, fn_behind_word), (14, fn_step_decider), (18, fn__law_moves), (19, fn__law_fits), (20, fn__law_woven), (21, fn_law_k03)]⟩, ⟨(cnT.map fun p => (p.1, p.2.2)) ++ cnX⟩⟩
theorem io_2 (fu : Nat) (cf : Nat → List O → CR) : (prog.ctx fu cf).io 2 = [false] := rfl
theorem io_4 (fu : Nat) (cf : Nat → List O → CR) : (prog.ctx fu cf).io 4 = [false] := rfl
theorem io_5 (fu : Nat) (cf : Nat → List O → CR) : (prog.ctx fu cf).io 5 = [true, false] := rfl
theorem io_6 (fu : Nat) (cf : Nat → List O → CR) : (prog.ctx fu cf).io 6 = [] := rfl
theorem io_7 (fu : Nat) (cf : Nat → List O → CR) : (prog.ctx fu cf).io 7 = [true, false] := rfl
theorem io_13 (fu : Nat) (cf : Nat → List O → CR) : (prog.ctx fu cf).io 13 = [false, false, false, false] := rfl
theorem io_14 (fu : Nat) (cf : Nat → List O → CR) : (prog.ctx fu cf).io 14 = [false, false] := rfl
theorem io_18 (fu : Nat) (cf : Nat → List O → CR) : (prog.ctx fu cf).io 18 = [false, false] := rfl
theorem io_19 (fu : Nat) (cf : Nat → List O → CR) : (prog.ctx fu cf).io 19 = [false] := rfl
theorem io_20 (fu : Nat) (cf : Nat → List O → CR) : (prog.ctx fu cf).io 20 = [true, false, false] := rfl
theorem io_21 (fu : Nat) (cf : Nat → List O → CR) : (prog.ctx fu cf).io 21 = [false] := rfl
end MI

set_option maxRecDepth 100000
/-! LT0: the tape that draws are made of, sorted rows: shared by the laws. -/
namespace MI
open PySem
def gTape : Fn := ⟨1, [false], 1, (.cons (.ret (.lst (.cons (.blt .list (.scut 0 63)) (.cons (.cst (.int 0)) (.cons (.cst (.int 0)) (.cons (.cst (.int 0)) .nil))))))
  .nil)⟩
def gDraw : Fn := ⟨2, [true, false], 5, (.cons (.set 0 (.cst (.int 3)) (.bin .add (.idx (.var 0) (.cst (.int 3))) (.cst (.int 1))))
  (.cons (.ife (.cmp .gt (.idx (.var 0) (.cst (.int 2))) (.cst (.int 0)))
  (.cons (.asg 2 (.bin .mod (.idx (.var 0) (.cst (.int 2))) (.var 1)))
  (.cons (.set 0 (.cst (.int 2)) (.bin .fdiv (.idx (.var 0) (.cst (.int 2))) (.var 1)))
  (.cons (.retv 2)
  .nil)))
  .nil)
  (.cons (.asg 3 (.cst (.int 3)))
  (.cons (.ife (.cmp .ne (.idx (.var 0) (.cst (.int 0))) (.lst .nil))
  (.cons (.asg 3 (.idx (.idx (.var 0) (.cst (.int 0))) (.bin .mod (.idx (.var 0) (.cst (.int 1))) (.blt .len (.idx (.var 0) (.cst (.int 0)))))))
  .nil)
  .nil)
  (.cons (.set 0 (.cst (.int 1)) (.bin .add (.idx (.var 0) (.cst (.int 1))) (.cst (.int 1))))
  (.cons (.ife (.and (.cmp .ge (.var 3) (.bin .pow (.cst (.int 10)) (.cst (.int 18)))) (.cmp .le (.idx (.var 0) (.cst (.int 1))) (.blt .len (.idx (.var 0) (.cst (.int 0))))))
  (.cons (.set 0 (.cst (.int 2)) (.bin .fdiv (.var 3) (.var 1)))
  (.cons (.ret (.bin .mod (.var 3) (.var 1)))
  .nil))
  .nil)
  (.cons (.asg 4 (.bin .mod (.bin .mul (.bin .add (.bin .mod (.var 3) (.cst (.int 998244353))) (.bin .mul (.cst (.int 7919)) (.idx (.var 0) (.cst (.int 3))))) (.cst (.int 48271))) (.cst (.int 2147483647))))
  (.cons (.asg 4 (.bin .mod (.bin .mul (.bin .add (.bin .fdiv (.var 4) (.cst (.int 13))) (.bin .mul (.bin .mul (.cst (.int 104729)) (.idx (.var 0) (.cst (.int 3)))) (.idx (.var 0) (.cst (.int 3))))) (.cst (.int 69621))) (.cst (.int 2147483629))))
  (.cons (.ret (.bin .mod (.bin .fdiv (.var 4) (.cst (.int 64))) (.var 1)))
  .nil)))))))))⟩
/-- the tape -/
def tp (cs : List Int) (p q t : Int) : O := .l [.list (cs.map .int), .int p, .int q, .int t]
section
variable (a b c d y : D)
theorem i4_0 : idxD (.list [a, b, c, d]) (.int 0) = some a := rfl
theorem i4_1 : idxD (.list [a, b, c, d]) (.int 1) = some b := rfl
theorem i4_2 : idxD (.list [a, b, c, d]) (.int 2) = some c := rfl
theorem i4_3 : idxD (.list [a, b, c, d]) (.int 3) = some d := rfl
theorem st4_1 : setIt (some (.l [a, b, c, d])) (.int 1) y = some (.l [a, y, c, d]) := rfl
theorem st4_2 : setIt (some (.l [a, b, c, d])) (.int 2) y = some (.l [a, b, y, d]) := rfl
theorem st4_3 : setIt (some (.l [a, b, c, d])) (.int 3) y = some (.l [a, b, c, y]) := rfl
end
theorem b_add (i j : Int) : bop .add (.int i) (.int j) = some (.d (.int (i + j))) := rfl
theorem b_sub (i j : Int) : bop .sub (.int i) (.int j) = some (.d (.int (i - j))) := rfl
theorem b_mod {i j : Int} (h : 0 < j) : bop .mod (.int i) (.int j) = some (.d (.int (i % j))) := by
  show (if decide (0 < j) then _ else _) = _
  rw [if_pos (by simpa using h)]
theorem b_fdiv {i j : Int} (h : 0 < j) (h2 : j < 1073741824) : bop .fdiv (.int i) (.int j) = some (.d (.int (i / j))) := by
  show (if decide (0 < j) && small 1073741824 j then _ else _) = _
  rw [if_pos (by simp only [Bool.and_eq_true, small_iff, decide_eq_true_eq]; omega)]
theorem b_mul {i j : Int} (h : (i64 i || i64 j) = true) : bop .mul (.int i) (.int j) = some (.d (.int (i * j))) := by
  show (if i64 i || i64 j then _ else _) = _
  rw [if_pos h]
theorem i64_of {i : Int} (h1 : -(2 ^ 64) < i) (h2 : i < 2 ^ 64) : i64 i = true := by simp only [i64, small_iff]; omega
theorem c_gt (i j : Int) : cop .gt (.int i) (.int j) = some (decide (j < i)) := rfl
theorem c_ge (i j : Int) : cop .ge (.int i) (.int j) = some (decide (j ≤ i)) := rfl
theorem c_le (i j : Int) : cop .le (.int i) (.int j) = some (decide (i ≤ j)) := rfl
theorem c_lt (i j : Int) : cop .lt (.int i) (.int j) = some (decide (i < j)) := rfl
theorem lay_ints : ∀ ns : List Int, PyData.canLayAll0 (ns.map .int) = true
  | [] => rfl
  | n :: ns => by
    show (true && PyData.canLayAll0 (ns.map .int)) = true
    rw [lay_ints ns]; rfl
theorem depth_ints : ∀ ns : List Int, PyData.depthAll (ns.map .int) = 0
  | [] => rfl
  | n :: ns => by
    show max 0 (PyData.depthAll (ns.map .int)) = 0
    rw [depth_ints ns]; rfl
theorem shaped_ints (ns : List Int) : SeqAt.shaped (.list (ns.map .int)) = true := by
  unfold SeqAt.shaped
  have e1 : PyData.canLay0 (.list (ns.map .int)) = true := lay_ints ns
  have e2 : PyData.depth (.list (ns.map .int)) = 1 := by
    show PyData.depthAll (ns.map .int) + 1 = 1
    rw [depth_ints]
  rw [e1, e2]
  rfl
theorem ne_nil (ns : List Int) : cop .ne (.list (ns.map .int)) (.list []) = some (!ns.isEmpty) := by
  show (eqD (.list (ns.map .int)) (.list [])).map (!·) = _
  show (if SeqAt.shaped (.list (ns.map .int)) && SeqAt.shaped (.list []) then some (PyData.eqv (.list (ns.map .int)) (.list [])) else none).map (!·) = _
  rw [shaped_ints]
  have : SeqAt.shaped (.list []) = true := rfl
  rw [this]
  cases ns <;> rfl
theorem len_list (xs : List D) : blt .len [.list xs] = some (.d (.int xs.length)) := rfl
theorem idx_ints {ns : List Int} {i : Int} (h0 : 0 ≤ i) (h1 : i < ns.length) : ∃ v, idxD (.list (ns.map .int)) (.int i) = some (.int v) := by
  show ∃ v, at? (ns.map PyData.int) i = some (.int v)
  unfold at? nix
  rw [List.length_map, if_pos h0, if_pos h1]
  refine ⟨ns[i.toNat]'(by omega), ?_⟩
  show (ns.map PyData.int)[i.toNat]? = _
  rw [List.getElem?_map, List.getElem?_eq_getElem (by omega)]
  rfl
theorem pow18 : bop .pow (.int 10) (.int 18) = some (.d (.int 1000000000000000000)) := rfl
theorem b_mulr {i j : Int} (h1 : -18446744073709551616 < j) (h2 : j < 18446744073709551616) : bop .mul (.int i) (.int j) = some (.d (.int (i * j))) := b_mul (by simp only [i64, Bool.or_eq_true, small_iff]; omega)
theorem b_mull {i j : Int} (h1 : -18446744073709551616 < i) (h2 : i < 18446744073709551616) : bop .mul (.int i) (.int j) = some (.d (.int (i * j))) := b_mul (by simp only [i64, Bool.or_eq_true, small_iff]; omega)
theorem draw_mix {X : Ctx} (cs : List Int) (p q t m c : Int) (ht : -18446744073709551616 < t) (ht2 : t < 18446744073709551616) (hm : 1 ≤ m) (hm2 : m < 1000) : ∃ v, 0 ≤ v ∧ v < m ∧ fin 2 (evSs X (.cons (.asg 4 (.bin .mod (.bin .mul (.bin .add (.bin .mod (.var 3) (.cst (.int 998244353))) (.bin .mul (.cst (.int 7919)) (.idx (.var 0) (.cst (.int 3))))) (.cst (.int 48271))) (.cst (.int 2147483647))))
    (.cons (.asg 4 (.bin .mod (.bin .mul (.bin .add (.bin .fdiv (.var 4) (.cst (.int 13))) (.bin .mul (.bin .mul (.cst (.int 104729)) (.idx (.var 0) (.cst (.int 3)))) (.idx (.var 0) (.cst (.int 3))))) (.cst (.int 69621))) (.cst (.int 2147483629))))
    (.cons (.ret (.bin .mod (.bin .fdiv (.var 4) (.cst (.int 64))) (.var 1))) .nil))) [some (.l [.list (cs.map .int), .int p, .int q, .int t]), some (.d (.int m)), none, some (.d (.int c)), none]) = .ok (.d (.int v)) [some (.l [.list (cs.map .int), .int p, .int q, .int t]), some (.d (.int m))] := by
  have m0 : 0 < m := by omega
  simp only [ss_cons, ss_nil, seq_nx, seq_rt, s_asg, kAsg, s_set, kSet, kSet2, s_ife, s_ret, kRt, s_retv, ev_bin, kBin, kBin0, kBin1, kBin2, ev_cmp, kCmp, kCmp0, kCmp1, kCmp2, kBo, ev_idx, kIdx, kIdx0, kIdx1, kD1, ev_cst, ev_var, ev_lst, kLst, evDs_nil, ev_blt, kBlt, kBlt1, ev_and, opB_s, opB_idx, opB_cst, opB_bin, opB_lst, opB_blt, hasS_0, hasS_s, rdB_s, rdB_v, rdO_d, rdO_l, rdVO_d, slot_0, slot_s, kTD_d, kTD_l, kTB_b, kV, R.bind_ok, R.st_ok, optR_some, List.set_cons_zero, List.set_cons_succ, Option.isSome_some, putSlot, i4_0, i4_1, i4_2, i4_3, st4_1, st4_2, st4_3, b_add, c_gt, c_ge, c_le, b_mod, b_fdiv, b_mulr, ht, ht2, m0, Int.reduceLT, Int.reduceNeg]
  exact ⟨_, Int.emod_nonneg _ (by omega), Int.emod_lt_of_pos _ m0, rfl⟩
/-- the last part of a draw -/
theorem draw_end {X : Ctx} (cs : List Int) (p q t m c : Int) (hp : 0 ≤ p) (ht : -18446744073709551616 < t) (ht2 : t < 18446744073709551616) (hm : 1 ≤ m) (hm2 : m < 1000) : ∃ v p' q', 0 ≤ v ∧ v < m ∧ 0 ≤ p' ∧
    fin 2 (evSs X (.cons (.set 0 (.cst (.int 1)) (.bin .add (.idx (.var 0) (.cst (.int 1))) (.cst (.int 1))))
  (.cons (.ife (.and (.cmp .ge (.var 3) (.bin .pow (.cst (.int 10)) (.cst (.int 18)))) (.cmp .le (.idx (.var 0) (.cst (.int 1))) (.blt .len (.idx (.var 0) (.cst (.int 0))))))
  (.cons (.set 0 (.cst (.int 2)) (.bin .fdiv (.var 3) (.var 1)))
  (.cons (.ret (.bin .mod (.var 3) (.var 1)))
  .nil))
  .nil)
  (.cons (.asg 4 (.bin .mod (.bin .mul (.bin .add (.bin .mod (.var 3) (.cst (.int 998244353))) (.bin .mul (.cst (.int 7919)) (.idx (.var 0) (.cst (.int 3))))) (.cst (.int 48271))) (.cst (.int 2147483647))))
  (.cons (.asg 4 (.bin .mod (.bin .mul (.bin .add (.bin .fdiv (.var 4) (.cst (.int 13))) (.bin .mul (.bin .mul (.cst (.int 104729)) (.idx (.var 0) (.cst (.int 3)))) (.idx (.var 0) (.cst (.int 3))))) (.cst (.int 69621))) (.cst (.int 2147483629))))
  (.cons (.ret (.bin .mod (.bin .fdiv (.var 4) (.cst (.int 64))) (.var 1)))
  .nil))))) [some (.l [.list (cs.map .int), .int p, .int q, .int t]), some (.d (.int m)), none, some (.d (.int c)), none]) = .ok (.d (.int v)) [some (.l [.list (cs.map .int), .int p', .int q', .int t]), some (.d (.int m))] := by
  have m0 : 0 < m := by omega
  have m1 : m < 1073741824 := by omega
  obtain ⟨v, v0, v1, ev⟩ := draw_mix (X := X) cs (p + 1) q t m c ht ht2 hm hm2
  rw [ss_cons]
  simp only [s_set, ss_nil, seq_nx, seq_rt, s_asg, kAsg, s_set, kSet, kSet2, s_ife, s_ret, kRt, s_retv, ev_bin, kBin, kBin0, kBin1, kBin2, ev_cmp, kCmp, kCmp0, kCmp1, kCmp2, kBo, ev_idx, kIdx, kIdx0, kIdx1, kD1, ev_cst, ev_var, ev_lst, kLst, evDs_nil, ev_blt, kBlt, kBlt1, ev_and, opB_s, opB_idx, opB_cst, opB_bin, opB_lst, opB_blt, hasS_0, hasS_s, rdB_s, rdB_v, rdO_d, rdO_l, rdVO_d, slot_0, slot_s, kTD_d, kTD_l, kTB_b, kV, R.bind_ok, R.st_ok, optR_some, List.set_cons_zero, List.set_cons_succ, Option.isSome_some, putSlot, i4_0, i4_1, i4_2, i4_3, st4_1, st4_2, st4_3, b_add, c_gt, c_ge, c_le]
  rw [ss_cons]
  simp only [ss_nil, seq_nx, seq_rt, s_asg, kAsg, s_set, kSet, kSet2, s_ife, s_ret, kRt, s_retv, ev_bin, kBin, kBin0, kBin1, kBin2, ev_cmp, kCmp, kCmp0, kCmp1, kCmp2, kBo, ev_idx, kIdx, kIdx0, kIdx1, kD1, ev_cst, ev_var, ev_lst, kLst, evDs_nil, ev_blt, kBlt, kBlt1, ev_and, opB_s, opB_idx, opB_cst, opB_bin, opB_lst, opB_blt, hasS_0, hasS_s, rdB_s, rdB_v, rdO_d, rdO_l, rdVO_d, slot_0, slot_s, kTD_d, kTD_l, kTB_b, kV, R.bind_ok, R.st_ok, optR_some, List.set_cons_zero, List.set_cons_succ, Option.isSome_some, putSlot, i4_0, i4_1, i4_2, i4_3, st4_1, st4_2, st4_3, b_add, c_gt, c_ge, c_le, pow18, len_list]
  have out : ∀ b : Bool, b = true ∨ b = false := by decide
  rcases out (decide (1000000000000000000 ≤ c)) with h1 | h1
  · rcases out (decide (p + 1 ≤ ((cs.map PyData.int).length : Int))) with h2 | h2
    · simp only [h1, kAnd_t, ss_nil, seq_nx, seq_rt, s_asg, kAsg, s_set, kSet, kSet2, s_ife, s_ret, kRt, s_retv, ev_bin, kBin, kBin0, kBin1, kBin2, ev_cmp, kCmp, kCmp0, kCmp1, kCmp2, kBo, ev_idx, kIdx, kIdx0, kIdx1, kD1, ev_cst, ev_var, ev_lst, kLst, evDs_nil, ev_blt, kBlt, kBlt1, ev_and, opB_s, opB_idx, opB_cst, opB_bin, opB_lst, opB_blt, hasS_0, hasS_s, rdB_s, rdB_v, rdO_d, rdO_l, rdVO_d, slot_0, slot_s, kTD_d, kTD_l, kTB_b, kV, R.bind_ok, R.st_ok, optR_some, List.set_cons_zero, List.set_cons_succ, Option.isSome_some, putSlot, i4_0, i4_1, i4_2, i4_3, st4_1, st4_2, st4_3, b_add, c_gt, c_ge, c_le, len_list, h2, kIf_t]
      simp only [ss_cons, ss_nil, seq_nx, seq_rt, s_asg, kAsg, s_set, kSet, kSet2, s_ife, s_ret, kRt, s_retv, ev_bin, kBin, kBin0, kBin1, kBin2, ev_cmp, kCmp, kCmp0, kCmp1, kCmp2, kBo, ev_idx, kIdx, kIdx0, kIdx1, kD1, ev_cst, ev_var, ev_lst, kLst, evDs_nil, ev_blt, kBlt, kBlt1, ev_and, opB_s, opB_idx, opB_cst, opB_bin, opB_lst, opB_blt, hasS_0, hasS_s, rdB_s, rdB_v, rdO_d, rdO_l, rdVO_d, slot_0, slot_s, kTD_d, kTD_l, kTB_b, kV, R.bind_ok, R.st_ok, optR_some, List.set_cons_zero, List.set_cons_succ, Option.isSome_some, putSlot, i4_0, i4_1, i4_2, i4_3, st4_1, st4_2, st4_3, b_add, c_gt, c_ge, c_le, b_mod, b_fdiv, m0, m1]
      exact ⟨_, p + 1, _, Int.emod_nonneg _ (by omega), Int.emod_lt_of_pos _ m0, by omega, rfl⟩
    · simp only [h1, kAnd_t, ss_nil, seq_nx, seq_rt, s_asg, kAsg, s_set, kSet, kSet2, s_ife, s_ret, kRt, s_retv, ev_bin, kBin, kBin0, kBin1, kBin2, ev_cmp, kCmp, kCmp0, kCmp1, kCmp2, kBo, ev_idx, kIdx, kIdx0, kIdx1, kD1, ev_cst, ev_var, ev_lst, kLst, evDs_nil, ev_blt, kBlt, kBlt1, ev_and, opB_s, opB_idx, opB_cst, opB_bin, opB_lst, opB_blt, hasS_0, hasS_s, rdB_s, rdB_v, rdO_d, rdO_l, rdVO_d, slot_0, slot_s, kTD_d, kTD_l, kTB_b, kV, R.bind_ok, R.st_ok, optR_some, List.set_cons_zero, List.set_cons_succ, Option.isSome_some, putSlot, i4_0, i4_1, i4_2, i4_3, st4_1, st4_2, st4_3, b_add, c_gt, c_ge, c_le, len_list, h2, kIf_f]
      exact ⟨v, p + 1, q, v0, v1, by omega, ev⟩
  · simp only [h1, kAnd_f, ss_nil, seq_nx, seq_rt, s_asg, kAsg, s_set, kSet, kSet2, s_ife, s_ret, kRt, s_retv, ev_bin, kBin, kBin0, kBin1, kBin2, ev_cmp, kCmp, kCmp0, kCmp1, kCmp2, kBo, ev_idx, kIdx, kIdx0, kIdx1, kD1, ev_cst, ev_var, ev_lst, kLst, evDs_nil, ev_blt, kBlt, kBlt1, ev_and, opB_s, opB_idx, opB_cst, opB_bin, opB_lst, opB_blt, hasS_0, hasS_s, rdB_s, rdB_v, rdO_d, rdO_l, rdVO_d, slot_0, slot_s, kTD_d, kTD_l, kTB_b, kV, R.bind_ok, R.st_ok, optR_some, List.set_cons_zero, List.set_cons_succ, Option.isSome_some, putSlot, i4_0, i4_1, i4_2, i4_3, st4_1, st4_2, st4_3, b_add, c_gt, c_ge, c_le, kIf_f]
    exact ⟨v, p + 1, q, v0, v1, by omega, ev⟩
theorem draw_run {P : Prog} {fu k f : Nat} (hf : P.fns[f]? = some gDraw) (cs : List Int) (p q t m : Int) (hp : 0 ≤ p) (ht : 0 ≤ t) (ht2 : t < 2 ^ 60) (hm : 1 ≤ m) (hm2 : m < 1000) :
    ∃ v p' q' , 0 ≤ v ∧ v < m ∧ 0 ≤ p' ∧ callF P fu (k + 1) f [tp cs p q t, .d (.int m)] = .ok (.d (.int v)) [some (tp cs p' q' (t + 1)), some (.d (.int m))] := by
  rw [run_fn hf rfl]
  generalize P.ctx fu (callF P fu k) = X
  have m0 : 0 < m := by omega
  have m1 : m < 1073741824 := by omega
  simp only [gDraw, tp, List.map_cons, List.map_nil, List.cons_append, List.nil_append, Nat.reduceSub, List.replicate_succ, List.replicate_zero]
  simp only [ss_cons, seq_nx, seq_rt, s_asg, kAsg, s_set, kSet, kSet2, s_ife, ev_bin, kBin, kBin0, kBin1, kBin2, ev_cmp, kCmp, kCmp0, kCmp1, kCmp2, kBo, ev_idx, kIdx, kIdx0, kIdx1, kD1, ev_cst, ev_var, opB_s, opB_idx, opB_cst, opB_bin, hasS_0, hasS_s, rdB_s, rdB_v, rdO_d, rdO_l, rdVO_d, slot_0, slot_s, kTD_d, kTB_b, kV, R.bind_ok, R.st_ok, optR_some, List.set_cons_zero, List.set_cons_succ, Option.isSome_some, putSlot, i4_0, i4_1, i4_2, i4_3, st4_1, st4_2, st4_3, b_add, c_gt]
  by_cases hq : 0 < q
  · have : decide (0 < q) = true := by simpa using hq
    simp only [this, kIf_t]
    simp only [ss_cons, ss_nil, seq_nx, seq_rt, s_asg, kAsg, s_set, kSet, kSet2, s_ife, s_ret, kRt, s_retv, ev_bin, kBin, kBin0, kBin1, kBin2, ev_cmp, kCmp, kCmp0, kCmp1, kCmp2, kBo, ev_idx, kIdx, kIdx0, kIdx1, kD1, ev_cst, ev_var, opB_s, opB_idx, opB_cst, opB_bin, hasS_0, hasS_s, rdB_s, rdB_v, rdO_d, rdO_l, rdVO_d, slot_0, slot_s, kTD_d, kTB_b, kV, R.bind_ok, R.st_ok, optR_some, List.set_cons_zero, List.set_cons_succ, Option.isSome_some, putSlot, i4_0, i4_1, i4_2, i4_3, st4_1, st4_2, st4_3, b_add, b_mod m0, b_fdiv m0 m1, c_gt]
    exact ⟨_, _, _, Int.emod_nonneg _ (by omega), Int.emod_lt_of_pos _ m0, hp, rfl⟩
  · have : decide (0 < q) = false := by simpa using hq
    simp only [this, kIf_f, ss_nil, seq_nx]
    rw [ss_cons]
    simp only [ss_nil, seq_nx, seq_rt, s_asg, kAsg, s_set, kSet, kSet2, s_ife, s_ret, kRt, s_retv, ev_bin, kBin, kBin0, kBin1, kBin2, ev_cmp, kCmp, kCmp0, kCmp1, kCmp2, kBo, ev_idx, kIdx, kIdx0, kIdx1, kD1, ev_cst, ev_var, ev_lst, kLst, evDs_nil, ev_blt, kBlt, kBlt1, ev_and, opB_s, opB_idx, opB_cst, opB_bin, opB_lst, opB_blt, hasS_0, hasS_s, rdB_s, rdB_v, rdO_d, rdO_l, rdVO_d, slot_0, slot_s, kTD_d, kTD_l, kTB_b, kV, R.bind_ok, R.st_ok, optR_some, List.set_cons_zero, List.set_cons_succ, Option.isSome_some, putSlot, i4_0, i4_1, i4_2, i4_3, st4_1, st4_2, st4_3, b_add, c_gt, c_ge, c_le]
    rw [ss_cons]
    simp only [ss_nil, seq_nx, seq_rt, s_asg, kAsg, s_set, kSet, kSet2, s_ife, s_ret, kRt, s_retv, ev_bin, kBin, kBin0, kBin1, kBin2, ev_cmp, kCmp, kCmp0, kCmp1, kCmp2, kBo, ev_idx, kIdx, kIdx0, kIdx1, kD1, ev_cst, ev_var, ev_lst, kLst, evDs_nil, ev_blt, kBlt, kBlt1, ev_and, opB_s, opB_idx, opB_cst, opB_bin, opB_lst, opB_blt, hasS_0, hasS_s, rdB_s, rdB_v, rdO_d, rdO_l, rdVO_d, slot_0, slot_s, kTD_d, kTD_l, kTB_b, kV, R.bind_ok, R.st_ok, optR_some, List.set_cons_zero, List.set_cons_succ, Option.isSome_some, putSlot, i4_0, i4_1, i4_2, i4_3, st4_1, st4_2, st4_3, b_add, c_gt, c_ge, c_le, ne_nil]
    cases cs with
    | nil =>
      simp only [List.isEmpty_nil, Bool.not_true, kIf_f, ss_nil, seq_nx]
      obtain ⟨v, p', q', v0, v1, hp', ev⟩ := draw_end (X := X) [] p q (t + 1) m 3 hp (by omega) (by omega) hm hm2
      exact ⟨v, p', q', v0, v1, hp', ev⟩
    | cons c0 cr =>
      generalize hcs : c0 :: cr = cs
      have pos : 0 < (((cs.map PyData.int).length : Nat) : Int) := by rw [← hcs]; simp
      obtain ⟨c, ec⟩ := idx_ints (ns := cs) (i := p % (((cs.map PyData.int).length : Nat) : Int)) (Int.emod_nonneg _ (by omega)) (by have := Int.emod_lt_of_pos p pos; simpa using this)
      have ne : cs.isEmpty = false := by rw [← hcs]; rfl
      rw [ne]
      simp only [Bool.not_false, kIf_t]
      rw [ss_cons]
      simp only [ss_nil, seq_nx, seq_rt, s_asg, kAsg, s_set, kSet, kSet2, s_ife, s_ret, kRt, s_retv, ev_bin, kBin, kBin0, kBin1, kBin2, ev_cmp, kCmp, kCmp0, kCmp1, kCmp2, kBo, ev_idx, kIdx, kIdx0, kIdx1, kD1, ev_cst, ev_var, ev_lst, kLst, evDs_nil, ev_blt, kBlt, kBlt1, ev_and, opB_s, opB_idx, opB_cst, opB_bin, opB_lst, opB_blt, hasS_0, hasS_s, rdB_s, rdB_v, rdO_d, rdO_l, rdVO_d, slot_0, slot_s, kTD_d, kTD_l, kTB_b, kV, R.bind_ok, R.st_ok, optR_some, List.set_cons_zero, List.set_cons_succ, Option.isSome_some, putSlot, i4_0, i4_1, i4_2, i4_3, st4_1, st4_2, st4_3, b_add, c_gt, c_ge, c_le, len_list, b_mod, pos, ec]
      obtain ⟨v, p', q', v0, v1, hp', ev⟩ := draw_end (X := X) cs p q (t + 1) m c hp (by omega) (by omega) hm hm2
      exact ⟨v, p', q', v0, v1, hp', ev⟩
theorem erase_map : ∀ (ns : List Int) (n : Nat), (ns.map PyData.int).eraseIdx n = (ns.eraseIdx n).map .int
  | [], _ => rfl
  | _ :: _, 0 => rfl
  | a :: ns, n + 1 => congrArg (PyData.int a :: ·) (erase_map ns n)
theorem pick_perm : ∀ (l : List Int) (n : Nat) (h : n < l.length), ([l[n]] ++ l.eraseIdx n).Perm l
  | a :: l, 0, _ => List.Perm.refl _
  | a :: l, n + 1, h => (List.Perm.swap a _ _).trans ((pick_perm l n (by simpa using h)).cons a)
theorem isL_ints (ns : List Int) (a b : Option O) (r : Env) : isL (slot (a :: b :: some (.l (ns.map .int)) :: r) 2) = true := rfl
theorem popAt_ints {ns : List Int} {i : Int} (h0 : 0 ≤ i) (h1 : i < ns.length) (h2 : i < 1000000) : ∃ h : i.toNat < ns.length, popAt (some (.l (ns.map .int))) (.int i) = some (.int ns[i.toNat], (ns.eraseIdx i.toNat).map .int) := by
  have hn : i.toNat < ns.length := by omega
  refine ⟨hn, ?_⟩
  show (if rngOk i then (nix (ns.map PyData.int).length i).bind fun n => (ns.map PyData.int)[n]?.map fun y => (y, (ns.map PyData.int).eraseIdx n) else none) = _
  rw [if_pos (by simp only [rngOk, small_iff]; omega)]
  unfold nix
  rw [List.length_map, if_pos h0, if_pos h1]
  show ((ns.map PyData.int)[i.toNat]?.map fun y => (y, (ns.map PyData.int).eraseIdx i.toNat)) = _
  rw [List.getElem?_map, List.getElem?_eq_getElem hn]
  rw [erase_map]
  rfl
theorem cut63 (ns : List Int) (h : ns.length ≤ 63) : cut ns none (some 63) = ns := by
  have e1 : six ns.length 0 none = 0 := rfl
  have e2 : six ns.length ns.length (some 63) = ns.length := by
    show (if (63 : Int) < 0 then max (63 + (ns.length : Int)) 0 else min 63 (ns.length : Int)).toNat = _
    rw [if_neg (by omega)]
    omega
  unfold cut
  rw [e1, e2]
  simp
theorem tape_run {P : Prog} {fu k f : Nat} (hf : P.fns[f]? = some gTape) (ns : List Int) (h : ns.length ≤ 63) : callF P fu (k + 1) f [.s ns] = .ok (tp ns 0 0 0) [some (.s ns)] := by
  rw [run_fn hf rfl]
  generalize P.ctx fu (callF P fu k) = X
  have e1 : blt .list [.list (ns.map .int)] = some (.l (ns.map .int)) := rfl
  simp only [gTape, List.map_cons, List.map_nil, List.cons_append, List.nil_append, Nat.reduceSub, List.replicate_zero]
  rw [ss_cons, s_ret, ev_lst, evDs_cons, ev_blt, ev_scut _ (ns := ns) rfl, cut63 ns h]
  simp only [ss_cons, ss_nil, seq_nx, seq_rt, s_asg, kAsg, s_set, kSet, kSet2, s_ife, s_ret, kRt, s_retv, ev_bin, kBin, kBin0, kBin1, kBin2, ev_cmp, kCmp, kCmp0, kCmp1, kCmp2, kBo, ev_idx, kIdx, kIdx0, kIdx1, kD1, ev_cst, ev_var, ev_lst, kLst, evDs_nil, ev_blt, kBlt, kBlt1, ev_and, opB_s, opB_idx, opB_cst, opB_bin, opB_lst, opB_blt, hasS_0, hasS_s, rdB_s, rdB_v, rdO_d, rdO_l, rdVO_d, slot_0, slot_s, kTD_d, kTD_l, kTB_b, kV, R.bind_ok, R.st_ok, optR_some, List.set_cons_zero, List.set_cons_succ, Option.isSome_some, putSlot, i4_0, i4_1, i4_2, i4_3, st4_1, st4_2, st4_3, b_add, c_gt, c_ge, c_le, ev_call, evAs_pass, evAs_nil, kAs, kAs1, kConsO, kGv, gvO_some, pass_d, tb_t, tb_f, tb_end, slot_set0, ev_lc, evI_rng1, kRng1, evI_seq, kSeq, kDs, kCons, evDs_cons, opB_lc, opB_call, len_list, ev_mth, kMth1, kdB_s, kdB_v, opB_mth, opB_scut, e1]
  rfl
/-! ### sorted, index, rank -/
def srt (ns : List Int) : List Int := ns.mergeSort leI
/-- how many lie ahead -/
def rank (gs : List Int) (g : Int) : Nat := (gs.filter fun x => decide (x < g)).length
theorem srt_perm (ns : List Int) : (srt ns).Perm ns := List.mergeSort_perm ns leI
theorem srt_pw (ns : List Int) : (srt ns).Pairwise (· ≤ ·) := by
  have := List.pairwise_mergeSort (le := leI) (fun a b c h1 h2 => by simp only [leI, decide_eq_true_eq] at *; omega) (fun a b => by simp only [leI, Bool.or_eq_true, decide_eq_true_eq]; omega) ns
  exact this.imp fun h => by simpa [leI] using h
/-- in a row of rising numbers each stands behind just the smaller ones -/
theorem pw_find : ∀ {l : List Int} {g : Int}, l.Pairwise (· < ·) → g ∈ l → l.findIdx? (fun z => z == g) = some (rank l g)
  | [], _, _, h => by cases h
  | a :: l, g, hp, h => by
    rw [List.pairwise_cons] at hp
    rw [List.findIdx?_cons]
    by_cases e : a = g
    · subst e
      have : rank (a :: l) a = 0 := by
        unfold rank
        rw [List.length_eq_zero_iff, List.filter_eq_nil_iff]
        intro x hx
        simp only [decide_eq_true_eq, Int.not_lt]
        obtain rfl | hx := List.mem_cons.mp hx
        · exact Int.le_refl _
        · exact Int.le_of_lt (hp.1 x hx)
      rw [this]
      simp
    · have hg : g ∈ l := by
        obtain z | z := List.mem_cons.mp h
        · exact absurd z.symm e
        · exact z
      have ih := pw_find hp.2 hg
      have lt : a < g := hp.1 g hg
      have : rank (a :: l) g = rank l g + 1 := by
        unfold rank
        rw [List.filter_cons, if_pos (by simpa using lt)]
        rfl
      rw [this, ih]
      have ne : (a == g) = false := by simpa using e
      rw [ne]
      rfl
theorem rank_perm {l l' : List Int} (h : l.Perm l') (g : Int) : rank l g = rank l' g := (h.filter _).length_eq
theorem srt_lt {gs : List Int} (h : gs.Nodup) : (srt gs).Pairwise (· < ·) := by
  have h1 := srt_pw gs
  have h2 : (srt gs).Nodup := (srt_perm gs).nodup_iff.mpr h
  have := List.Pairwise.and h1 h2
  exact this.imp fun ⟨a, b⟩ => by omega
theorem srt_find {gs : List Int} (h : gs.Nodup) {g : Int} (hg : g ∈ gs) : (srt gs).findIdx? (fun z => z == g) = some (rank gs g) := by
  rw [pw_find (srt_lt h) ((srt_perm gs).mem_iff.mpr hg), rank_perm (srt_perm gs)]
theorem rank_lt {gs : List Int} {g : Int} (hg : g ∈ gs) : rank gs g < gs.length := by
  unfold rank
  have h1 := List.length_filter_le (fun x => decide (x < g)) gs
  rcases Nat.lt_or_eq_of_le h1 with h | h
  · exact h
  · have := List.filter_eq_self.mp (List.Sublist.eq_of_length List.filter_sublist h) g hg
    simp at this
theorem ints_map : ∀ ns : List Int, intsD (ns.map .int) = some ns
  | [] => rfl
  | n :: ns => by
    show (intsD (ns.map .int)).map (n :: ·) = _
    rw [ints_map ns]
    rfl
theorem sorted_tup (ns : List Int) : blt .sorted [.tuple (ns.map .int)] = some (.l ((srt ns).map .int)) := by
  show ((items (.tuple (ns.map .int))).bind intsD).map _ = _
  show (intsD (ns.map .int)).map _ = _
  rw [ints_map]
  rfl
theorem tuple_list (xs : List D) : blt .tuple [.list xs] = some (.d (.tuple xs)) := rfl
theorem find_ints : ∀ (ns : List Int) (g : Int), ((ns.map PyData.int).findIdx? fun z => PyData.eqv z (.int g)) = ns.findIdx? fun z => z == g
  | [], _ => rfl
  | n :: ns, g => by
    rw [List.map_cons, List.findIdx?_cons, List.findIdx?_cons, find_ints ns g]
    rfl
theorem index_srt {gs : List Int} (h : gs.Nodup) {g : Int} (hg : g ∈ gs) : mth .index (.list ((srt gs).map .int)) [.int g] = some (.d (.int (rank gs g))) := by
  show (ixD (.int g) ((srt gs).map .int)).map _ = _
  unfold ixD
  rw [shaped_ints]
  have : SeqAt.shaped (.int g) = true := rfl
  rw [this]
  rw [show (true && true) = true from rfl, if_pos rfl, find_ints, srt_find h hg]
  rfl
theorem idx_tup {ns : List Int} {i : Nat} (h : i < ns.length) : idxD (.tuple (ns.map .int)) (.int (i : Int)) = some (.int (ns.getD i 0)) := by
  show at? (ns.map PyData.int) (i : Int) = _
  unfold at? nix
  rw [List.length_map, if_pos (by omega), if_pos (by omega)]
  show (ns.map PyData.int)[(i : Int).toNat]? = _
  rw [Int.toNat_natCast, List.getElem?_map, List.getElem?_eq_getElem h, List.getD_eq_getElem?_getD, List.getElem?_eq_getElem h]
  rfl
theorem at_map {ns : List Int} {i : Nat} {x : D} (h : (ns.map PyData.int)[i]? = some x) : ∃ g, x = .int g ∧ ns[i]? = some g ∧ g ∈ ns := by
  rw [List.getElem?_map, Option.map_eq_some_iff] at h
  obtain ⟨g, h, rfl⟩ := h
  exact ⟨g, rfl, h, List.mem_of_getElem? h⟩
theorem take_snoc {α : Type} {l : List α} {i : Nat} {g : α} (h : l[i]? = some g) : l.take (i + 1) = l.take i ++ [g] := by
  rw [List.take_add_one, h]
  rfl
theorem ne_bool (a b : Bool) : cop .ne (.bool a) (.bool b) = some (!(a == b)) := by cases a <;> cases b <;> rfl
theorem len_tup (xs : List D) : blt .len [.tuple xs] = some (.d (.int xs.length)) := rfl
theorem range_at {n : Nat} {i : Nat} {x : D} {f : Nat → D} (h : ((List.range n).map f)[i]? = some x) : i < n ∧ x = f i := by
  rw [List.getElem?_map, Option.map_eq_some_iff] at h
  obtain ⟨k, h, rfl⟩ := h
  rw [List.getElem?_eq_some_iff] at h
  obtain ⟨h1, h2⟩ := h
  simp at h1 h2
  exact ⟨h1, by rw [h2]⟩
theorem rev_tup (ns : List Int) : revD (.tuple (ns.map .int)) = some (.d (.tuple (ns.reverse.map .int))) := by
  show some (O.d (.tuple (ns.map PyData.int).reverse)) = _
  rw [List.map_reverse]
theorem items_tup (xs : List D) : items (.tuple xs) = some xs := rfl
theorem sorted_list (ns : List Int) : blt .sorted [.list (ns.map .int)] = some (.l ((srt ns).map .int)) := by
  show ((items (.list (ns.map .int))).bind intsD).map _ = _
  show (intsD (ns.map .int)).map _ = _
  rw [ints_map]
  rfl
theorem repr_bool (b : Bool) : blt .repr [.bool b] = some (.d (.str (PyData.bool b).shown)) := (Fit.bool b).repr (by decide) (by decide)
theorem isnt_true (b : Bool) : cop .isnt (.bool b) (.bool true) = some (!(b == true)) := by cases b <;> rfl
theorem rank_cons (a : Int) (l : List Int) (g : Int) : rank (a :: l) g = (if a < g then 1 else 0) + rank l g := by
  unfold rank
  rw [List.filter_cons]
  by_cases h : a < g
  · rw [if_pos (by simpa using h), if_pos h, List.length_cons, Nat.add_comm]
  · rw [if_neg (by simpa using h), if_neg h, Nat.zero_add]
theorem rank_le {g g' : Int} (h : g ≤ g') : ∀ l : List Int, rank l g ≤ rank l g'
  | [] => Nat.le_refl _
  | a :: l => by
    have := rank_le h l
    rw [rank_cons, rank_cons]
    split <;> split <;> omega
theorem rank_mono {g g' : Int} (h : g < g') : ∀ {l : List Int}, g ∈ l → rank l g < rank l g'
  | [], hm => by cases hm
  | a :: l, hm => by
    rw [rank_cons, rank_cons]
    obtain e | hm := List.mem_cons.mp hm
    · subst e
      have := rank_le (Int.le_of_lt h) l
      rw [if_neg (by omega), if_pos h]
      omega
    · have := rank_mono h hm
      split <;> split <;> omega
end MI

set_option maxRecDepth 100000
/-! LF0: the feed that draws are made of. -/
namespace MI
open PySem
def gFeed : Fn := ⟨1, [false], 1, (.cons (.ret (.dct (.cons (.cst (.str "cells")) (.cons (.scut 0 63) (.cons (.cst (.str "at")) (.cons (.cst (.int 0)) (.cons (.cst (.str "left")) (.cons (.cst (.int 0)) (.cons (.cst (.str "turn")) (.cons (.cst (.int 0)) .nil))))))))))
  .nil)⟩
def gMix : Ss := (.cons (.asg 6 (.bin .mod (.bin .mul (.bin .add (.bin .add (.bin .add (.bin .mod (.var 5) (.cst (.int 1000003))) (.bin .mul (.bin .mul (.cst (.int 31)) (.var 2)) (.var 2))) (.bin .mul (.cst (.int 7)) (.var 2))) (.cst (.int 11))) (.cst (.int 48271))) (.cst (.int 2147483647))))
  (.cons (.asg 6 (.bin .mod (.bin .add (.bin .mul (.bin .fdiv (.var 6) (.cst (.int 64))) (.cst (.int 69621))) (.bin .mul (.cst (.int 7919)) (.var 2))) (.cst (.int 2147483587))))
  (.cons (.ret (.bin .mod (.bin .fdiv (.var 6) (.cst (.int 64))) (.var 1)))
  .nil)))
def gFDraw : Fn := ⟨2, [true, false], 7, (.cons (.asg 2 (.bin .add (.idx (.var 0) (.cst (.str "turn"))) (.cst (.int 1))))
  (.cons (.set 0 (.cst (.str "turn")) (.var 2))
  (.cons (.ife (.cmp .gt (.idx (.var 0) (.cst (.str "left"))) (.cst (.int 0)))
  (.cons (.asg 3 (.bin .mod (.idx (.var 0) (.cst (.str "left"))) (.var 1)))
  (.cons (.set 0 (.cst (.str "left")) (.bin .fdiv (.idx (.var 0) (.cst (.str "left"))) (.var 1)))
  (.cons (.retv 3)
  .nil)))
  .nil)
  (.cons (.asg 4 (.idx (.var 0) (.cst (.str "cells"))))
  (.cons (.asg 5 (.ite (.cmp .gt (.blt .len (.var 4)) (.cst (.int 0))) (.idx (.var 4) (.bin .mod (.idx (.var 0) (.cst (.str "at"))) (.blt .len (.var 4)))) (.cst (.int 0))))
  (.cons (.set 0 (.cst (.str "at")) (.bin .add (.idx (.var 0) (.cst (.str "at"))) (.cst (.int 1))))
  (.cons (.ife (.and (.cmp .ge (.var 5) (.bin .pow (.cst (.int 10)) (.cst (.int 18)))) (.cmp .le (.idx (.var 0) (.cst (.str "at"))) (.blt .len (.var 4))))
  (.cons (.set 0 (.cst (.str "left")) (.bin .fdiv (.var 5) (.var 1)))
  (.cons (.ret (.bin .mod (.var 5) (.var 1)))
  .nil))
  .nil)
  gMix)))))))⟩
/-- the feed -/
def fdK (cs : List Int) (p q t : Int) : List (D × D) := [(.str "cells", .list (cs.map .int)), (.str "at", .int p), (.str "left", .int q), (.str "turn", .int t)]
def fd (cs : List Int) (p q t : Int) : O := .k (fdK cs p q t)
section
variable (cs : List Int) (p q t y : Int)
theorem f_cells : idxD (.dict (fdK cs p q t)) (.str "cells") = some (.list (cs.map .int)) := rfl
theorem f_at : idxD (.dict (fdK cs p q t)) (.str "at") = some (.int p) := rfl
theorem f_left : idxD (.dict (fdK cs p q t)) (.str "left") = some (.int q) := rfl
theorem f_turn : idxD (.dict (fdK cs p q t)) (.str "turn") = some (.int t) := rfl
theorem fs_at : setIt (some (.k (fdK cs p q t))) (.str "at") (.int y) = some (.k (fdK cs y q t)) := rfl
theorem fs_left : setIt (some (.k (fdK cs p q t))) (.str "left") (.int y) = some (.k (fdK cs p y t)) := rfl
theorem fs_turn : setIt (some (.k (fdK cs p q t))) (.str "turn") (.int y) = some (.k (fdK cs p q y)) := rfl
end
theorem fmix_run {X : Ctx} (z : Option O) (cs : List Int) (p q t m c : Int) (ht : 0 ≤ t) (ht2 : t < 2 ^ 60) (hm : 1 ≤ m) : ∃ v, 0 ≤ v ∧ v < m ∧ fin 2 (evSs X gMix [some (fd cs p q t), some (.d (.int m)), some (.d (.int t)), none, z, some (.d (.int c)), none]) = .ok (.d (.int v)) [some (fd cs p q t), some (.d (.int m))] := by
  have m0 : 0 < m := by omega
  have t1 : -18446744073709551616 < t := by omega
  have t2 : t < 18446744073709551616 := by omega
  simp only [gMix]
  simp only [ss_cons, ss_nil, seq_nx, seq_rt, s_asg, kAsg, s_set, kSet, kSet2, s_ife, s_ret, kRt, s_retv, ev_bin, kBin, kBin0, kBin1, kBin2, ev_cmp, kCmp, kCmp0, kCmp1, kCmp2, kBo, ev_idx, kIdx, kIdx0, kIdx1, kD1, ev_cst, ev_var, ev_lst, kLst, evDs_nil, ev_blt, kBlt, kBlt1, ev_and, opB_s, opB_idx, opB_cst, opB_bin, opB_lst, opB_blt, hasS_0, hasS_s, rdB_s, rdB_v, rdO_d, rdO_l, rdVO_d, slot_0, slot_s, kTD_d, kTD_l, kTB_b, kV, R.bind_ok, R.st_ok, optR_some, List.set_cons_zero, List.set_cons_succ, Option.isSome_some, putSlot, i4_0, i4_1, i4_2, i4_3, st4_1, st4_2, st4_3, b_add, c_gt, c_ge, c_le, ev_call, evAs_pass, evAs_nil, kAs, kAs1, kConsO, kGv, gvO_some, pass_d, tb_t, tb_f, tb_end, slot_set0, ev_lc, evI_rng1, kRng1, evI_seq, kSeq, kDs, kCons, evDs_cons, opB_lc, opB_call, len_list, ev_mth, kMth1, kdB_s, kdB_v, opB_mth, ev_slh, kSlh, kSlh1, kSlh2, kSlh3, ev_sll, kSll, kSll1, kSll2, kSll3, asInt_int, slD_tup, slD_list, ev_neg, kNeg_int, ev_lls0, kApp, kAppl, kApp2, kExt, ev_blts, kBlts, s_tasg, kTasg, s_pass, s_expr, kExpr, opB_slh, opB_sll, opB_neg, opB_blts, opB_tup, ev_tup, kTup, rdVO_l, rdVO_k, rdVO_ll, rdO_k, items_list, list_list, list_tup, b_mod, b_fdiv, b_mulr, b_mull, t1, t2, m0, Int.reduceLT, Int.reduceNeg]
  exact ⟨_, Int.emod_nonneg _ (by omega), Int.emod_lt_of_pos _ m0, rfl⟩
theorem fdraw_run {P : Prog} {fu k f : Nat} (hf : P.fns[f]? = some gFDraw) (cs : List Int) (p q t m : Int) (hp : 0 ≤ p) (ht : 0 ≤ t) (ht2 : t < 2 ^ 59) (hm : 1 ≤ m) (hm2 : m < 1073741824) :
    ∃ v p' q', 0 ≤ v ∧ v < m ∧ 0 ≤ p' ∧ callF P fu (k + 1) f [fd cs p q t, .d (.int m)] = .ok (.d (.int v)) [some (fd cs p' q' (t + 1)), some (.d (.int m))] := by
  rw [run_at (np := 2) (b := gFDraw.body) (Γ := [some (fd cs p q t), some (.d (.int m)), none, none, none, none, none]) hf rfl rfl rfl rfl]
  generalize P.ctx fu (callF P fu k) = X
  have m0 : 0 < m := by omega
  have put : ∀ (Γ : Env) (i : Nat) (o : O), putSlot Γ i (some o) = .nx (Γ.set i (some o)) := fun _ _ _ => rfl
  simp only [gFDraw, fd]
  rw [ss_cons, s_asg]
  simp only [ss_nil, seq_nx, seq_rt, s_asg, kAsg, s_set, kSet, kSet2, s_ife, s_ret, kRt, s_retv, ev_bin, kBin, kBin0, kBin1, kBin2, ev_cmp, kCmp, kCmp0, kCmp1, kCmp2, kBo, ev_idx, kIdx, kIdx0, kIdx1, kD1, ev_cst, ev_var, ev_lst, kLst, evDs_nil, ev_blt, kBlt, kBlt1, ev_and, opB_s, opB_idx, opB_cst, opB_bin, opB_lst, opB_blt, hasS_0, hasS_s, rdB_s, rdB_v, rdO_d, rdO_l, rdVO_d, slot_0, slot_s, kTD_d, kTD_l, kTB_b, kV, R.bind_ok, R.st_ok, optR_some, List.set_cons_zero, List.set_cons_succ, Option.isSome_some, putSlot, i4_0, i4_1, i4_2, i4_3, st4_1, st4_2, st4_3, b_add, c_gt, c_ge, c_le, ev_call, evAs_pass, evAs_nil, kAs, kAs1, kConsO, kGv, gvO_some, pass_d, tb_t, tb_f, tb_end, slot_set0, ev_lc, evI_rng1, kRng1, evI_seq, kSeq, kDs, kCons, evDs_cons, opB_lc, opB_call, len_list, ev_mth, kMth1, kdB_s, kdB_v, opB_mth, ev_slh, kSlh, kSlh1, kSlh2, kSlh3, ev_sll, kSll, kSll1, kSll2, kSll3, asInt_int, slD_tup, slD_list, ev_neg, kNeg_int, ev_lls0, kApp, kAppl, kApp2, kExt, ev_blts, kBlts, s_tasg, kTasg, s_pass, s_expr, kExpr, opB_slh, opB_sll, opB_neg, opB_blts, opB_tup, ev_tup, kTup, rdVO_l, rdVO_k, rdVO_ll, rdO_k, items_list, list_list, list_tup, f_turn]
  rw [ss_cons, s_set]
  simp only [ss_nil, seq_nx, seq_rt, s_asg, kAsg, s_set, kSet, kSet2, s_ife, s_ret, kRt, s_retv, ev_bin, kBin, kBin0, kBin1, kBin2, ev_cmp, kCmp, kCmp0, kCmp1, kCmp2, kBo, ev_idx, kIdx, kIdx0, kIdx1, kD1, ev_cst, ev_var, ev_lst, kLst, evDs_nil, ev_blt, kBlt, kBlt1, ev_and, opB_s, opB_idx, opB_cst, opB_bin, opB_lst, opB_blt, hasS_0, hasS_s, rdB_s, rdB_v, rdO_d, rdO_l, rdVO_d, slot_0, slot_s, kTD_d, kTD_l, kTB_b, kV, R.bind_ok, R.st_ok, optR_some, List.set_cons_zero, List.set_cons_succ, Option.isSome_some, putSlot, i4_0, i4_1, i4_2, i4_3, st4_1, st4_2, st4_3, b_add, c_gt, c_ge, c_le, ev_call, evAs_pass, evAs_nil, kAs, kAs1, kConsO, kGv, gvO_some, pass_d, tb_t, tb_f, tb_end, slot_set0, ev_lc, evI_rng1, kRng1, evI_seq, kSeq, kDs, kCons, evDs_cons, opB_lc, opB_call, len_list, ev_mth, kMth1, kdB_s, kdB_v, opB_mth, ev_slh, kSlh, kSlh1, kSlh2, kSlh3, ev_sll, kSll, kSll1, kSll2, kSll3, asInt_int, slD_tup, slD_list, ev_neg, kNeg_int, ev_lls0, kApp, kAppl, kApp2, kExt, ev_blts, kBlts, s_tasg, kTasg, s_pass, s_expr, kExpr, opB_slh, opB_sll, opB_neg, opB_blts, opB_tup, ev_tup, kTup, rdVO_l, rdVO_k, rdVO_ll, rdO_k, items_list, list_list, list_tup, fs_turn]
  rw [ss_cons, s_ife]
  simp only [ss_nil, seq_nx, seq_rt, s_asg, kAsg, s_set, kSet, kSet2, s_ife, s_ret, kRt, s_retv, ev_bin, kBin, kBin0, kBin1, kBin2, ev_cmp, kCmp, kCmp0, kCmp1, kCmp2, kBo, ev_idx, kIdx, kIdx0, kIdx1, kD1, ev_cst, ev_var, ev_lst, kLst, evDs_nil, ev_blt, kBlt, kBlt1, ev_and, opB_s, opB_idx, opB_cst, opB_bin, opB_lst, opB_blt, hasS_0, hasS_s, rdB_s, rdB_v, rdO_d, rdO_l, rdVO_d, slot_0, slot_s, kTD_d, kTD_l, kTB_b, kV, R.bind_ok, R.st_ok, optR_some, List.set_cons_zero, List.set_cons_succ, Option.isSome_some, putSlot, i4_0, i4_1, i4_2, i4_3, st4_1, st4_2, st4_3, b_add, c_gt, c_ge, c_le, ev_call, evAs_pass, evAs_nil, kAs, kAs1, kConsO, kGv, gvO_some, pass_d, tb_t, tb_f, tb_end, slot_set0, ev_lc, evI_rng1, kRng1, evI_seq, kSeq, kDs, kCons, evDs_cons, opB_lc, opB_call, len_list, ev_mth, kMth1, kdB_s, kdB_v, opB_mth, ev_slh, kSlh, kSlh1, kSlh2, kSlh3, ev_sll, kSll, kSll1, kSll2, kSll3, asInt_int, slD_tup, slD_list, ev_neg, kNeg_int, ev_lls0, kApp, kAppl, kApp2, kExt, ev_blts, kBlts, s_tasg, kTasg, s_pass, s_expr, kExpr, opB_slh, opB_sll, opB_neg, opB_blts, opB_tup, ev_tup, kTup, rdVO_l, rdVO_k, rdVO_ll, rdO_k, items_list, list_list, list_tup, f_left]
  by_cases hq : 0 < q
  · have : decide (0 < q) = true := by simpa using hq
    simp only [this, kIf_t]
    rw [ss_cons, s_asg]
    simp only [ss_nil, seq_nx, seq_rt, s_asg, kAsg, s_set, kSet, kSet2, s_ife, s_ret, kRt, s_retv, ev_bin, kBin, kBin0, kBin1, kBin2, ev_cmp, kCmp, kCmp0, kCmp1, kCmp2, kBo, ev_idx, kIdx, kIdx0, kIdx1, kD1, ev_cst, ev_var, ev_lst, kLst, evDs_nil, ev_blt, kBlt, kBlt1, ev_and, opB_s, opB_idx, opB_cst, opB_bin, opB_lst, opB_blt, hasS_0, hasS_s, rdB_s, rdB_v, rdO_d, rdO_l, rdVO_d, slot_0, slot_s, kTD_d, kTD_l, kTB_b, kV, R.bind_ok, R.st_ok, optR_some, List.set_cons_zero, List.set_cons_succ, Option.isSome_some, putSlot, i4_0, i4_1, i4_2, i4_3, st4_1, st4_2, st4_3, b_add, c_gt, c_ge, c_le, ev_call, evAs_pass, evAs_nil, kAs, kAs1, kConsO, kGv, gvO_some, pass_d, tb_t, tb_f, tb_end, slot_set0, ev_lc, evI_rng1, kRng1, evI_seq, kSeq, kDs, kCons, evDs_cons, opB_lc, opB_call, len_list, ev_mth, kMth1, kdB_s, kdB_v, opB_mth, ev_slh, kSlh, kSlh1, kSlh2, kSlh3, ev_sll, kSll, kSll1, kSll2, kSll3, asInt_int, slD_tup, slD_list, ev_neg, kNeg_int, ev_lls0, kApp, kAppl, kApp2, kExt, ev_blts, kBlts, s_tasg, kTasg, s_pass, s_expr, kExpr, opB_slh, opB_sll, opB_neg, opB_blts, opB_tup, ev_tup, kTup, rdVO_l, rdVO_k, rdVO_ll, rdO_k, items_list, list_list, list_tup, f_left, b_mod m0]
    rw [ss_cons, s_set]
    simp only [ss_nil, seq_nx, seq_rt, s_asg, kAsg, s_set, kSet, kSet2, s_ife, s_ret, kRt, s_retv, ev_bin, kBin, kBin0, kBin1, kBin2, ev_cmp, kCmp, kCmp0, kCmp1, kCmp2, kBo, ev_idx, kIdx, kIdx0, kIdx1, kD1, ev_cst, ev_var, ev_lst, kLst, evDs_nil, ev_blt, kBlt, kBlt1, ev_and, opB_s, opB_idx, opB_cst, opB_bin, opB_lst, opB_blt, hasS_0, hasS_s, rdB_s, rdB_v, rdO_d, rdO_l, rdVO_d, slot_0, slot_s, kTD_d, kTD_l, kTB_b, kV, R.bind_ok, R.st_ok, optR_some, List.set_cons_zero, List.set_cons_succ, Option.isSome_some, putSlot, i4_0, i4_1, i4_2, i4_3, st4_1, st4_2, st4_3, b_add, c_gt, c_ge, c_le, ev_call, evAs_pass, evAs_nil, kAs, kAs1, kConsO, kGv, gvO_some, pass_d, tb_t, tb_f, tb_end, slot_set0, ev_lc, evI_rng1, kRng1, evI_seq, kSeq, kDs, kCons, evDs_cons, opB_lc, opB_call, len_list, ev_mth, kMth1, kdB_s, kdB_v, opB_mth, ev_slh, kSlh, kSlh1, kSlh2, kSlh3, ev_sll, kSll, kSll1, kSll2, kSll3, asInt_int, slD_tup, slD_list, ev_neg, kNeg_int, ev_lls0, kApp, kAppl, kApp2, kExt, ev_blts, kBlts, s_tasg, kTasg, s_pass, s_expr, kExpr, opB_slh, opB_sll, opB_neg, opB_blts, opB_tup, ev_tup, kTup, rdVO_l, rdVO_k, rdVO_ll, rdO_k, items_list, list_list, list_tup, f_left, b_fdiv m0 hm2, fs_left]
    simp only [ss_cons, ss_nil, seq_nx, seq_rt, s_asg, kAsg, s_set, kSet, kSet2, s_ife, s_ret, kRt, s_retv, ev_bin, kBin, kBin0, kBin1, kBin2, ev_cmp, kCmp, kCmp0, kCmp1, kCmp2, kBo, ev_idx, kIdx, kIdx0, kIdx1, kD1, ev_cst, ev_var, ev_lst, kLst, evDs_nil, ev_blt, kBlt, kBlt1, ev_and, opB_s, opB_idx, opB_cst, opB_bin, opB_lst, opB_blt, hasS_0, hasS_s, rdB_s, rdB_v, rdO_d, rdO_l, rdVO_d, slot_0, slot_s, kTD_d, kTD_l, kTB_b, kV, R.bind_ok, R.st_ok, optR_some, List.set_cons_zero, List.set_cons_succ, Option.isSome_some, putSlot, i4_0, i4_1, i4_2, i4_3, st4_1, st4_2, st4_3, b_add, c_gt, c_ge, c_le, ev_call, evAs_pass, evAs_nil, kAs, kAs1, kConsO, kGv, gvO_some, pass_d, tb_t, tb_f, tb_end, slot_set0, ev_lc, evI_rng1, kRng1, evI_seq, kSeq, kDs, kCons, evDs_cons, opB_lc, opB_call, len_list, ev_mth, kMth1, kdB_s, kdB_v, opB_mth, ev_slh, kSlh, kSlh1, kSlh2, kSlh3, ev_sll, kSll, kSll1, kSll2, kSll3, asInt_int, slD_tup, slD_list, ev_neg, kNeg_int, ev_lls0, kApp, kAppl, kApp2, kExt, ev_blts, kBlts, s_tasg, kTasg, s_pass, s_expr, kExpr, opB_slh, opB_sll, opB_neg, opB_blts, opB_tup, ev_tup, kTup, rdVO_l, rdVO_k, rdVO_ll, rdO_k, items_list, list_list, list_tup]
    exact ⟨_, _, _, Int.emod_nonneg _ (by omega), Int.emod_lt_of_pos _ m0, hp, rfl⟩
  · have : decide (0 < q) = false := by simpa using hq
    simp only [this, kIf_f, ss_nil, seq_nx]
    rw [ss_cons, s_asg]
    simp only [ss_nil, seq_nx, seq_rt, s_asg, kAsg, s_set, kSet, kSet2, s_ife, s_ret, kRt, s_retv, ev_bin, kBin, kBin0, kBin1, kBin2, ev_cmp, kCmp, kCmp0, kCmp1, kCmp2, kBo, ev_idx, kIdx, kIdx0, kIdx1, kD1, ev_cst, ev_var, ev_lst, kLst, evDs_nil, ev_blt, kBlt, kBlt1, ev_and, opB_s, opB_idx, opB_cst, opB_bin, opB_lst, opB_blt, hasS_0, hasS_s, rdB_s, rdB_v, rdO_d, rdO_l, rdVO_d, slot_0, slot_s, kTD_d, kTD_l, kTB_b, kV, R.bind_ok, R.st_ok, optR_some, List.set_cons_zero, List.set_cons_succ, Option.isSome_some, putSlot, i4_0, i4_1, i4_2, i4_3, st4_1, st4_2, st4_3, b_add, c_gt, c_ge, c_le, ev_call, evAs_pass, evAs_nil, kAs, kAs1, kConsO, kGv, gvO_some, pass_d, tb_t, tb_f, tb_end, slot_set0, ev_lc, evI_rng1, kRng1, evI_seq, kSeq, kDs, kCons, evDs_cons, opB_lc, opB_call, len_list, ev_mth, kMth1, kdB_s, kdB_v, opB_mth, ev_slh, kSlh, kSlh1, kSlh2, kSlh3, ev_sll, kSll, kSll1, kSll2, kSll3, asInt_int, slD_tup, slD_list, ev_neg, kNeg_int, ev_lls0, kApp, kAppl, kApp2, kExt, ev_blts, kBlts, s_tasg, kTasg, s_pass, s_expr, kExpr, opB_slh, opB_sll, opB_neg, opB_blts, opB_tup, ev_tup, kTup, rdVO_l, rdVO_k, rdVO_ll, rdO_k, items_list, list_list, list_tup, f_cells]
    have ln : ((cs.map PyData.int).length : Int) = cs.length := by simp
    -- the cell
    have cell : ∀ r : R O, r = evE X (.ite (.cmp .gt (.blt .len (.var 4)) (.cst (.int 0))) (.idx (.var 4) (.bin .mod (.idx (.var 0) (.cst (.str "at"))) (.blt .len (.var 4)))) (.cst (.int 0))) [some (.k (fdK cs p q (t + 1))), some (.d (.int m)), some (.d (.int (t + 1))), none, some (.d (.list (cs.map .int))), none, none] →
        ∃ c, r = .ok (.d (.int c)) [some (.k (fdK cs p q (t + 1))), some (.d (.int m)), some (.d (.int (t + 1))), none, some (.d (.list (cs.map .int))), none, none] := by
      rintro r rfl
      rw [ev_ite]
      simp only [ss_nil, seq_nx, seq_rt, s_asg, kAsg, s_set, kSet, kSet2, s_ife, s_ret, kRt, s_retv, ev_bin, kBin, kBin0, kBin1, kBin2, ev_cmp, kCmp, kCmp0, kCmp1, kCmp2, kBo, ev_idx, kIdx, kIdx0, kIdx1, kD1, ev_cst, ev_var, ev_lst, kLst, evDs_nil, ev_blt, kBlt, kBlt1, ev_and, opB_s, opB_idx, opB_cst, opB_bin, opB_lst, opB_blt, hasS_0, hasS_s, rdB_s, rdB_v, rdO_d, rdO_l, rdVO_d, slot_0, slot_s, kTD_d, kTD_l, kTB_b, kV, R.bind_ok, R.st_ok, optR_some, List.set_cons_zero, List.set_cons_succ, Option.isSome_some, putSlot, i4_0, i4_1, i4_2, i4_3, st4_1, st4_2, st4_3, b_add, c_gt, c_ge, c_le, ev_call, evAs_pass, evAs_nil, kAs, kAs1, kConsO, kGv, gvO_some, pass_d, tb_t, tb_f, tb_end, slot_set0, ev_lc, evI_rng1, kRng1, evI_seq, kSeq, kDs, kCons, evDs_cons, opB_lc, opB_call, len_list, ev_mth, kMth1, kdB_s, kdB_v, opB_mth, ev_slh, kSlh, kSlh1, kSlh2, kSlh3, ev_sll, kSll, kSll1, kSll2, kSll3, asInt_int, slD_tup, slD_list, ev_neg, kNeg_int, ev_lls0, kApp, kAppl, kApp2, kExt, ev_blts, kBlts, s_tasg, kTasg, s_pass, s_expr, kExpr, opB_slh, opB_sll, opB_neg, opB_blts, opB_tup, ev_tup, kTup, rdVO_l, rdVO_k, rdVO_ll, rdO_k, items_list, list_list, list_tup, ln]
      by_cases hc : 0 < (cs.length : Int)
      · obtain ⟨c, ec⟩ := idx_ints (ns := cs) (i := p % (cs.length : Int)) (Int.emod_nonneg _ (by omega)) (Int.emod_lt_of_pos p hc)
        refine ⟨c, ?_⟩
        rw [decide_eq_true hc, kIte_t]
        simp only [ss_nil, seq_nx, seq_rt, s_asg, kAsg, s_set, kSet, kSet2, s_ife, s_ret, kRt, s_retv, ev_bin, kBin, kBin0, kBin1, kBin2, ev_cmp, kCmp, kCmp0, kCmp1, kCmp2, kBo, ev_idx, kIdx, kIdx0, kIdx1, kD1, ev_cst, ev_var, ev_lst, kLst, evDs_nil, ev_blt, kBlt, kBlt1, ev_and, opB_s, opB_idx, opB_cst, opB_bin, opB_lst, opB_blt, hasS_0, hasS_s, rdB_s, rdB_v, rdO_d, rdO_l, rdVO_d, slot_0, slot_s, kTD_d, kTD_l, kTB_b, kV, R.bind_ok, R.st_ok, optR_some, List.set_cons_zero, List.set_cons_succ, Option.isSome_some, putSlot, i4_0, i4_1, i4_2, i4_3, st4_1, st4_2, st4_3, b_add, c_gt, c_ge, c_le, ev_call, evAs_pass, evAs_nil, kAs, kAs1, kConsO, kGv, gvO_some, pass_d, tb_t, tb_f, tb_end, slot_set0, ev_lc, evI_rng1, kRng1, evI_seq, kSeq, kDs, kCons, evDs_cons, opB_lc, opB_call, len_list, ev_mth, kMth1, kdB_s, kdB_v, opB_mth, ev_slh, kSlh, kSlh1, kSlh2, kSlh3, ev_sll, kSll, kSll1, kSll2, kSll3, asInt_int, slD_tup, slD_list, ev_neg, kNeg_int, ev_lls0, kApp, kAppl, kApp2, kExt, ev_blts, kBlts, s_tasg, kTasg, s_pass, s_expr, kExpr, opB_slh, opB_sll, opB_neg, opB_blts, opB_tup, ev_tup, kTup, rdVO_l, rdVO_k, rdVO_ll, rdO_k, items_list, list_list, list_tup, ln, f_at, b_mod hc, ec]
      · refine ⟨0, ?_⟩
        rw [decide_eq_false hc, kIte_f]
        simp only [ss_nil, seq_nx, seq_rt, s_asg, kAsg, s_set, kSet, kSet2, s_ife, s_ret, kRt, s_retv, ev_bin, kBin, kBin0, kBin1, kBin2, ev_cmp, kCmp, kCmp0, kCmp1, kCmp2, kBo, ev_idx, kIdx, kIdx0, kIdx1, kD1, ev_cst, ev_var, ev_lst, kLst, evDs_nil, ev_blt, kBlt, kBlt1, ev_and, opB_s, opB_idx, opB_cst, opB_bin, opB_lst, opB_blt, hasS_0, hasS_s, rdB_s, rdB_v, rdO_d, rdO_l, rdVO_d, slot_0, slot_s, kTD_d, kTD_l, kTB_b, kV, R.bind_ok, R.st_ok, optR_some, List.set_cons_zero, List.set_cons_succ, Option.isSome_some, putSlot, i4_0, i4_1, i4_2, i4_3, st4_1, st4_2, st4_3, b_add, c_gt, c_ge, c_le, ev_call, evAs_pass, evAs_nil, kAs, kAs1, kConsO, kGv, gvO_some, pass_d, tb_t, tb_f, tb_end, slot_set0, ev_lc, evI_rng1, kRng1, evI_seq, kSeq, kDs, kCons, evDs_cons, opB_lc, opB_call, len_list, ev_mth, kMth1, kdB_s, kdB_v, opB_mth, ev_slh, kSlh, kSlh1, kSlh2, kSlh3, ev_sll, kSll, kSll1, kSll2, kSll3, asInt_int, slD_tup, slD_list, ev_neg, kNeg_int, ev_lls0, kApp, kAppl, kApp2, kExt, ev_blts, kBlts, s_tasg, kTasg, s_pass, s_expr, kExpr, opB_slh, opB_sll, opB_neg, opB_blts, opB_tup, ev_tup, kTup, rdVO_l, rdVO_k, rdVO_ll, rdO_k, items_list, list_list, list_tup]
    rw [ss_cons, s_asg]
    obtain ⟨c, ec⟩ := cell _ rfl
    rw [ec]
    simp only [ss_nil, seq_nx, seq_rt, s_asg, kAsg, s_set, kSet, kSet2, s_ife, s_ret, kRt, s_retv, ev_bin, kBin, kBin0, kBin1, kBin2, ev_cmp, kCmp, kCmp0, kCmp1, kCmp2, kBo, ev_idx, kIdx, kIdx0, kIdx1, kD1, ev_cst, ev_var, ev_lst, kLst, evDs_nil, ev_blt, kBlt, kBlt1, ev_and, opB_s, opB_idx, opB_cst, opB_bin, opB_lst, opB_blt, hasS_0, hasS_s, rdB_s, rdB_v, rdO_d, rdO_l, rdVO_d, slot_0, slot_s, kTD_d, kTD_l, kTB_b, kV, R.bind_ok, R.st_ok, optR_some, List.set_cons_zero, List.set_cons_succ, Option.isSome_some, putSlot, i4_0, i4_1, i4_2, i4_3, st4_1, st4_2, st4_3, b_add, c_gt, c_ge, c_le, ev_call, evAs_pass, evAs_nil, kAs, kAs1, kConsO, kGv, gvO_some, pass_d, tb_t, tb_f, tb_end, slot_set0, ev_lc, evI_rng1, kRng1, evI_seq, kSeq, kDs, kCons, evDs_cons, opB_lc, opB_call, len_list, ev_mth, kMth1, kdB_s, kdB_v, opB_mth, ev_slh, kSlh, kSlh1, kSlh2, kSlh3, ev_sll, kSll, kSll1, kSll2, kSll3, asInt_int, slD_tup, slD_list, ev_neg, kNeg_int, ev_lls0, kApp, kAppl, kApp2, kExt, ev_blts, kBlts, s_tasg, kTasg, s_pass, s_expr, kExpr, opB_slh, opB_sll, opB_neg, opB_blts, opB_tup, ev_tup, kTup, rdVO_l, rdVO_k, rdVO_ll, rdO_k, items_list, list_list, list_tup]
    rw [ss_cons, s_set]
    simp only [ss_nil, seq_nx, seq_rt, s_asg, kAsg, s_set, kSet, kSet2, s_ife, s_ret, kRt, s_retv, ev_bin, kBin, kBin0, kBin1, kBin2, ev_cmp, kCmp, kCmp0, kCmp1, kCmp2, kBo, ev_idx, kIdx, kIdx0, kIdx1, kD1, ev_cst, ev_var, ev_lst, kLst, evDs_nil, ev_blt, kBlt, kBlt1, ev_and, opB_s, opB_idx, opB_cst, opB_bin, opB_lst, opB_blt, hasS_0, hasS_s, rdB_s, rdB_v, rdO_d, rdO_l, rdVO_d, slot_0, slot_s, kTD_d, kTD_l, kTB_b, kV, R.bind_ok, R.st_ok, optR_some, List.set_cons_zero, List.set_cons_succ, Option.isSome_some, putSlot, i4_0, i4_1, i4_2, i4_3, st4_1, st4_2, st4_3, b_add, c_gt, c_ge, c_le, ev_call, evAs_pass, evAs_nil, kAs, kAs1, kConsO, kGv, gvO_some, pass_d, tb_t, tb_f, tb_end, slot_set0, ev_lc, evI_rng1, kRng1, evI_seq, kSeq, kDs, kCons, evDs_cons, opB_lc, opB_call, len_list, ev_mth, kMth1, kdB_s, kdB_v, opB_mth, ev_slh, kSlh, kSlh1, kSlh2, kSlh3, ev_sll, kSll, kSll1, kSll2, kSll3, asInt_int, slD_tup, slD_list, ev_neg, kNeg_int, ev_lls0, kApp, kAppl, kApp2, kExt, ev_blts, kBlts, s_tasg, kTasg, s_pass, s_expr, kExpr, opB_slh, opB_sll, opB_neg, opB_blts, opB_tup, ev_tup, kTup, rdVO_l, rdVO_k, rdVO_ll, rdO_k, items_list, list_list, list_tup, f_at, fs_at]
    obtain ⟨v, v0, v1, ev⟩ := fmix_run (X := X) (some (.d (.list (cs.map .int)))) cs (p + 1) q (t + 1) m c (by omega) (by omega) hm
    rw [ss_cons, s_ife]
    simp only [ss_nil, seq_nx, seq_rt, s_asg, kAsg, s_set, kSet, kSet2, s_ife, s_ret, kRt, s_retv, ev_bin, kBin, kBin0, kBin1, kBin2, ev_cmp, kCmp, kCmp0, kCmp1, kCmp2, kBo, ev_idx, kIdx, kIdx0, kIdx1, kD1, ev_cst, ev_var, ev_lst, kLst, evDs_nil, ev_blt, kBlt, kBlt1, ev_and, opB_s, opB_idx, opB_cst, opB_bin, opB_lst, opB_blt, hasS_0, hasS_s, rdB_s, rdB_v, rdO_d, rdO_l, rdVO_d, slot_0, slot_s, kTD_d, kTD_l, kTB_b, kV, R.bind_ok, R.st_ok, optR_some, List.set_cons_zero, List.set_cons_succ, Option.isSome_some, putSlot, i4_0, i4_1, i4_2, i4_3, st4_1, st4_2, st4_3, b_add, c_gt, c_ge, c_le, ev_call, evAs_pass, evAs_nil, kAs, kAs1, kConsO, kGv, gvO_some, pass_d, tb_t, tb_f, tb_end, slot_set0, ev_lc, evI_rng1, kRng1, evI_seq, kSeq, kDs, kCons, evDs_cons, opB_lc, opB_call, len_list, ev_mth, kMth1, kdB_s, kdB_v, opB_mth, ev_slh, kSlh, kSlh1, kSlh2, kSlh3, ev_sll, kSll, kSll1, kSll2, kSll3, asInt_int, slD_tup, slD_list, ev_neg, kNeg_int, ev_lls0, kApp, kAppl, kApp2, kExt, ev_blts, kBlts, s_tasg, kTasg, s_pass, s_expr, kExpr, opB_slh, opB_sll, opB_neg, opB_blts, opB_tup, ev_tup, kTup, rdVO_l, rdVO_k, rdVO_ll, rdO_k, items_list, list_list, list_tup, pow18]
    by_cases h1 : (1000000000000000000 : Int) ≤ c
    · simp only [decide_eq_true h1, kAnd_t]
      simp only [ss_nil, seq_nx, seq_rt, s_asg, kAsg, s_set, kSet, kSet2, s_ife, s_ret, kRt, s_retv, ev_bin, kBin, kBin0, kBin1, kBin2, ev_cmp, kCmp, kCmp0, kCmp1, kCmp2, kBo, ev_idx, kIdx, kIdx0, kIdx1, kD1, ev_cst, ev_var, ev_lst, kLst, evDs_nil, ev_blt, kBlt, kBlt1, ev_and, opB_s, opB_idx, opB_cst, opB_bin, opB_lst, opB_blt, hasS_0, hasS_s, rdB_s, rdB_v, rdO_d, rdO_l, rdVO_d, slot_0, slot_s, kTD_d, kTD_l, kTB_b, kV, R.bind_ok, R.st_ok, optR_some, List.set_cons_zero, List.set_cons_succ, Option.isSome_some, putSlot, i4_0, i4_1, i4_2, i4_3, st4_1, st4_2, st4_3, b_add, c_gt, c_ge, c_le, ev_call, evAs_pass, evAs_nil, kAs, kAs1, kConsO, kGv, gvO_some, pass_d, tb_t, tb_f, tb_end, slot_set0, ev_lc, evI_rng1, kRng1, evI_seq, kSeq, kDs, kCons, evDs_cons, opB_lc, opB_call, len_list, ev_mth, kMth1, kdB_s, kdB_v, opB_mth, ev_slh, kSlh, kSlh1, kSlh2, kSlh3, ev_sll, kSll, kSll1, kSll2, kSll3, asInt_int, slD_tup, slD_list, ev_neg, kNeg_int, ev_lls0, kApp, kAppl, kApp2, kExt, ev_blts, kBlts, s_tasg, kTasg, s_pass, s_expr, kExpr, opB_slh, opB_sll, opB_neg, opB_blts, opB_tup, ev_tup, kTup, rdVO_l, rdVO_k, rdVO_ll, rdO_k, items_list, list_list, list_tup, f_at, ln]
      by_cases h2 : p + 1 ≤ (cs.length : Int)
      · simp only [decide_eq_true h2, kIf_t]
        rw [ss_cons, s_set]
        simp only [ss_nil, seq_nx, seq_rt, s_asg, kAsg, s_set, kSet, kSet2, s_ife, s_ret, kRt, s_retv, ev_bin, kBin, kBin0, kBin1, kBin2, ev_cmp, kCmp, kCmp0, kCmp1, kCmp2, kBo, ev_idx, kIdx, kIdx0, kIdx1, kD1, ev_cst, ev_var, ev_lst, kLst, evDs_nil, ev_blt, kBlt, kBlt1, ev_and, opB_s, opB_idx, opB_cst, opB_bin, opB_lst, opB_blt, hasS_0, hasS_s, rdB_s, rdB_v, rdO_d, rdO_l, rdVO_d, slot_0, slot_s, kTD_d, kTD_l, kTB_b, kV, R.bind_ok, R.st_ok, optR_some, List.set_cons_zero, List.set_cons_succ, Option.isSome_some, putSlot, i4_0, i4_1, i4_2, i4_3, st4_1, st4_2, st4_3, b_add, c_gt, c_ge, c_le, ev_call, evAs_pass, evAs_nil, kAs, kAs1, kConsO, kGv, gvO_some, pass_d, tb_t, tb_f, tb_end, slot_set0, ev_lc, evI_rng1, kRng1, evI_seq, kSeq, kDs, kCons, evDs_cons, opB_lc, opB_call, len_list, ev_mth, kMth1, kdB_s, kdB_v, opB_mth, ev_slh, kSlh, kSlh1, kSlh2, kSlh3, ev_sll, kSll, kSll1, kSll2, kSll3, asInt_int, slD_tup, slD_list, ev_neg, kNeg_int, ev_lls0, kApp, kAppl, kApp2, kExt, ev_blts, kBlts, s_tasg, kTasg, s_pass, s_expr, kExpr, opB_slh, opB_sll, opB_neg, opB_blts, opB_tup, ev_tup, kTup, rdVO_l, rdVO_k, rdVO_ll, rdO_k, items_list, list_list, list_tup, b_fdiv m0 hm2, fs_left]
        rw [ss_cons, s_ret]
        simp only [ss_nil, seq_nx, seq_rt, s_asg, kAsg, s_set, kSet, kSet2, s_ife, s_ret, kRt, s_retv, ev_bin, kBin, kBin0, kBin1, kBin2, ev_cmp, kCmp, kCmp0, kCmp1, kCmp2, kBo, ev_idx, kIdx, kIdx0, kIdx1, kD1, ev_cst, ev_var, ev_lst, kLst, evDs_nil, ev_blt, kBlt, kBlt1, ev_and, opB_s, opB_idx, opB_cst, opB_bin, opB_lst, opB_blt, hasS_0, hasS_s, rdB_s, rdB_v, rdO_d, rdO_l, rdVO_d, slot_0, slot_s, kTD_d, kTD_l, kTB_b, kV, R.bind_ok, R.st_ok, optR_some, List.set_cons_zero, List.set_cons_succ, Option.isSome_some, putSlot, i4_0, i4_1, i4_2, i4_3, st4_1, st4_2, st4_3, b_add, c_gt, c_ge, c_le, ev_call, evAs_pass, evAs_nil, kAs, kAs1, kConsO, kGv, gvO_some, pass_d, tb_t, tb_f, tb_end, slot_set0, ev_lc, evI_rng1, kRng1, evI_seq, kSeq, kDs, kCons, evDs_cons, opB_lc, opB_call, len_list, ev_mth, kMth1, kdB_s, kdB_v, opB_mth, ev_slh, kSlh, kSlh1, kSlh2, kSlh3, ev_sll, kSll, kSll1, kSll2, kSll3, asInt_int, slD_tup, slD_list, ev_neg, kNeg_int, ev_lls0, kApp, kAppl, kApp2, kExt, ev_blts, kBlts, s_tasg, kTasg, s_pass, s_expr, kExpr, opB_slh, opB_sll, opB_neg, opB_blts, opB_tup, ev_tup, kTup, rdVO_l, rdVO_k, rdVO_ll, rdO_k, items_list, list_list, list_tup, b_mod m0]
        exact ⟨_, _, _, Int.emod_nonneg _ (by omega), Int.emod_lt_of_pos _ m0, by omega, rfl⟩
      · simp only [decide_eq_false h2, kIf_f, ss_nil, seq_nx]
        exact ⟨v, p + 1, q, v0, v1, by omega, ev⟩
    · simp only [decide_eq_false h1, kAnd_f]
      simp only [ss_nil, seq_nx, seq_rt, s_asg, kAsg, s_set, kSet, kSet2, s_ife, s_ret, kRt, s_retv, ev_bin, kBin, kBin0, kBin1, kBin2, ev_cmp, kCmp, kCmp0, kCmp1, kCmp2, kBo, ev_idx, kIdx, kIdx0, kIdx1, kD1, ev_cst, ev_var, ev_lst, kLst, evDs_nil, ev_blt, kBlt, kBlt1, ev_and, opB_s, opB_idx, opB_cst, opB_bin, opB_lst, opB_blt, hasS_0, hasS_s, rdB_s, rdB_v, rdO_d, rdO_l, rdVO_d, slot_0, slot_s, kTD_d, kTD_l, kTB_b, kV, R.bind_ok, R.st_ok, optR_some, List.set_cons_zero, List.set_cons_succ, Option.isSome_some, putSlot, i4_0, i4_1, i4_2, i4_3, st4_1, st4_2, st4_3, b_add, c_gt, c_ge, c_le, ev_call, evAs_pass, evAs_nil, kAs, kAs1, kConsO, kGv, gvO_some, pass_d, tb_t, tb_f, tb_end, slot_set0, ev_lc, evI_rng1, kRng1, evI_seq, kSeq, kDs, kCons, evDs_cons, opB_lc, opB_call, len_list, ev_mth, kMth1, kdB_s, kdB_v, opB_mth, ev_slh, kSlh, kSlh1, kSlh2, kSlh3, ev_sll, kSll, kSll1, kSll2, kSll3, asInt_int, slD_tup, slD_list, ev_neg, kNeg_int, ev_lls0, kApp, kAppl, kApp2, kExt, ev_blts, kBlts, s_tasg, kTasg, s_pass, s_expr, kExpr, opB_slh, opB_sll, opB_neg, opB_blts, opB_tup, ev_tup, kTup, rdVO_l, rdVO_k, rdVO_ll, rdO_k, items_list, list_list, list_tup, kIf_f]
      exact ⟨v, p + 1, q, v0, v1, by omega, ev⟩
theorem feed_run {P : Prog} {fu k f : Nat} (hf : P.fns[f]? = some gFeed) (ns : List Int) (h : ns.length ≤ 63) : callF P fu (k + 1) f [.s ns] = .ok (fd ns 0 0 0) [some (.s ns)] := by
  rw [run_at (np := 1) (b := gFeed.body) (Γ := [some (.s ns)]) hf rfl rfl rfl rfl]
  generalize P.ctx fu (callF P fu k) = X
  have ed : ∀ Γ, kDct [.str "cells", .list (ns.map .int), .str "at", .int 0, .str "left", .int 0, .str "turn", .int 0] Γ = .ok (.k (fdK ns 0 0 0)) Γ := fun _ => rfl
  simp only [gFeed]
  rw [ss_cons, s_ret, ev_dct]
  simp only [ss_nil, seq_nx, seq_rt, s_asg, kAsg, s_set, kSet, kSet2, s_ife, s_ret, kRt, s_retv, ev_bin, kBin, kBin0, kBin1, kBin2, ev_cmp, kCmp, kCmp0, kCmp1, kCmp2, kBo, ev_idx, kIdx, kIdx0, kIdx1, kD1, ev_cst, ev_var, ev_lst, kLst, evDs_nil, ev_blt, kBlt, kBlt1, ev_and, opB_s, opB_idx, opB_cst, opB_bin, opB_lst, opB_blt, hasS_0, hasS_s, rdB_s, rdB_v, rdO_d, rdO_l, rdVO_d, slot_0, slot_s, kTD_d, kTD_l, kTB_b, kV, R.bind_ok, R.st_ok, optR_some, List.set_cons_zero, List.set_cons_succ, Option.isSome_some, putSlot, i4_0, i4_1, i4_2, i4_3, st4_1, st4_2, st4_3, b_add, c_gt, c_ge, c_le, ev_call, evAs_pass, evAs_nil, kAs, kAs1, kConsO, kGv, gvO_some, pass_d, tb_t, tb_f, tb_end, slot_set0, ev_lc, evI_rng1, kRng1, evI_seq, kSeq, kDs, kCons, evDs_cons, opB_lc, opB_call, len_list, ev_mth, kMth1, kdB_s, kdB_v, opB_mth, ev_slh, kSlh, kSlh1, kSlh2, kSlh3, ev_sll, kSll, kSll1, kSll2, kSll3, asInt_int, slD_tup, slD_list, ev_neg, kNeg_int, ev_lls0, kApp, kAppl, kApp2, kExt, ev_blts, kBlts, s_tasg, kTasg, s_pass, s_expr, kExpr, opB_slh, opB_sll, opB_neg, opB_blts, opB_tup, ev_tup, kTup, rdVO_l, rdVO_k, rdVO_ll, rdO_k, items_list, list_list, list_tup]
  rw [ev_scut _ (ns := ns) rfl, cut63 ns h]
  simp only [ss_nil, seq_nx, seq_rt, s_asg, kAsg, s_set, kSet, kSet2, s_ife, s_ret, kRt, s_retv, ev_bin, kBin, kBin0, kBin1, kBin2, ev_cmp, kCmp, kCmp0, kCmp1, kCmp2, kBo, ev_idx, kIdx, kIdx0, kIdx1, kD1, ev_cst, ev_var, ev_lst, kLst, evDs_nil, ev_blt, kBlt, kBlt1, ev_and, opB_s, opB_idx, opB_cst, opB_bin, opB_lst, opB_blt, hasS_0, hasS_s, rdB_s, rdB_v, rdO_d, rdO_l, rdVO_d, slot_0, slot_s, kTD_d, kTD_l, kTB_b, kV, R.bind_ok, R.st_ok, optR_some, List.set_cons_zero, List.set_cons_succ, Option.isSome_some, putSlot, i4_0, i4_1, i4_2, i4_3, st4_1, st4_2, st4_3, b_add, c_gt, c_ge, c_le, ev_call, evAs_pass, evAs_nil, kAs, kAs1, kConsO, kGv, gvO_some, pass_d, tb_t, tb_f, tb_end, slot_set0, ev_lc, evI_rng1, kRng1, evI_seq, kSeq, kDs, kCons, evDs_cons, opB_lc, opB_call, len_list, ev_mth, kMth1, kdB_s, kdB_v, opB_mth, ev_slh, kSlh, kSlh1, kSlh2, kSlh3, ev_sll, kSll, kSll1, kSll2, kSll3, asInt_int, slD_tup, slD_list, ev_neg, kNeg_int, ev_lls0, kApp, kAppl, kApp2, kExt, ev_blts, kBlts, s_tasg, kTasg, s_pass, s_expr, kExpr, opB_slh, opB_sll, opB_neg, opB_blts, opB_tup, ev_tup, kTup, rdVO_l, rdVO_k, rdVO_ll, rdO_k, items_list, list_list, list_tup, ed]
  rfl
end MI

set_option maxRecDepth 100000
/-! LF1: stands of deciders drawn. -/
namespace MI
open PySem
def WL : List Str := ["out", "ask", "close", "look", "holds", "right", "down"]
def gWords : Fn := ⟨0, [], 0, (.cons (.ret (.lst (.cons (.cst (.str "out")) (.cons (.cst (.str "ask")) (.cons (.cst (.str "close")) (.cons (.cst (.str "look")) (.cons (.cst (.str "holds")) (.cons (.cst (.str "right")) (.cons (.cst (.str "down")) .nil)))))))))
  .nil)⟩
def gStand (d w : Nat) : Fn := ⟨2, [true, false], 5, (.cons (.asg 2 (.idx (.lst (.cons (.cst (.none)) (.cons (.call d (.cons (.var 0) (.cons (.var 1) .nil))) (.cons (.call d (.cons (.var 0) (.cons (.var 1) .nil))) .nil)))) (.call d (.cons (.var 0) (.cons (.cst (.int 3)) .nil)))))
  (.cons (.asg 3 (.blt .tuple (.lc [4] (.nm 4) (.rng1 (.var 1)) (.cst (.bool true)) (.idx (.call w .nil) (.call d (.cons (.var 0) (.cons (.cst (.int 7)) .nil)))))))
  (.cons (.ret (.tup (.cons (.var 2) (.cons (.cmp .eq (.call d (.cons (.var 0) (.cons (.cst (.int 2)) .nil))) (.cst (.int 1))) (.cons (.var 3) .nil)))))
  .nil)))⟩
theorem words_run {P : Prog} {fu k f : Nat} (hf : P.fns[f]? = some gWords) : callF P fu (k + 1) f [] = .ok (.l (WL.map .str)) [] := by
  rw [run_at (np := 0) (b := gWords.body) (Γ := []) hf rfl rfl rfl rfl]
  generalize P.ctx fu (callF P fu k) = X
  simp only [gWords]
  rw [ss_cons, s_ret]
  simp only [ss_nil, seq_nx, seq_rt, s_asg, kAsg, s_set, kSet, kSet2, s_ife, s_ret, kRt, s_retv, ev_bin, kBin, kBin0, kBin1, kBin2, ev_cmp, kCmp, kCmp0, kCmp1, kCmp2, kBo, ev_idx, kIdx, kIdx0, kIdx1, kD1, ev_cst, ev_var, ev_lst, kLst, evDs_nil, ev_blt, kBlt, kBlt1, ev_and, opB_s, opB_idx, opB_cst, opB_bin, opB_lst, opB_blt, hasS_0, hasS_s, rdB_s, rdB_v, rdO_d, rdO_l, rdVO_d, slot_0, slot_s, kTD_d, kTD_l, kTB_b, kV, R.bind_ok, R.st_ok, optR_some, List.set_cons_zero, List.set_cons_succ, Option.isSome_some, putSlot, i4_0, i4_1, i4_2, i4_3, st4_1, st4_2, st4_3, b_add, c_gt, c_ge, c_le, ev_call, evAs_pass, evAs_nil, kAs, kAs1, kConsO, kGv, gvO_some, pass_d, tb_t, tb_f, tb_end, slot_set0, ev_lc, evI_rng1, kRng1, evI_seq, kSeq, kDs, kCons, evDs_cons, opB_lc, opB_call, len_list, ev_mth, kMth1, kdB_s, kdB_v, opB_mth, ev_slh, kSlh, kSlh1, kSlh2, kSlh3, ev_sll, kSll, kSll1, kSll2, kSll3, asInt_int, slD_tup, slD_list, ev_neg, kNeg_int, ev_lls0, kApp, kAppl, kApp2, kExt, ev_blts, kBlts, s_tasg, kTasg, s_pass, s_expr, kExpr, opB_slh, opB_sll, opB_neg, opB_blts, opB_tup, ev_tup, kTup, rdVO_l, rdVO_k, rdVO_ll, rdO_k, items_list, list_list, list_tup]
  rfl
theorem wl_at {v : Int} (h0 : 0 ≤ v) (h1 : v < 7) : ∃ w, w ∈ WL ∧ idxD (.list (WL.map .str)) (.int v) = some (.str w) := by
  have ⟨n, en⟩ := Int.eq_ofNat_of_zero_le h0
  subst en
  have hn : n < WL.length := by show n < 7; omega
  refine ⟨WL[n], List.getElem_mem hn, ?_⟩
  show at? (WL.map PyData.str) (n : Int) = _
  unfold at? nix
  rw [List.length_map, if_pos (by omega), if_pos (by show (n : Int) < 7; omega)]
  show (WL.map PyData.str)[(n : Int).toNat]? = _
  rw [Int.toNat_natCast, List.getElem?_map, List.getElem?_eq_getElem hn]
  rfl
/-- a mark: nobody's or a hand's -/
def mkD : Option Int → D
  | none => .none
  | some i => .int i
def stD (mk : Option Int) (c : Bool) (ws : List Str) : D := .tuple [mkD mk, .bool c, .tuple (ws.map .str)]
/-- a stand of m hands -/
structure OkS (m : Int) (mk : Option Int) (ws : List Str) : Prop where
  mark : ∀ i, mk = some i → 0 ≤ i ∧ i < m
  len : (ws.length : Int) = m
  wl : ∀ w ∈ ws, w ∈ WL
theorem c_eqB (a b : Bool) : cop .eq (.bool a) (.bool b) = some (a == b) := by cases a <;> cases b <;> rfl
theorem stand_run {P : Prog} {fu k f d w : Nat} (hf : P.fns[f]? = some (gStand d w)) (hd : P.fns[d]? = some gFDraw) (hw : P.fns[w]? = some gWords) (cs : List Int) (p q t m : Int) (hp : 0 ≤ p) (ht : 0 ≤ t) (ht2 : t < 2 ^ 50) (hm : 1 ≤ m) (hm6 : m ≤ 6) :
    ∃ (mk : Option Int) (c : Bool) (ws : List Str) (p' q' t' : Int), OkS m mk ws ∧ 0 ≤ p' ∧ t ≤ t' ∧ t' ≤ t + 20 ∧ callF P fu (k + 2) f [fd cs p q t, .d (.int m)] = .ok (.d (stD mk c ws)) [some (fd cs p' q' t'), some (.d (.int m))] := by
  rw [run_at (np := 2) (b := (gStand d w).body) (Γ := [some (fd cs p q t), some (.d (.int m)), none, none, none]) hf rfl rfl rfl rfl]
  have iD := ctx_io (fu := fu) (cf := callF P fu (k + 1)) hd
  have iW := ctx_io (fu := fu) (cf := callF P fu (k + 1)) hw
  have hC : (P.ctx fu (callF P fu (k + 1))).cf = callF P fu (k + 1) := rfl
  generalize P.ctx fu (callF P fu (k + 1)) = X at iD iW hC ⊢
  obtain ⟨v1, p1, q1, v1a, v1b, hp1, c1⟩ := fdraw_run (fu := fu) (k := k) hd cs p q t m hp ht (by omega) (by omega) (by omega)
  obtain ⟨v2, p2, q2, v2a, v2b, hp2, c2⟩ := fdraw_run (fu := fu) (k := k) hd cs p1 q1 (t + 1) m hp1 (by omega) (by omega) (by omega) (by omega)
  obtain ⟨v3, p3, q3, v3a, v3b, hp3, c3⟩ := fdraw_run (fu := fu) (k := k) hd cs p2 q2 (t + 1 + 1) 3 hp2 (by omega) (by omega) (by omega) (by omega)
  have c0 := words_run (fu := fu) (k := k) hw
  have em : ∃ mk, idxD (.list [.none, .int v1, .int v2]) (.int v3) = some (mkD mk) ∧ ∀ i, mk = some i → 0 ≤ i ∧ i < m := by
    have ⟨n, en⟩ := Int.eq_ofNat_of_zero_le v3a
    subst en
    match n, v3b with
    | 0, _ => exact ⟨none, rfl, fun _ z => by cases z⟩
    | 1, _ => exact ⟨some v1, rfl, fun _ z => by cases z; exact ⟨v1a, v1b⟩⟩
    | 2, _ => exact ⟨some v2, rfl, fun _ z => by cases z; exact ⟨v2a, v2b⟩⟩
    | n + 3, h => omega
  obtain ⟨mk, em, hmk⟩ := em
  have r1 := rng1_ok (m := m) (by omega) (by omega)
  simp only [gStand]
  rw [ss_cons, s_asg]
  simp only [ss_nil, seq_nx, seq_rt, s_asg, kAsg, s_set, kSet, kSet2, s_ife, s_ret, kRt, s_retv, ev_bin, kBin, kBin0, kBin1, kBin2, ev_cmp, kCmp, kCmp0, kCmp1, kCmp2, kBo, ev_idx, kIdx, kIdx0, kIdx1, kD1, ev_cst, ev_var, ev_lst, kLst, evDs_nil, ev_blt, kBlt, kBlt1, ev_and, opB_s, opB_idx, opB_cst, opB_bin, opB_lst, opB_blt, hasS_0, hasS_s, rdB_s, rdB_v, rdO_d, rdO_l, rdVO_d, slot_0, slot_s, kTD_d, kTD_l, kTB_b, kV, R.bind_ok, R.st_ok, optR_some, List.set_cons_zero, List.set_cons_succ, Option.isSome_some, putSlot, i4_0, i4_1, i4_2, i4_3, st4_1, st4_2, st4_3, b_add, c_gt, c_ge, c_le, ev_call, evAs_pass, evAs_nil, kAs, kAs1, kConsO, kGv, gvO_some, pass_d, tb_t, tb_f, tb_end, slot_set0, ev_lc, evI_rng1, kRng1, evI_seq, kSeq, kDs, kCons, evDs_cons, opB_lc, opB_call, len_list, ev_mth, kMth1, kdB_s, kdB_v, opB_mth, ev_slh, kSlh, kSlh1, kSlh2, kSlh3, ev_sll, kSll, kSll1, kSll2, kSll3, asInt_int, slD_tup, slD_list, ev_neg, kNeg_int, ev_lls0, kApp, kAppl, kApp2, kExt, ev_blts, kBlts, s_tasg, kTasg, s_pass, s_expr, kExpr, opB_slh, opB_sll, opB_neg, opB_blts, opB_tup, ev_tup, kTup, rdVO_l, rdVO_k, rdVO_ll, rdO_k, items_list, list_list, list_tup, iD, gFDraw]
  rw [evAs_give _ (o := fd cs p q t) rfl]
  simp only [ss_nil, seq_nx, seq_rt, s_asg, kAsg, s_set, kSet, kSet2, s_ife, s_ret, kRt, s_retv, ev_bin, kBin, kBin0, kBin1, kBin2, ev_cmp, kCmp, kCmp0, kCmp1, kCmp2, kBo, ev_idx, kIdx, kIdx0, kIdx1, kD1, ev_cst, ev_var, ev_lst, kLst, evDs_nil, ev_blt, kBlt, kBlt1, ev_and, opB_s, opB_idx, opB_cst, opB_bin, opB_lst, opB_blt, hasS_0, hasS_s, rdB_s, rdB_v, rdO_d, rdO_l, rdVO_d, slot_0, slot_s, kTD_d, kTD_l, kTB_b, kV, R.bind_ok, R.st_ok, optR_some, List.set_cons_zero, List.set_cons_succ, Option.isSome_some, putSlot, i4_0, i4_1, i4_2, i4_3, st4_1, st4_2, st4_3, b_add, c_gt, c_ge, c_le, ev_call, evAs_pass, evAs_nil, kAs, kAs1, kConsO, kGv, gvO_some, pass_d, tb_t, tb_f, tb_end, slot_set0, ev_lc, evI_rng1, kRng1, evI_seq, kSeq, kDs, kCons, evDs_cons, opB_lc, opB_call, len_list, ev_mth, kMth1, kdB_s, kdB_v, opB_mth, ev_slh, kSlh, kSlh1, kSlh2, kSlh3, ev_sll, kSll, kSll1, kSll2, kSll3, asInt_int, slD_tup, slD_list, ev_neg, kNeg_int, ev_lls0, kApp, kAppl, kApp2, kExt, ev_blts, kBlts, s_tasg, kTasg, s_pass, s_expr, kExpr, opB_slh, opB_sll, opB_neg, opB_blts, opB_tup, ev_tup, kTup, rdVO_l, rdVO_k, rdVO_ll, rdO_k, items_list, list_list, list_tup, iD, gFDraw]
  rw [kCall_ok X (hC ▸ c1)]
  simp only [ss_nil, seq_nx, seq_rt, s_asg, kAsg, s_set, kSet, kSet2, s_ife, s_ret, kRt, s_retv, ev_bin, kBin, kBin0, kBin1, kBin2, ev_cmp, kCmp, kCmp0, kCmp1, kCmp2, kBo, ev_idx, kIdx, kIdx0, kIdx1, kD1, ev_cst, ev_var, ev_lst, kLst, evDs_nil, ev_blt, kBlt, kBlt1, ev_and, opB_s, opB_idx, opB_cst, opB_bin, opB_lst, opB_blt, hasS_0, hasS_s, rdB_s, rdB_v, rdO_d, rdO_l, rdVO_d, slot_0, slot_s, kTD_d, kTD_l, kTB_b, kV, R.bind_ok, R.st_ok, optR_some, List.set_cons_zero, List.set_cons_succ, Option.isSome_some, putSlot, i4_0, i4_1, i4_2, i4_3, st4_1, st4_2, st4_3, b_add, c_gt, c_ge, c_le, ev_call, evAs_pass, evAs_nil, kAs, kAs1, kConsO, kGv, gvO_some, pass_d, tb_t, tb_f, tb_end, slot_set0, ev_lc, evI_rng1, kRng1, evI_seq, kSeq, kDs, kCons, evDs_cons, opB_lc, opB_call, len_list, ev_mth, kMth1, kdB_s, kdB_v, opB_mth, ev_slh, kSlh, kSlh1, kSlh2, kSlh3, ev_sll, kSll, kSll1, kSll2, kSll3, asInt_int, slD_tup, slD_list, ev_neg, kNeg_int, ev_lls0, kApp, kAppl, kApp2, kExt, ev_blts, kBlts, s_tasg, kTasg, s_pass, s_expr, kExpr, opB_slh, opB_sll, opB_neg, opB_blts, opB_tup, ev_tup, kTup, rdVO_l, rdVO_k, rdVO_ll, rdO_k, items_list, list_list, list_tup, iD, gFDraw]
  rw [evAs_give _ (o := fd cs p1 q1 (t + 1)) rfl]
  simp only [ss_nil, seq_nx, seq_rt, s_asg, kAsg, s_set, kSet, kSet2, s_ife, s_ret, kRt, s_retv, ev_bin, kBin, kBin0, kBin1, kBin2, ev_cmp, kCmp, kCmp0, kCmp1, kCmp2, kBo, ev_idx, kIdx, kIdx0, kIdx1, kD1, ev_cst, ev_var, ev_lst, kLst, evDs_nil, ev_blt, kBlt, kBlt1, ev_and, opB_s, opB_idx, opB_cst, opB_bin, opB_lst, opB_blt, hasS_0, hasS_s, rdB_s, rdB_v, rdO_d, rdO_l, rdVO_d, slot_0, slot_s, kTD_d, kTD_l, kTB_b, kV, R.bind_ok, R.st_ok, optR_some, List.set_cons_zero, List.set_cons_succ, Option.isSome_some, putSlot, i4_0, i4_1, i4_2, i4_3, st4_1, st4_2, st4_3, b_add, c_gt, c_ge, c_le, ev_call, evAs_pass, evAs_nil, kAs, kAs1, kConsO, kGv, gvO_some, pass_d, tb_t, tb_f, tb_end, slot_set0, ev_lc, evI_rng1, kRng1, evI_seq, kSeq, kDs, kCons, evDs_cons, opB_lc, opB_call, len_list, ev_mth, kMth1, kdB_s, kdB_v, opB_mth, ev_slh, kSlh, kSlh1, kSlh2, kSlh3, ev_sll, kSll, kSll1, kSll2, kSll3, asInt_int, slD_tup, slD_list, ev_neg, kNeg_int, ev_lls0, kApp, kAppl, kApp2, kExt, ev_blts, kBlts, s_tasg, kTasg, s_pass, s_expr, kExpr, opB_slh, opB_sll, opB_neg, opB_blts, opB_tup, ev_tup, kTup, rdVO_l, rdVO_k, rdVO_ll, rdO_k, items_list, list_list, list_tup, iD, gFDraw]
  rw [kCall_ok X (hC ▸ c2)]
  simp only [ss_nil, seq_nx, seq_rt, s_asg, kAsg, s_set, kSet, kSet2, s_ife, s_ret, kRt, s_retv, ev_bin, kBin, kBin0, kBin1, kBin2, ev_cmp, kCmp, kCmp0, kCmp1, kCmp2, kBo, ev_idx, kIdx, kIdx0, kIdx1, kD1, ev_cst, ev_var, ev_lst, kLst, evDs_nil, ev_blt, kBlt, kBlt1, ev_and, opB_s, opB_idx, opB_cst, opB_bin, opB_lst, opB_blt, hasS_0, hasS_s, rdB_s, rdB_v, rdO_d, rdO_l, rdVO_d, slot_0, slot_s, kTD_d, kTD_l, kTB_b, kV, R.bind_ok, R.st_ok, optR_some, List.set_cons_zero, List.set_cons_succ, Option.isSome_some, putSlot, i4_0, i4_1, i4_2, i4_3, st4_1, st4_2, st4_3, b_add, c_gt, c_ge, c_le, ev_call, evAs_pass, evAs_nil, kAs, kAs1, kConsO, kGv, gvO_some, pass_d, tb_t, tb_f, tb_end, slot_set0, ev_lc, evI_rng1, kRng1, evI_seq, kSeq, kDs, kCons, evDs_cons, opB_lc, opB_call, len_list, ev_mth, kMth1, kdB_s, kdB_v, opB_mth, ev_slh, kSlh, kSlh1, kSlh2, kSlh3, ev_sll, kSll, kSll1, kSll2, kSll3, asInt_int, slD_tup, slD_list, ev_neg, kNeg_int, ev_lls0, kApp, kAppl, kApp2, kExt, ev_blts, kBlts, s_tasg, kTasg, s_pass, s_expr, kExpr, opB_slh, opB_sll, opB_neg, opB_blts, opB_tup, ev_tup, kTup, rdVO_l, rdVO_k, rdVO_ll, rdO_k, items_list, list_list, list_tup, iD, gFDraw]
  rw [evAs_give _ (o := fd cs p2 q2 (t + 1 + 1)) rfl]
  simp only [ss_nil, seq_nx, seq_rt, s_asg, kAsg, s_set, kSet, kSet2, s_ife, s_ret, kRt, s_retv, ev_bin, kBin, kBin0, kBin1, kBin2, ev_cmp, kCmp, kCmp0, kCmp1, kCmp2, kBo, ev_idx, kIdx, kIdx0, kIdx1, kD1, ev_cst, ev_var, ev_lst, kLst, evDs_nil, ev_blt, kBlt, kBlt1, ev_and, opB_s, opB_idx, opB_cst, opB_bin, opB_lst, opB_blt, hasS_0, hasS_s, rdB_s, rdB_v, rdO_d, rdO_l, rdVO_d, slot_0, slot_s, kTD_d, kTD_l, kTB_b, kV, R.bind_ok, R.st_ok, optR_some, List.set_cons_zero, List.set_cons_succ, Option.isSome_some, putSlot, i4_0, i4_1, i4_2, i4_3, st4_1, st4_2, st4_3, b_add, c_gt, c_ge, c_le, ev_call, evAs_pass, evAs_nil, kAs, kAs1, kConsO, kGv, gvO_some, pass_d, tb_t, tb_f, tb_end, slot_set0, ev_lc, evI_rng1, kRng1, evI_seq, kSeq, kDs, kCons, evDs_cons, opB_lc, opB_call, len_list, ev_mth, kMth1, kdB_s, kdB_v, opB_mth, ev_slh, kSlh, kSlh1, kSlh2, kSlh3, ev_sll, kSll, kSll1, kSll2, kSll3, asInt_int, slD_tup, slD_list, ev_neg, kNeg_int, ev_lls0, kApp, kAppl, kApp2, kExt, ev_blts, kBlts, s_tasg, kTasg, s_pass, s_expr, kExpr, opB_slh, opB_sll, opB_neg, opB_blts, opB_tup, ev_tup, kTup, rdVO_l, rdVO_k, rdVO_ll, rdO_k, items_list, list_list, list_tup, iD, gFDraw]
  rw [kCall_ok X (hC ▸ c3)]
  simp only [ss_nil, seq_nx, seq_rt, s_asg, kAsg, s_set, kSet, kSet2, s_ife, s_ret, kRt, s_retv, ev_bin, kBin, kBin0, kBin1, kBin2, ev_cmp, kCmp, kCmp0, kCmp1, kCmp2, kBo, ev_idx, kIdx, kIdx0, kIdx1, kD1, ev_cst, ev_var, ev_lst, kLst, evDs_nil, ev_blt, kBlt, kBlt1, ev_and, opB_s, opB_idx, opB_cst, opB_bin, opB_lst, opB_blt, hasS_0, hasS_s, rdB_s, rdB_v, rdO_d, rdO_l, rdVO_d, slot_0, slot_s, kTD_d, kTD_l, kTB_b, kV, R.bind_ok, R.st_ok, optR_some, List.set_cons_zero, List.set_cons_succ, Option.isSome_some, putSlot, i4_0, i4_1, i4_2, i4_3, st4_1, st4_2, st4_3, b_add, c_gt, c_ge, c_le, ev_call, evAs_pass, evAs_nil, kAs, kAs1, kConsO, kGv, gvO_some, pass_d, tb_t, tb_f, tb_end, slot_set0, ev_lc, evI_rng1, kRng1, evI_seq, kSeq, kDs, kCons, evDs_cons, opB_lc, opB_call, len_list, ev_mth, kMth1, kdB_s, kdB_v, opB_mth, ev_slh, kSlh, kSlh1, kSlh2, kSlh3, ev_sll, kSll, kSll1, kSll2, kSll3, asInt_int, slD_tup, slD_list, ev_neg, kNeg_int, ev_lls0, kApp, kAppl, kApp2, kExt, ev_blts, kBlts, s_tasg, kTasg, s_pass, s_expr, kExpr, opB_slh, opB_sll, opB_neg, opB_blts, opB_tup, ev_tup, kTup, rdVO_l, rdVO_k, rdVO_ll, rdO_k, items_list, list_list, list_tup, iD, gFDraw, em]
  obtain ⟨ys, Γ2, el, ws, p5, q5, x4, eΓ, hp5, ey, lw, hws⟩ := lcLoop_ok (own := [4]) (t := .nm 4) (c := fun Γ => (evE X (.cst (.bool true)) Γ).toB) (f := fun Γ => (evE X (.idx (.call w .nil) (.call d (.cons (.var 0) (.cons (.cst (.int 7)) .nil)))) Γ).toD)
    (xs := (List.range m.toNat).map fun (k : Nat) => PyData.int k) (Γ := [some (fd cs p3 q3 (t + 1 + 1 + 1)), some (.d (.int m)), some (.d (mkD mk)), none, none])
    (fun i ys Γ => ∃ (ws : List Str) (p5 q5 : Int) (x4 : Option O), Γ = [some (fd cs p5 q5 (t + 1 + 1 + 1 + i)), some (.d (.int m)), some (.d (mkD mk)), none, x4] ∧ 0 ≤ p5 ∧ ys = ws.map .str ∧ ws.length = i ∧ ∀ w ∈ ws, w ∈ WL)
    ⟨[], p3, q3, none, by simp, hp3, rfl, rfl, by simp⟩ (fun i x ys Γ hx h => by
      obtain ⟨ws, p5, q5, x4, rfl, hp5, rfl, lw, hws⟩ := h
      obtain ⟨hi, rfl⟩ := range_at hx
      obtain ⟨v, p6, q6, va, vb, hp6, c6⟩ := fdraw_run (fu := fu) (k := k) hd cs p5 q5 (t + 1 + 1 + 1 + i) 7 hp5 (by omega) (by omega) (by omega) (by omega)
      obtain ⟨u, hu, eu⟩ := wl_at va vb
      refine ⟨[some (fd cs p5 q5 (t + 1 + 1 + 1 + i)), some (.d (.int m)), some (.d (mkD mk)), none, some (.d (.int i))], true, _, rfl, rfl, fun _ => ⟨.str u, [some (fd cs p6 q6 (t + 1 + 1 + 1 + i + 1)), some (.d (.int m)), some (.d (mkD mk)), none, some (.d (.int i))], ?_, ws ++ [u], p6, q6, some (.d (.int i)), ?_, hp6, by simp, by simp [lw], fun w hw => ?_⟩, fun z => by cases z⟩
      · rw [toD_eq]
        simp only [ss_cons, ss_nil, seq_nx, seq_rt, s_asg, kAsg, s_set, kSet, kSet2, s_ife, s_ret, kRt, s_retv, ev_bin, kBin, kBin0, kBin1, kBin2, ev_cmp, kCmp, kCmp0, kCmp1, kCmp2, kBo, ev_idx, kIdx, kIdx0, kIdx1, kD1, ev_cst, ev_var, ev_lst, kLst, evDs_nil, ev_blt, kBlt, kBlt1, ev_and, opB_s, opB_idx, opB_cst, opB_bin, opB_lst, opB_blt, hasS_0, hasS_s, rdB_s, rdB_v, rdO_d, rdO_l, rdVO_d, slot_0, slot_s, kTD_d, kTD_l, kTB_b, kV, R.bind_ok, R.st_ok, optR_some, List.set_cons_zero, List.set_cons_succ, Option.isSome_some, putSlot, i4_0, i4_1, i4_2, i4_3, st4_1, st4_2, st4_3, b_add, c_gt, c_ge, c_le, ev_call, evAs_pass, evAs_nil, kAs, kAs1, kConsO, kGv, gvO_some, pass_d, tb_t, tb_f, tb_end, slot_set0, ev_lc, evI_rng1, kRng1, evI_seq, kSeq, kDs, kCons, evDs_cons, opB_lc, opB_call, len_list, ev_mth, kMth1, kdB_s, kdB_v, opB_mth, ev_slh, kSlh, kSlh1, kSlh2, kSlh3, ev_sll, kSll, kSll1, kSll2, kSll3, asInt_int, slD_tup, slD_list, ev_neg, kNeg_int, ev_lls0, kApp, kAppl, kApp2, kExt, ev_blts, kBlts, s_tasg, kTasg, s_pass, s_expr, kExpr, opB_slh, opB_sll, opB_neg, opB_blts, opB_tup, ev_tup, kTup, rdVO_l, rdVO_k, rdVO_ll, rdO_k, items_list, list_list, list_tup, iW, gWords]
        rw [kCall_ok X (hC ▸ c0)]
        simp only [ss_cons, ss_nil, seq_nx, seq_rt, s_asg, kAsg, s_set, kSet, kSet2, s_ife, s_ret, kRt, s_retv, ev_bin, kBin, kBin0, kBin1, kBin2, ev_cmp, kCmp, kCmp0, kCmp1, kCmp2, kBo, ev_idx, kIdx, kIdx0, kIdx1, kD1, ev_cst, ev_var, ev_lst, kLst, evDs_nil, ev_blt, kBlt, kBlt1, ev_and, opB_s, opB_idx, opB_cst, opB_bin, opB_lst, opB_blt, hasS_0, hasS_s, rdB_s, rdB_v, rdO_d, rdO_l, rdVO_d, slot_0, slot_s, kTD_d, kTD_l, kTB_b, kV, R.bind_ok, R.st_ok, optR_some, List.set_cons_zero, List.set_cons_succ, Option.isSome_some, putSlot, i4_0, i4_1, i4_2, i4_3, st4_1, st4_2, st4_3, b_add, c_gt, c_ge, c_le, ev_call, evAs_pass, evAs_nil, kAs, kAs1, kConsO, kGv, gvO_some, pass_d, tb_t, tb_f, tb_end, slot_set0, ev_lc, evI_rng1, kRng1, evI_seq, kSeq, kDs, kCons, evDs_cons, opB_lc, opB_call, len_list, ev_mth, kMth1, kdB_s, kdB_v, opB_mth, ev_slh, kSlh, kSlh1, kSlh2, kSlh3, ev_sll, kSll, kSll1, kSll2, kSll3, asInt_int, slD_tup, slD_list, ev_neg, kNeg_int, ev_lls0, kApp, kAppl, kApp2, kExt, ev_blts, kBlts, s_tasg, kTasg, s_pass, s_expr, kExpr, opB_slh, opB_sll, opB_neg, opB_blts, opB_tup, ev_tup, kTup, rdVO_l, rdVO_k, rdVO_ll, rdO_k, items_list, list_list, list_tup, iD, gFDraw]
        rw [evAs_give _ (o := fd cs p5 q5 (t + 1 + 1 + 1 + i)) rfl]
        simp only [ss_cons, ss_nil, seq_nx, seq_rt, s_asg, kAsg, s_set, kSet, kSet2, s_ife, s_ret, kRt, s_retv, ev_bin, kBin, kBin0, kBin1, kBin2, ev_cmp, kCmp, kCmp0, kCmp1, kCmp2, kBo, ev_idx, kIdx, kIdx0, kIdx1, kD1, ev_cst, ev_var, ev_lst, kLst, evDs_nil, ev_blt, kBlt, kBlt1, ev_and, opB_s, opB_idx, opB_cst, opB_bin, opB_lst, opB_blt, hasS_0, hasS_s, rdB_s, rdB_v, rdO_d, rdO_l, rdVO_d, slot_0, slot_s, kTD_d, kTD_l, kTB_b, kV, R.bind_ok, R.st_ok, optR_some, List.set_cons_zero, List.set_cons_succ, Option.isSome_some, putSlot, i4_0, i4_1, i4_2, i4_3, st4_1, st4_2, st4_3, b_add, c_gt, c_ge, c_le, ev_call, evAs_pass, evAs_nil, kAs, kAs1, kConsO, kGv, gvO_some, pass_d, tb_t, tb_f, tb_end, slot_set0, ev_lc, evI_rng1, kRng1, evI_seq, kSeq, kDs, kCons, evDs_cons, opB_lc, opB_call, len_list, ev_mth, kMth1, kdB_s, kdB_v, opB_mth, ev_slh, kSlh, kSlh1, kSlh2, kSlh3, ev_sll, kSll, kSll1, kSll2, kSll3, asInt_int, slD_tup, slD_list, ev_neg, kNeg_int, ev_lls0, kApp, kAppl, kApp2, kExt, ev_blts, kBlts, s_tasg, kTasg, s_pass, s_expr, kExpr, opB_slh, opB_sll, opB_neg, opB_blts, opB_tup, ev_tup, kTup, rdVO_l, rdVO_k, rdVO_ll, rdO_k, items_list, list_list, list_tup, iD, gFDraw]
        rw [kCall_ok X (hC ▸ c6)]
        simp only [ss_cons, ss_nil, seq_nx, seq_rt, s_asg, kAsg, s_set, kSet, kSet2, s_ife, s_ret, kRt, s_retv, ev_bin, kBin, kBin0, kBin1, kBin2, ev_cmp, kCmp, kCmp0, kCmp1, kCmp2, kBo, ev_idx, kIdx, kIdx0, kIdx1, kD1, ev_cst, ev_var, ev_lst, kLst, evDs_nil, ev_blt, kBlt, kBlt1, ev_and, opB_s, opB_idx, opB_cst, opB_bin, opB_lst, opB_blt, hasS_0, hasS_s, rdB_s, rdB_v, rdO_d, rdO_l, rdVO_d, slot_0, slot_s, kTD_d, kTD_l, kTB_b, kV, R.bind_ok, R.st_ok, optR_some, List.set_cons_zero, List.set_cons_succ, Option.isSome_some, putSlot, i4_0, i4_1, i4_2, i4_3, st4_1, st4_2, st4_3, b_add, c_gt, c_ge, c_le, ev_call, evAs_pass, evAs_nil, kAs, kAs1, kConsO, kGv, gvO_some, pass_d, tb_t, tb_f, tb_end, slot_set0, ev_lc, evI_rng1, kRng1, evI_seq, kSeq, kDs, kCons, evDs_cons, opB_lc, opB_call, len_list, ev_mth, kMth1, kdB_s, kdB_v, opB_mth, ev_slh, kSlh, kSlh1, kSlh2, kSlh3, ev_sll, kSll, kSll1, kSll2, kSll3, asInt_int, slD_tup, slD_list, ev_neg, kNeg_int, ev_lls0, kApp, kAppl, kApp2, kExt, ev_blts, kBlts, s_tasg, kTasg, s_pass, s_expr, kExpr, opB_slh, opB_sll, opB_neg, opB_blts, opB_tup, ev_tup, kTup, rdVO_l, rdVO_k, rdVO_ll, rdO_k, items_list, list_list, list_tup, iD, gFDraw, eu]
      · rw [show t + 1 + 1 + 1 + (i : Int) + 1 = t + 1 + 1 + 1 + ((i + 1 : Nat) : Int) by omega]
      · obtain hw | hw := List.mem_append.mp hw
        · exact hws w hw
        · rw [List.mem_singleton] at hw
          subst hw
          exact hu)
  rw [ss_cons, s_asg]
  simp only [ss_nil, seq_nx, seq_rt, s_asg, kAsg, s_set, kSet, kSet2, s_ife, s_ret, kRt, s_retv, ev_bin, kBin, kBin0, kBin1, kBin2, ev_cmp, kCmp, kCmp0, kCmp1, kCmp2, kBo, ev_idx, kIdx, kIdx0, kIdx1, kD1, ev_cst, ev_var, ev_lst, kLst, evDs_nil, ev_blt, kBlt, kBlt1, ev_and, opB_s, opB_idx, opB_cst, opB_bin, opB_lst, opB_blt, hasS_0, hasS_s, rdB_s, rdB_v, rdO_d, rdO_l, rdVO_d, slot_0, slot_s, kTD_d, kTD_l, kTB_b, kV, R.bind_ok, R.st_ok, optR_some, List.set_cons_zero, List.set_cons_succ, Option.isSome_some, putSlot, i4_0, i4_1, i4_2, i4_3, st4_1, st4_2, st4_3, b_add, c_gt, c_ge, c_le, ev_call, evAs_pass, evAs_nil, kAs, kAs1, kConsO, kGv, gvO_some, pass_d, tb_t, tb_f, tb_end, slot_set0, ev_lc, evI_rng1, kRng1, evI_seq, kSeq, kDs, kCons, evDs_cons, opB_lc, opB_call, len_list, ev_mth, kMth1, kdB_s, kdB_v, opB_mth, ev_slh, kSlh, kSlh1, kSlh2, kSlh3, ev_sll, kSll, kSll1, kSll2, kSll3, asInt_int, slD_tup, slD_list, ev_neg, kNeg_int, ev_lls0, kApp, kAppl, kApp2, kExt, ev_blts, kBlts, s_tasg, kTasg, s_pass, s_expr, kExpr, opB_slh, opB_sll, opB_neg, opB_blts, opB_tup, ev_tup, kTup, rdVO_l, rdVO_k, rdVO_ll, rdO_k, items_list, list_list, list_tup, r1]
  rw [kLc_ok X el]
  subst ey eΓ
  have hn : ((List.range m.toNat).map fun (k : Nat) => PyData.int k).length = m.toNat := by simp
  rw [hn] at lw ⊢
  have hr : ∀ (a b c e : Option O), restore [a, b, c, none, none] [a, b, c, none, e] [4] = [a, b, c, none, none] := fun _ _ _ _ => rfl
  have hr2 : restore [some (fd cs p3 q3 (t + 1 + 1 + 1)), some (.d (.int m)), some (.d (mkD mk)), none, none] [some (fd cs p5 q5 (t + 1 + 1 + 1 + (m.toNat : Int))), some (.d (.int m)), some (.d (mkD mk)), none, x4] [4] = [some (fd cs p5 q5 (t + 1 + 1 + 1 + (m.toNat : Int))), some (.d (.int m)), some (.d (mkD mk)), none, none] := rfl
  rw [hr2]
  simp only [ss_nil, seq_nx, seq_rt, s_asg, kAsg, s_set, kSet, kSet2, s_ife, s_ret, kRt, s_retv, ev_bin, kBin, kBin0, kBin1, kBin2, ev_cmp, kCmp, kCmp0, kCmp1, kCmp2, kBo, ev_idx, kIdx, kIdx0, kIdx1, kD1, ev_cst, ev_var, ev_lst, kLst, evDs_nil, ev_blt, kBlt, kBlt1, ev_and, opB_s, opB_idx, opB_cst, opB_bin, opB_lst, opB_blt, hasS_0, hasS_s, rdB_s, rdB_v, rdO_d, rdO_l, rdVO_d, slot_0, slot_s, kTD_d, kTD_l, kTB_b, kV, R.bind_ok, R.st_ok, optR_some, List.set_cons_zero, List.set_cons_succ, Option.isSome_some, putSlot, i4_0, i4_1, i4_2, i4_3, st4_1, st4_2, st4_3, b_add, c_gt, c_ge, c_le, ev_call, evAs_pass, evAs_nil, kAs, kAs1, kConsO, kGv, gvO_some, pass_d, tb_t, tb_f, tb_end, slot_set0, ev_lc, evI_rng1, kRng1, evI_seq, kSeq, kDs, kCons, evDs_cons, opB_lc, opB_call, len_list, ev_mth, kMth1, kdB_s, kdB_v, opB_mth, ev_slh, kSlh, kSlh1, kSlh2, kSlh3, ev_sll, kSll, kSll1, kSll2, kSll3, asInt_int, slD_tup, slD_list, ev_neg, kNeg_int, ev_lls0, kApp, kAppl, kApp2, kExt, ev_blts, kBlts, s_tasg, kTasg, s_pass, s_expr, kExpr, opB_slh, opB_sll, opB_neg, opB_blts, opB_tup, ev_tup, kTup, rdVO_l, rdVO_k, rdVO_ll, rdO_k, items_list, list_list, list_tup, tuple_list]
  obtain ⟨v7, p7, q7, v7a, v7b, hp7, c7⟩ := fdraw_run (fu := fu) (k := k) hd cs p5 q5 (t + 1 + 1 + 1 + (m.toNat : Int)) 2 hp5 (by omega) (by omega) (by omega) (by omega)
  rw [ss_cons, s_ret]
  simp only [ss_nil, seq_nx, seq_rt, s_asg, kAsg, s_set, kSet, kSet2, s_ife, s_ret, kRt, s_retv, ev_bin, kBin, kBin0, kBin1, kBin2, ev_cmp, kCmp, kCmp0, kCmp1, kCmp2, kBo, ev_idx, kIdx, kIdx0, kIdx1, kD1, ev_cst, ev_var, ev_lst, kLst, evDs_nil, ev_blt, kBlt, kBlt1, ev_and, opB_s, opB_idx, opB_cst, opB_bin, opB_lst, opB_blt, hasS_0, hasS_s, rdB_s, rdB_v, rdO_d, rdO_l, rdVO_d, slot_0, slot_s, kTD_d, kTD_l, kTB_b, kV, R.bind_ok, R.st_ok, optR_some, List.set_cons_zero, List.set_cons_succ, Option.isSome_some, putSlot, i4_0, i4_1, i4_2, i4_3, st4_1, st4_2, st4_3, b_add, c_gt, c_ge, c_le, ev_call, evAs_pass, evAs_nil, kAs, kAs1, kConsO, kGv, gvO_some, pass_d, tb_t, tb_f, tb_end, slot_set0, ev_lc, evI_rng1, kRng1, evI_seq, kSeq, kDs, kCons, evDs_cons, opB_lc, opB_call, len_list, ev_mth, kMth1, kdB_s, kdB_v, opB_mth, ev_slh, kSlh, kSlh1, kSlh2, kSlh3, ev_sll, kSll, kSll1, kSll2, kSll3, asInt_int, slD_tup, slD_list, ev_neg, kNeg_int, ev_lls0, kApp, kAppl, kApp2, kExt, ev_blts, kBlts, s_tasg, kTasg, s_pass, s_expr, kExpr, opB_slh, opB_sll, opB_neg, opB_blts, opB_tup, ev_tup, kTup, rdVO_l, rdVO_k, rdVO_ll, rdO_k, items_list, list_list, list_tup, iD, gFDraw]
  rw [evAs_give _ (o := fd cs p5 q5 (t + 1 + 1 + 1 + (m.toNat : Int))) rfl]
  simp only [ss_nil, seq_nx, seq_rt, s_asg, kAsg, s_set, kSet, kSet2, s_ife, s_ret, kRt, s_retv, ev_bin, kBin, kBin0, kBin1, kBin2, ev_cmp, kCmp, kCmp0, kCmp1, kCmp2, kBo, ev_idx, kIdx, kIdx0, kIdx1, kD1, ev_cst, ev_var, ev_lst, kLst, evDs_nil, ev_blt, kBlt, kBlt1, ev_and, opB_s, opB_idx, opB_cst, opB_bin, opB_lst, opB_blt, hasS_0, hasS_s, rdB_s, rdB_v, rdO_d, rdO_l, rdVO_d, slot_0, slot_s, kTD_d, kTD_l, kTB_b, kV, R.bind_ok, R.st_ok, optR_some, List.set_cons_zero, List.set_cons_succ, Option.isSome_some, putSlot, i4_0, i4_1, i4_2, i4_3, st4_1, st4_2, st4_3, b_add, c_gt, c_ge, c_le, ev_call, evAs_pass, evAs_nil, kAs, kAs1, kConsO, kGv, gvO_some, pass_d, tb_t, tb_f, tb_end, slot_set0, ev_lc, evI_rng1, kRng1, evI_seq, kSeq, kDs, kCons, evDs_cons, opB_lc, opB_call, len_list, ev_mth, kMth1, kdB_s, kdB_v, opB_mth, ev_slh, kSlh, kSlh1, kSlh2, kSlh3, ev_sll, kSll, kSll1, kSll2, kSll3, asInt_int, slD_tup, slD_list, ev_neg, kNeg_int, ev_lls0, kApp, kAppl, kApp2, kExt, ev_blts, kBlts, s_tasg, kTasg, s_pass, s_expr, kExpr, opB_slh, opB_sll, opB_neg, opB_blts, opB_tup, ev_tup, kTup, rdVO_l, rdVO_k, rdVO_ll, rdO_k, items_list, list_list, list_tup, iD, gFDraw]
  rw [kCall_ok X (hC ▸ c7)]
  simp only [ss_nil, seq_nx, seq_rt, s_asg, kAsg, s_set, kSet, kSet2, s_ife, s_ret, kRt, s_retv, ev_bin, kBin, kBin0, kBin1, kBin2, ev_cmp, kCmp, kCmp0, kCmp1, kCmp2, kBo, ev_idx, kIdx, kIdx0, kIdx1, kD1, ev_cst, ev_var, ev_lst, kLst, evDs_nil, ev_blt, kBlt, kBlt1, ev_and, opB_s, opB_idx, opB_cst, opB_bin, opB_lst, opB_blt, hasS_0, hasS_s, rdB_s, rdB_v, rdO_d, rdO_l, rdVO_d, slot_0, slot_s, kTD_d, kTD_l, kTB_b, kV, R.bind_ok, R.st_ok, optR_some, List.set_cons_zero, List.set_cons_succ, Option.isSome_some, putSlot, i4_0, i4_1, i4_2, i4_3, st4_1, st4_2, st4_3, b_add, c_gt, c_ge, c_le, ev_call, evAs_pass, evAs_nil, kAs, kAs1, kConsO, kGv, gvO_some, pass_d, tb_t, tb_f, tb_end, slot_set0, ev_lc, evI_rng1, kRng1, evI_seq, kSeq, kDs, kCons, evDs_cons, opB_lc, opB_call, len_list, ev_mth, kMth1, kdB_s, kdB_v, opB_mth, ev_slh, kSlh, kSlh1, kSlh2, kSlh3, ev_sll, kSll, kSll1, kSll2, kSll3, asInt_int, slD_tup, slD_list, ev_neg, kNeg_int, ev_lls0, kApp, kAppl, kApp2, kExt, ev_blts, kBlts, s_tasg, kTasg, s_pass, s_expr, kExpr, opB_slh, opB_sll, opB_neg, opB_blts, opB_tup, ev_tup, kTup, rdVO_l, rdVO_k, rdVO_ll, rdO_k, items_list, list_list, list_tup, iD, gFDraw, c_eqI]
  exact ⟨mk, v7 == 1, ws, p7, q7, _, ⟨hmk, by omega, hws⟩, hp7, by omega, by omega, rfl⟩
end MI

set_option maxRecDepth 100000
/-! KG: things of data, shared. -/
namespace MI
open PySem
theorem layB {α : Type} (f : α → Bool) (l : List α) : SeqAt.shaped (.list (l.map fun a => .bool (f a))) = true := by
  have h : Us 0 (l.map fun a => PyData.bool (f a)).length 0 (l.map fun a => .bool (f a)) := by
    induction l with
    | nil => exact .nil
    | cons a l ih =>
      have := (Us.one (N := 0) (w := 0) (k := 0) (.bool (f a))).app ih
      rw [List.map_cons, List.length_cons, Nat.add_comm]
      simpa using this
  exact ((Ux.lst_iff.mpr h).fit (by decide +kernel)).shaped (by decide)
theorem notinB {α : Type} (f : α → Bool) (l : List α) : cop .notin (.bool false) (.list (l.map fun a => .bool (f a))) = some (l.all f) := by
  show (if SeqAt.shaped (.bool false) && SeqAt.shaped (.list (l.map fun a => .bool (f a))) then some ((l.map fun a => PyData.bool (f a)).any fun z => PyData.eqv z (.bool false)) else none).map (!·) = _
  rw [layB]
  show some (!(l.map fun a => PyData.bool (f a)).any fun z => PyData.eqv z (.bool false)) = _
  congr 1
  induction l with
  | nil => rfl
  | cons a l ih =>
    rw [List.map_cons, List.any_cons, List.all_cons, ← ih]
    show (!((f a == false) || _)) = _
    cases f a <;> rfl
theorem boolsM {α : Type} (f : α → Bool) (l : List α) : bools (l.map fun a => .bool (f a)) = some (l.map f) := by
  induction l with
  | nil => rfl
  | cons a l ih => rw [List.map_cons, bools, ih]; rfl
theorem allB {α : Type} (f : α → Bool) (l : List α) : blt .all [.list (l.map fun a => .bool (f a))] = some (.d (.bool (l.all f))) := by
  show (bools (l.map fun a => .bool (f a))).map _ = _
  rw [boolsM]
  show some (O.d (.bool ((l.map f).all id))) = _
  rw [List.all_map]
  rfl
theorem anyB {α : Type} (f : α → Bool) (l : List α) : blt .any [.list (l.map fun a => .bool (f a))] = some (.d (.bool (l.any f))) := by
  show (bools (l.map fun a => .bool (f a))).map _ = _
  rw [boolsM]
  show some (O.d (.bool ((l.map f).any id))) = _
  rw [List.any_map]
  rfl
theorem i3_0 (a b c : D) : idxD (.tuple [a, b, c]) (.int 0) = some a := rfl
theorem i3_1 (a b c : D) : idxD (.tuple [a, b, c]) (.int 1) = some b := rfl
theorem i3_2 (a b c : D) : idxD (.tuple [a, b, c]) (.int 2) = some c := rfl
theorem len3 (a b c : D) : (([a, b, c].length : Nat) : Int) = 3 := rfl
theorem ty_tt (xs : List D) : isTyB .tuple (.tuple xs) = true := rfl
theorem pick {P : D → Prop} {xs : List D} (h : ∀ x ∈ xs, P x) {v : Int} (h0 : 0 ≤ v) (h1 : v < (xs.length : Int)) : ∃ x, idxD (.list xs) (.int v) = some x ∧ P x := by
  have ⟨n, en⟩ := Int.eq_ofNat_of_zero_le h0
  subst en
  have hn : n < xs.length := by omega
  refine ⟨xs[n], ?_, h _ (List.getElem_mem hn)⟩
  show at? xs (n : Int) = _
  unfold at? nix
  rw [if_pos (by omega), if_pos h1]
  show xs[(n : Int).toNat]? = _
  rw [Int.toNat_natCast, List.getElem?_eq_getElem hn]
theorem pickT {P : D → Prop} {xs : List D} (h : ∀ x ∈ xs, P x) {v : Int} (h0 : 0 ≤ v) (h1 : v < (xs.length : Int)) : ∃ x, idxD (.tuple xs) (.int v) = some x ∧ P x := pick h h0 h1
theorem pow39 : bop .pow (.int 10) (.int 39) = some (.d (.int (10 ^ 39))) := rfl
theorem b_addT {xs ys : List D} (h : xs.length + ys.length ≤ lim) : bop .add (.tuple xs) (.tuple ys) = some (.d (.tuple (xs ++ ys))) := by
  show (if xs.length + ys.length ≤ lim then _ else _) = _
  rw [if_pos h]
theorem revT (xs : List D) : revD (.tuple xs) = some (.d (.tuple xs.reverse)) := rfl
theorem len_one (x : D) : ([x] : List D).length = 1 := rfl
theorem cutTo {xs : List D} {n : Nat} (h : n ≤ xs.length) : cut xs none (some (n : Int)) = xs.take n := by
  have e1 : six xs.length 0 none = 0 := rfl
  have e2 : six xs.length xs.length (some (n : Int)) = n := by
    show (if (n : Int) < 0 then max ((n : Int) + (xs.length : Int)) 0 else min (n : Int) (xs.length : Int)).toNat = _
    rw [if_neg (by omega)]
    omega
  unfold cut
  rw [e1, e2, List.drop_zero, Nat.sub_zero]
theorem cutFrom {xs : List D} {n : Nat} (h : n ≤ xs.length) : cut xs (some (n : Int)) none = xs.drop n := by
  have e1 : six xs.length xs.length none = xs.length := rfl
  have e2 : six xs.length 0 (some (n : Int)) = n := by
    show (if (n : Int) < 0 then max ((n : Int) + (xs.length : Int)) 0 else min (n : Int) (xs.length : Int)).toNat = _
    rw [if_neg (by omega)]
    omega
  unfold cut
  rw [e1, e2, List.take_of_length_le]
  rw [List.length_drop]
  exact Nat.le_refl _
theorem at_nat {xs : List D} {n : Nat} (h : n < xs.length) : idxD (.tuple xs) (.int (n : Int)) = some xs[n] := by
  show at? xs (n : Int) = _
  unfold at? nix
  rw [if_pos (by omega)]
  rw [if_pos (by omega)]
  show xs[(n : Int).toNat]? = _
  rw [Int.toNat_natCast, List.getElem?_eq_getElem h]
theorem ne_tup0 {xs : List D} (h : SeqAt.shaped (.tuple xs) = true) : cop .ne (.tuple xs) (.tuple []) = some (!xs.isEmpty) := by
  show (if SeqAt.shaped (.tuple xs) && SeqAt.shaped (.tuple []) then some (PyData.eqv (.tuple xs) (.tuple [])) else none).map (!·) = _
  have e : SeqAt.shaped (.tuple []) = true := rfl
  rw [h, e]
  cases xs <;> rfl
end MI

set_option maxRecDepth 100000
/-! KD0: words, stands of deciders and their steps, typed. -/
namespace MI
open PySem
inductive W where
  | out | ask | close | look | holds | right | down
  deriving DecidableEq, Repr
def W.s : W → Str
  | .out => "out" | .ask => "ask" | .close => "close" | .look => "look" | .holds => "holds" | .right => "right" | .down => "down"
abbrev W.d (w : W) : D := .str w.s
theorem W.of {x : Str} (h : x ∈ WL) : ∃ w : W, x = w.s := by
  simp only [WL, List.mem_cons, List.not_mem_nil, or_false] at h
  rcases h with rfl | rfl | rfl | rfl | rfl | rfl | rfl
  · exact ⟨.out, rfl⟩
  · exact ⟨.ask, rfl⟩
  · exact ⟨.close, rfl⟩
  · exact ⟨.look, rfl⟩
  · exact ⟨.holds, rfl⟩
  · exact ⟨.right, rfl⟩
  · exact ⟨.down, rfl⟩
theorem W.eq (a b : W) : cop .eq (.str a.s) (.str b.s) = some (decide (a = b)) := by cases a <;> cases b <;> rfl
/-- comparisons with a written word -/
theorem w_out (a : W) : cop .eq (.str a.s) (.str "out") = some (decide (a = .out)) := a.eq .out
theorem w_ask (a : W) : cop .eq (.str a.s) (.str "ask") = some (decide (a = .ask)) := a.eq .ask
theorem w_close (a : W) : cop .eq (.str a.s) (.str "close") = some (decide (a = .close)) := a.eq .close
theorem w_look (a : W) : cop .eq (.str a.s) (.str "look") = some (decide (a = .look)) := a.eq .look
theorem w_holds (a : W) : cop .eq (.str a.s) (.str "holds") = some (decide (a = .holds)) := a.eq .holds
theorem w_right (a : W) : cop .eq (.str a.s) (.str "right") = some (decide (a = .right)) := a.eq .right
theorem w_down (a : W) : cop .eq (.str a.s) (.str "down") = some (decide (a = .down)) := a.eq .down
/-- a mark -/
def nkD : Option Nat → D
  | none => .none
  | some i => .int i
theorem nk_some (i : Nat) : nkD (some i) = .int i := rfl
theorem nk_none : nkD none = .none := rfl
theorem nk_eq (mk : Option Nat) (h : Nat) : cop .eq (nkD mk) (.int h) = some (decide (mk = some h)) := by
  cases mk with
  | none => rfl
  | some i =>
    show some ((i : Int) == (h : Int)) = _
    congr 1
    by_cases e : i = h
    · subst e; simp
    · have : ¬ (i : Int) = (h : Int) := by omega
      simp [e, this]
theorem nk_is (mk : Option Nat) : cop .is (nkD mk) .none = some (decide (mk = none)) := by cases mk <;> rfl
theorem nk_isnt (mk : Option Nat) : cop .isnt (nkD mk) .none = some (!decide (mk = none)) := by cases mk <;> rfl
/-- a row of words -/
def wsD (ws : List W) : List D := ws.map fun w => .str w.s
theorem wsD_len (ws : List W) : (wsD ws).length = ws.length := List.length_map ..
/-- a stand of a decider -/
structure Sd where
  mark : Option Nat
  cl : Bool
  ws : List W
  deriving DecidableEq, Repr
def Sd.d (s : Sd) : D := .tuple [nkD s.mark, .bool s.cl, .tuple (wsD s.ws)]
structure Sd.Ok (m : Nat) (s : Sd) : Prop where
  len : s.ws.length = m
  lt : ∀ i, s.mark = some i → i < m
/-- a hand's word, its mark and shutter behind a step -/
def behW (mk : Option Nat) (c : Bool) (h : Nat) : W → Option (Option Nat × Bool × W)
  | .out => some (some h, c, .ask)
  | .ask => some (mk, c, if c then .right else .close)
  | .close => some (mk, true, .look)
  | .look => some (mk, c, if mk = some h then .holds else .down)
  | _ => none
def bwD : Option (Option Nat × Bool × W) → D
  | none => .none
  | some (mk, c, w) => .tuple [nkD mk, .bool c, .str w.s]
def Sd.step (s : Sd) (h : Nat) : Option Sd := match s.ws[h]? with
  | some w => (match behW s.mark s.cl h w with
    | some (z, c, w') => some ⟨z, c, s.ws.set h w'⟩
    | none => none)
  | none => none
theorem behind_word_run {fu k : Nat} (hk : 1 ≤ k) (mk : Option Nat) (c : Bool) (w : W) (h : Nat) : ∃ outs, callF prog fu k 13 [.d (nkD mk), .d (.bool c), .d (.str w.s), .d (.int h)] = .ok (.d (bwD (behW mk c h w))) outs := by
  obtain ⟨k, rfl⟩ : ∃ j, k = j + 1 := ⟨k - 1, by omega⟩
  rw [run_at (np := 4) (b := fn_behind_word.body) (Γ := [some (.d (nkD mk)), some (.d (.bool c)), some (.d (.str w.s)), some (.d (.int h))]) (fn := fn_behind_word) rfl rfl rfl rfl rfl]
  simp only [fn_behind_word]
  cases w
  · simp only [ss_cons, ss_nil, seq_nx, seq_rt, s_asg, kAsg, s_set, kSet2, s_ife, s_ret, kRt, ev_bin, kBin, kBin0, kBin1, kBin2, ev_cmp, kCmp, kCmp0, kCmp1, kCmp2, kBo, ev_idx, kIdx, kIdx0, kIdx1, kD1, ev_cst, ev_var, ev_lst, kLst, evDs_nil, ev_blt, kBlt, kBlt1, ev_and, opB_s, opB_idx, opB_cst, opB_bin, opB_lst, opB_blt, hasS_0, hasS_s, rdB_s, rdB_v, rdO_d, rdO_l, rdVO_d, slot_0, slot_s, kTD_d, kTD_l, kTB_b, kV, R.bind_ok, R.st_ok, optR_some, List.set_cons_zero, List.set_cons_succ, Option.isSome_some, i4_0, i4_1, i4_2, i4_3, st4_1, st4_2, st4_3, b_add, c_gt, c_ge, c_le, ev_call, evAs_pass, evAs_nil, kAs, kAs1, kConsO, kGv, gvO_some, pass_d, tb_t, tb_f, tb_end, slot_set0, ev_lc, evI_rng1, kRng1, evI_seq, kSeq, kDs, kCons, evDs_cons, opB_lc, opB_call, len_list, ev_mth, kMth1, kdB_s, kdB_v, opB_mth, ev_slh, kSlh, kSlh1, kSlh2, kSlh3, ev_sll, kSll, kSll1, kSll2, kSll3, asInt_int, slD_tup, slD_list, ev_neg, kNeg_int, ev_lls0, kApp, kAppl, kApp2, kExt, ev_blts, kBlts, s_tasg, kTasg, s_pass, s_expr, kExpr, opB_slh, opB_sll, opB_neg, opB_blts, opB_tup, ev_tup, kTup, rdVO_l, rdVO_k, rdVO_ll, rdO_k, items_list, list_list, list_tup, ev_isi, kIsi, kIsi1, ev_chain, kCh0, kCh1, kCh3, opB_isi, opB_glob, opB_chain, opB_not, opB_and, opB_or, opB_rev, kRev, kRev1, ev_rev, ev_not, kNot, ev_or, isTy_some, kAnd_t, kAnd_f, kOr_t, kOr_f, kIf_t, kIf_f, Bool.not_true, Bool.not_false, kCh2_t, kCh2_f, c_lt, c_eqI, c_neI, len_tup, items_tup, tuple_list, beq_self_eq_true, kCall_eq, kRes_ok, kRes_exc, evAs_t, kAsT_some, pass_k, pass_ll, pass_x, pass_l, pass_s, ev_pop, kPopE, kPop1, kPop0, ev_popA, kPopA_t, isL_l, isLL_l, isLL_ll, ev_lln, ev_slb, kSlb, kSlb1, kSlb2, kSlb3, kSlb4, kSlb5, evI_keys, kKeys_d, evI_items, kItems_d, evI_enum, kEnum_l, kEnum_t, evI_zip, kZip, kZip1_tt, kZip1_ll, evI_rng2, kRng2, kRng2b, evI_rng3, kRng3, kRng3b, kRng3c, s_appC, kAppC_t, s_applC, kApplC_t, s_extC, kExtC_t, s_insC, kInsC_t, kIns1, kIns2, s_revs, kRevs_l, s_clr, kClr_l, kClr_k, s_par, kParS, s_brk, s_cont, s_retn, s_raise, s_try, s_whl, s_rv, kRetv_s, kSet_eq, kSetC_t, putSlot_s, seq_bk, seq_ct, seq_exc, tryE_nx, tryE_rt, fin_r, fin_n, fin_e, raise_step, raise_paper, raise_stand, raise_many, raise_type, opS_some, asg_tp, setAll_nil, setAll_cons, ctx_cf, ctx_gl, tb_1, tb_2, tb_3, tb_4, tb_5, tb_nil, ev_ite, kIte_t, kIte_f, kMth_eq, kMthK_t, kMth2_eq, kMth2C_t, kdS_d, kdS_l, kdS_k, kd_lst, kd_tup, kd_dct, kd_str, on_1, on_2, on_3, on_4, on_5, on_6, on_7, on_8, on_9, on_10, on_11, eq_self, decide_true, kTD_k, kTD_ll, b_sub, isN_int, isN_bool, isN_str, isN_tup, isN_lst, isN_dct, isN_non, inN_int, inN_bool, inN_str, inN_tup, inN_lst, inN_dct, inN_non, isT_true, inT_true, isT_false, inT_false, opB_cmp, opB_ite, opB_dct, opB_pop, opB_popat, opB_isx, opB_att, opB_slb, ev_dct, rdVO_s, R.bind_exc, R.st_exc, List.take_succ_cons, List.take_zero, w_out, decide_true]
    exact ⟨_, rfl⟩
  · simp only [ss_cons, ss_nil, seq_nx, seq_rt, s_asg, kAsg, s_set, kSet2, s_ife, s_ret, kRt, ev_bin, kBin, kBin0, kBin1, kBin2, ev_cmp, kCmp, kCmp0, kCmp1, kCmp2, kBo, ev_idx, kIdx, kIdx0, kIdx1, kD1, ev_cst, ev_var, ev_lst, kLst, evDs_nil, ev_blt, kBlt, kBlt1, ev_and, opB_s, opB_idx, opB_cst, opB_bin, opB_lst, opB_blt, hasS_0, hasS_s, rdB_s, rdB_v, rdO_d, rdO_l, rdVO_d, slot_0, slot_s, kTD_d, kTD_l, kTB_b, kV, R.bind_ok, R.st_ok, optR_some, List.set_cons_zero, List.set_cons_succ, Option.isSome_some, i4_0, i4_1, i4_2, i4_3, st4_1, st4_2, st4_3, b_add, c_gt, c_ge, c_le, ev_call, evAs_pass, evAs_nil, kAs, kAs1, kConsO, kGv, gvO_some, pass_d, tb_t, tb_f, tb_end, slot_set0, ev_lc, evI_rng1, kRng1, evI_seq, kSeq, kDs, kCons, evDs_cons, opB_lc, opB_call, len_list, ev_mth, kMth1, kdB_s, kdB_v, opB_mth, ev_slh, kSlh, kSlh1, kSlh2, kSlh3, ev_sll, kSll, kSll1, kSll2, kSll3, asInt_int, slD_tup, slD_list, ev_neg, kNeg_int, ev_lls0, kApp, kAppl, kApp2, kExt, ev_blts, kBlts, s_tasg, kTasg, s_pass, s_expr, kExpr, opB_slh, opB_sll, opB_neg, opB_blts, opB_tup, ev_tup, kTup, rdVO_l, rdVO_k, rdVO_ll, rdO_k, items_list, list_list, list_tup, ev_isi, kIsi, kIsi1, ev_chain, kCh0, kCh1, kCh3, opB_isi, opB_glob, opB_chain, opB_not, opB_and, opB_or, opB_rev, kRev, kRev1, ev_rev, ev_not, kNot, ev_or, isTy_some, kAnd_t, kAnd_f, kOr_t, kOr_f, kIf_t, kIf_f, Bool.not_true, Bool.not_false, kCh2_t, kCh2_f, c_lt, c_eqI, c_neI, len_tup, items_tup, tuple_list, beq_self_eq_true, kCall_eq, kRes_ok, kRes_exc, evAs_t, kAsT_some, pass_k, pass_ll, pass_x, pass_l, pass_s, ev_pop, kPopE, kPop1, kPop0, ev_popA, kPopA_t, isL_l, isLL_l, isLL_ll, ev_lln, ev_slb, kSlb, kSlb1, kSlb2, kSlb3, kSlb4, kSlb5, evI_keys, kKeys_d, evI_items, kItems_d, evI_enum, kEnum_l, kEnum_t, evI_zip, kZip, kZip1_tt, kZip1_ll, evI_rng2, kRng2, kRng2b, evI_rng3, kRng3, kRng3b, kRng3c, s_appC, kAppC_t, s_applC, kApplC_t, s_extC, kExtC_t, s_insC, kInsC_t, kIns1, kIns2, s_revs, kRevs_l, s_clr, kClr_l, kClr_k, s_par, kParS, s_brk, s_cont, s_retn, s_raise, s_try, s_whl, s_rv, kRetv_s, kSet_eq, kSetC_t, putSlot_s, seq_bk, seq_ct, seq_exc, tryE_nx, tryE_rt, fin_r, fin_n, fin_e, raise_step, raise_paper, raise_stand, raise_many, raise_type, opS_some, asg_tp, setAll_nil, setAll_cons, ctx_cf, ctx_gl, tb_1, tb_2, tb_3, tb_4, tb_5, tb_nil, ev_ite, kIte_t, kIte_f, kMth_eq, kMthK_t, kMth2_eq, kMth2C_t, kdS_d, kdS_l, kdS_k, kd_lst, kd_tup, kd_dct, kd_str, on_1, on_2, on_3, on_4, on_5, on_6, on_7, on_8, on_9, on_10, on_11, eq_self, decide_true, kTD_k, kTD_ll, b_sub, isN_int, isN_bool, isN_str, isN_tup, isN_lst, isN_dct, isN_non, inN_int, inN_bool, inN_str, inN_tup, inN_lst, inN_dct, inN_non, isT_true, inT_true, isT_false, inT_false, opB_cmp, opB_ite, opB_dct, opB_pop, opB_popat, opB_isx, opB_att, opB_slb, ev_dct, rdVO_s, R.bind_exc, R.st_exc, List.take_succ_cons, List.take_zero, w_out, w_ask, decide_true, reduceCtorEq, decide_false]
    cases c <;> exact ⟨_, rfl⟩
  · simp only [ss_cons, ss_nil, seq_nx, seq_rt, s_asg, kAsg, s_set, kSet2, s_ife, s_ret, kRt, ev_bin, kBin, kBin0, kBin1, kBin2, ev_cmp, kCmp, kCmp0, kCmp1, kCmp2, kBo, ev_idx, kIdx, kIdx0, kIdx1, kD1, ev_cst, ev_var, ev_lst, kLst, evDs_nil, ev_blt, kBlt, kBlt1, ev_and, opB_s, opB_idx, opB_cst, opB_bin, opB_lst, opB_blt, hasS_0, hasS_s, rdB_s, rdB_v, rdO_d, rdO_l, rdVO_d, slot_0, slot_s, kTD_d, kTD_l, kTB_b, kV, R.bind_ok, R.st_ok, optR_some, List.set_cons_zero, List.set_cons_succ, Option.isSome_some, i4_0, i4_1, i4_2, i4_3, st4_1, st4_2, st4_3, b_add, c_gt, c_ge, c_le, ev_call, evAs_pass, evAs_nil, kAs, kAs1, kConsO, kGv, gvO_some, pass_d, tb_t, tb_f, tb_end, slot_set0, ev_lc, evI_rng1, kRng1, evI_seq, kSeq, kDs, kCons, evDs_cons, opB_lc, opB_call, len_list, ev_mth, kMth1, kdB_s, kdB_v, opB_mth, ev_slh, kSlh, kSlh1, kSlh2, kSlh3, ev_sll, kSll, kSll1, kSll2, kSll3, asInt_int, slD_tup, slD_list, ev_neg, kNeg_int, ev_lls0, kApp, kAppl, kApp2, kExt, ev_blts, kBlts, s_tasg, kTasg, s_pass, s_expr, kExpr, opB_slh, opB_sll, opB_neg, opB_blts, opB_tup, ev_tup, kTup, rdVO_l, rdVO_k, rdVO_ll, rdO_k, items_list, list_list, list_tup, ev_isi, kIsi, kIsi1, ev_chain, kCh0, kCh1, kCh3, opB_isi, opB_glob, opB_chain, opB_not, opB_and, opB_or, opB_rev, kRev, kRev1, ev_rev, ev_not, kNot, ev_or, isTy_some, kAnd_t, kAnd_f, kOr_t, kOr_f, kIf_t, kIf_f, Bool.not_true, Bool.not_false, kCh2_t, kCh2_f, c_lt, c_eqI, c_neI, len_tup, items_tup, tuple_list, beq_self_eq_true, kCall_eq, kRes_ok, kRes_exc, evAs_t, kAsT_some, pass_k, pass_ll, pass_x, pass_l, pass_s, ev_pop, kPopE, kPop1, kPop0, ev_popA, kPopA_t, isL_l, isLL_l, isLL_ll, ev_lln, ev_slb, kSlb, kSlb1, kSlb2, kSlb3, kSlb4, kSlb5, evI_keys, kKeys_d, evI_items, kItems_d, evI_enum, kEnum_l, kEnum_t, evI_zip, kZip, kZip1_tt, kZip1_ll, evI_rng2, kRng2, kRng2b, evI_rng3, kRng3, kRng3b, kRng3c, s_appC, kAppC_t, s_applC, kApplC_t, s_extC, kExtC_t, s_insC, kInsC_t, kIns1, kIns2, s_revs, kRevs_l, s_clr, kClr_l, kClr_k, s_par, kParS, s_brk, s_cont, s_retn, s_raise, s_try, s_whl, s_rv, kRetv_s, kSet_eq, kSetC_t, putSlot_s, seq_bk, seq_ct, seq_exc, tryE_nx, tryE_rt, fin_r, fin_n, fin_e, raise_step, raise_paper, raise_stand, raise_many, raise_type, opS_some, asg_tp, setAll_nil, setAll_cons, ctx_cf, ctx_gl, tb_1, tb_2, tb_3, tb_4, tb_5, tb_nil, ev_ite, kIte_t, kIte_f, kMth_eq, kMthK_t, kMth2_eq, kMth2C_t, kdS_d, kdS_l, kdS_k, kd_lst, kd_tup, kd_dct, kd_str, on_1, on_2, on_3, on_4, on_5, on_6, on_7, on_8, on_9, on_10, on_11, eq_self, decide_true, kTD_k, kTD_ll, b_sub, isN_int, isN_bool, isN_str, isN_tup, isN_lst, isN_dct, isN_non, inN_int, inN_bool, inN_str, inN_tup, inN_lst, inN_dct, inN_non, isT_true, inT_true, isT_false, inT_false, opB_cmp, opB_ite, opB_dct, opB_pop, opB_popat, opB_isx, opB_att, opB_slb, ev_dct, rdVO_s, R.bind_exc, R.st_exc, List.take_succ_cons, List.take_zero, w_out, w_ask, w_close, decide_true, reduceCtorEq, decide_false]
    exact ⟨_, rfl⟩
  · simp only [ss_cons, ss_nil, seq_nx, seq_rt, s_asg, kAsg, s_set, kSet2, s_ife, s_ret, kRt, ev_bin, kBin, kBin0, kBin1, kBin2, ev_cmp, kCmp, kCmp0, kCmp1, kCmp2, kBo, ev_idx, kIdx, kIdx0, kIdx1, kD1, ev_cst, ev_var, ev_lst, kLst, evDs_nil, ev_blt, kBlt, kBlt1, ev_and, opB_s, opB_idx, opB_cst, opB_bin, opB_lst, opB_blt, hasS_0, hasS_s, rdB_s, rdB_v, rdO_d, rdO_l, rdVO_d, slot_0, slot_s, kTD_d, kTD_l, kTB_b, kV, R.bind_ok, R.st_ok, optR_some, List.set_cons_zero, List.set_cons_succ, Option.isSome_some, i4_0, i4_1, i4_2, i4_3, st4_1, st4_2, st4_3, b_add, c_gt, c_ge, c_le, ev_call, evAs_pass, evAs_nil, kAs, kAs1, kConsO, kGv, gvO_some, pass_d, tb_t, tb_f, tb_end, slot_set0, ev_lc, evI_rng1, kRng1, evI_seq, kSeq, kDs, kCons, evDs_cons, opB_lc, opB_call, len_list, ev_mth, kMth1, kdB_s, kdB_v, opB_mth, ev_slh, kSlh, kSlh1, kSlh2, kSlh3, ev_sll, kSll, kSll1, kSll2, kSll3, asInt_int, slD_tup, slD_list, ev_neg, kNeg_int, ev_lls0, kApp, kAppl, kApp2, kExt, ev_blts, kBlts, s_tasg, kTasg, s_pass, s_expr, kExpr, opB_slh, opB_sll, opB_neg, opB_blts, opB_tup, ev_tup, kTup, rdVO_l, rdVO_k, rdVO_ll, rdO_k, items_list, list_list, list_tup, ev_isi, kIsi, kIsi1, ev_chain, kCh0, kCh1, kCh3, opB_isi, opB_glob, opB_chain, opB_not, opB_and, opB_or, opB_rev, kRev, kRev1, ev_rev, ev_not, kNot, ev_or, isTy_some, kAnd_t, kAnd_f, kOr_t, kOr_f, kIf_t, kIf_f, Bool.not_true, Bool.not_false, kCh2_t, kCh2_f, c_lt, c_eqI, c_neI, len_tup, items_tup, tuple_list, beq_self_eq_true, kCall_eq, kRes_ok, kRes_exc, evAs_t, kAsT_some, pass_k, pass_ll, pass_x, pass_l, pass_s, ev_pop, kPopE, kPop1, kPop0, ev_popA, kPopA_t, isL_l, isLL_l, isLL_ll, ev_lln, ev_slb, kSlb, kSlb1, kSlb2, kSlb3, kSlb4, kSlb5, evI_keys, kKeys_d, evI_items, kItems_d, evI_enum, kEnum_l, kEnum_t, evI_zip, kZip, kZip1_tt, kZip1_ll, evI_rng2, kRng2, kRng2b, evI_rng3, kRng3, kRng3b, kRng3c, s_appC, kAppC_t, s_applC, kApplC_t, s_extC, kExtC_t, s_insC, kInsC_t, kIns1, kIns2, s_revs, kRevs_l, s_clr, kClr_l, kClr_k, s_par, kParS, s_brk, s_cont, s_retn, s_raise, s_try, s_whl, s_rv, kRetv_s, kSet_eq, kSetC_t, putSlot_s, seq_bk, seq_ct, seq_exc, tryE_nx, tryE_rt, fin_r, fin_n, fin_e, raise_step, raise_paper, raise_stand, raise_many, raise_type, opS_some, asg_tp, setAll_nil, setAll_cons, ctx_cf, ctx_gl, tb_1, tb_2, tb_3, tb_4, tb_5, tb_nil, ev_ite, kIte_t, kIte_f, kMth_eq, kMthK_t, kMth2_eq, kMth2C_t, kdS_d, kdS_l, kdS_k, kd_lst, kd_tup, kd_dct, kd_str, on_1, on_2, on_3, on_4, on_5, on_6, on_7, on_8, on_9, on_10, on_11, eq_self, decide_true, kTD_k, kTD_ll, b_sub, isN_int, isN_bool, isN_str, isN_tup, isN_lst, isN_dct, isN_non, inN_int, inN_bool, inN_str, inN_tup, inN_lst, inN_dct, inN_non, isT_true, inT_true, isT_false, inT_false, opB_cmp, opB_ite, opB_dct, opB_pop, opB_popat, opB_isx, opB_att, opB_slb, ev_dct, rdVO_s, R.bind_exc, R.st_exc, List.take_succ_cons, List.take_zero, w_out, w_ask, w_close, w_look, nk_eq, decide_true, reduceCtorEq, decide_false]
    by_cases e : mk = some h
    · simp only [ss_cons, ss_nil, seq_nx, seq_rt, s_asg, kAsg, s_set, kSet2, s_ife, s_ret, kRt, ev_bin, kBin, kBin0, kBin1, kBin2, ev_cmp, kCmp, kCmp0, kCmp1, kCmp2, kBo, ev_idx, kIdx, kIdx0, kIdx1, kD1, ev_cst, ev_var, ev_lst, kLst, evDs_nil, ev_blt, kBlt, kBlt1, ev_and, opB_s, opB_idx, opB_cst, opB_bin, opB_lst, opB_blt, hasS_0, hasS_s, rdB_s, rdB_v, rdO_d, rdO_l, rdVO_d, slot_0, slot_s, kTD_d, kTD_l, kTB_b, kV, R.bind_ok, R.st_ok, optR_some, List.set_cons_zero, List.set_cons_succ, Option.isSome_some, i4_0, i4_1, i4_2, i4_3, st4_1, st4_2, st4_3, b_add, c_gt, c_ge, c_le, ev_call, evAs_pass, evAs_nil, kAs, kAs1, kConsO, kGv, gvO_some, pass_d, tb_t, tb_f, tb_end, slot_set0, ev_lc, evI_rng1, kRng1, evI_seq, kSeq, kDs, kCons, evDs_cons, opB_lc, opB_call, len_list, ev_mth, kMth1, kdB_s, kdB_v, opB_mth, ev_slh, kSlh, kSlh1, kSlh2, kSlh3, ev_sll, kSll, kSll1, kSll2, kSll3, asInt_int, slD_tup, slD_list, ev_neg, kNeg_int, ev_lls0, kApp, kAppl, kApp2, kExt, ev_blts, kBlts, s_tasg, kTasg, s_pass, s_expr, kExpr, opB_slh, opB_sll, opB_neg, opB_blts, opB_tup, ev_tup, kTup, rdVO_l, rdVO_k, rdVO_ll, rdO_k, items_list, list_list, list_tup, ev_isi, kIsi, kIsi1, ev_chain, kCh0, kCh1, kCh3, opB_isi, opB_glob, opB_chain, opB_not, opB_and, opB_or, opB_rev, kRev, kRev1, ev_rev, ev_not, kNot, ev_or, isTy_some, kAnd_t, kAnd_f, kOr_t, kOr_f, kIf_t, kIf_f, Bool.not_true, Bool.not_false, kCh2_t, kCh2_f, c_lt, c_eqI, c_neI, len_tup, items_tup, tuple_list, beq_self_eq_true, kCall_eq, kRes_ok, kRes_exc, evAs_t, kAsT_some, pass_k, pass_ll, pass_x, pass_l, pass_s, ev_pop, kPopE, kPop1, kPop0, ev_popA, kPopA_t, isL_l, isLL_l, isLL_ll, ev_lln, ev_slb, kSlb, kSlb1, kSlb2, kSlb3, kSlb4, kSlb5, evI_keys, kKeys_d, evI_items, kItems_d, evI_enum, kEnum_l, kEnum_t, evI_zip, kZip, kZip1_tt, kZip1_ll, evI_rng2, kRng2, kRng2b, evI_rng3, kRng3, kRng3b, kRng3c, s_appC, kAppC_t, s_applC, kApplC_t, s_extC, kExtC_t, s_insC, kInsC_t, kIns1, kIns2, s_revs, kRevs_l, s_clr, kClr_l, kClr_k, s_par, kParS, s_brk, s_cont, s_retn, s_raise, s_try, s_whl, s_rv, kRetv_s, kSet_eq, kSetC_t, putSlot_s, seq_bk, seq_ct, seq_exc, tryE_nx, tryE_rt, fin_r, fin_n, fin_e, raise_step, raise_paper, raise_stand, raise_many, raise_type, opS_some, asg_tp, setAll_nil, setAll_cons, ctx_cf, ctx_gl, tb_1, tb_2, tb_3, tb_4, tb_5, tb_nil, ev_ite, kIte_t, kIte_f, kMth_eq, kMthK_t, kMth2_eq, kMth2C_t, kdS_d, kdS_l, kdS_k, kd_lst, kd_tup, kd_dct, kd_str, on_1, on_2, on_3, on_4, on_5, on_6, on_7, on_8, on_9, on_10, on_11, eq_self, decide_true, kTD_k, kTD_ll, b_sub, isN_int, isN_bool, isN_str, isN_tup, isN_lst, isN_dct, isN_non, inN_int, inN_bool, inN_str, inN_tup, inN_lst, inN_dct, inN_non, isT_true, inT_true, isT_false, inT_false, opB_cmp, opB_ite, opB_dct, opB_pop, opB_popat, opB_isx, opB_att, opB_slb, ev_dct, rdVO_s, R.bind_exc, R.st_exc, List.take_succ_cons, List.take_zero, e, decide_true, behW, if_true]
      exact ⟨_, rfl⟩
    · simp only [ss_cons, ss_nil, seq_nx, seq_rt, s_asg, kAsg, s_set, kSet2, s_ife, s_ret, kRt, ev_bin, kBin, kBin0, kBin1, kBin2, ev_cmp, kCmp, kCmp0, kCmp1, kCmp2, kBo, ev_idx, kIdx, kIdx0, kIdx1, kD1, ev_cst, ev_var, ev_lst, kLst, evDs_nil, ev_blt, kBlt, kBlt1, ev_and, opB_s, opB_idx, opB_cst, opB_bin, opB_lst, opB_blt, hasS_0, hasS_s, rdB_s, rdB_v, rdO_d, rdO_l, rdVO_d, slot_0, slot_s, kTD_d, kTD_l, kTB_b, kV, R.bind_ok, R.st_ok, optR_some, List.set_cons_zero, List.set_cons_succ, Option.isSome_some, i4_0, i4_1, i4_2, i4_3, st4_1, st4_2, st4_3, b_add, c_gt, c_ge, c_le, ev_call, evAs_pass, evAs_nil, kAs, kAs1, kConsO, kGv, gvO_some, pass_d, tb_t, tb_f, tb_end, slot_set0, ev_lc, evI_rng1, kRng1, evI_seq, kSeq, kDs, kCons, evDs_cons, opB_lc, opB_call, len_list, ev_mth, kMth1, kdB_s, kdB_v, opB_mth, ev_slh, kSlh, kSlh1, kSlh2, kSlh3, ev_sll, kSll, kSll1, kSll2, kSll3, asInt_int, slD_tup, slD_list, ev_neg, kNeg_int, ev_lls0, kApp, kAppl, kApp2, kExt, ev_blts, kBlts, s_tasg, kTasg, s_pass, s_expr, kExpr, opB_slh, opB_sll, opB_neg, opB_blts, opB_tup, ev_tup, kTup, rdVO_l, rdVO_k, rdVO_ll, rdO_k, items_list, list_list, list_tup, ev_isi, kIsi, kIsi1, ev_chain, kCh0, kCh1, kCh3, opB_isi, opB_glob, opB_chain, opB_not, opB_and, opB_or, opB_rev, kRev, kRev1, ev_rev, ev_not, kNot, ev_or, isTy_some, kAnd_t, kAnd_f, kOr_t, kOr_f, kIf_t, kIf_f, Bool.not_true, Bool.not_false, kCh2_t, kCh2_f, c_lt, c_eqI, c_neI, len_tup, items_tup, tuple_list, beq_self_eq_true, kCall_eq, kRes_ok, kRes_exc, evAs_t, kAsT_some, pass_k, pass_ll, pass_x, pass_l, pass_s, ev_pop, kPopE, kPop1, kPop0, ev_popA, kPopA_t, isL_l, isLL_l, isLL_ll, ev_lln, ev_slb, kSlb, kSlb1, kSlb2, kSlb3, kSlb4, kSlb5, evI_keys, kKeys_d, evI_items, kItems_d, evI_enum, kEnum_l, kEnum_t, evI_zip, kZip, kZip1_tt, kZip1_ll, evI_rng2, kRng2, kRng2b, evI_rng3, kRng3, kRng3b, kRng3c, s_appC, kAppC_t, s_applC, kApplC_t, s_extC, kExtC_t, s_insC, kInsC_t, kIns1, kIns2, s_revs, kRevs_l, s_clr, kClr_l, kClr_k, s_par, kParS, s_brk, s_cont, s_retn, s_raise, s_try, s_whl, s_rv, kRetv_s, kSet_eq, kSetC_t, putSlot_s, seq_bk, seq_ct, seq_exc, tryE_nx, tryE_rt, fin_r, fin_n, fin_e, raise_step, raise_paper, raise_stand, raise_many, raise_type, opS_some, asg_tp, setAll_nil, setAll_cons, ctx_cf, ctx_gl, tb_1, tb_2, tb_3, tb_4, tb_5, tb_nil, ev_ite, kIte_t, kIte_f, kMth_eq, kMthK_t, kMth2_eq, kMth2C_t, kdS_d, kdS_l, kdS_k, kd_lst, kd_tup, kd_dct, kd_str, on_1, on_2, on_3, on_4, on_5, on_6, on_7, on_8, on_9, on_10, on_11, eq_self, decide_true, kTD_k, kTD_ll, b_sub, isN_int, isN_bool, isN_str, isN_tup, isN_lst, isN_dct, isN_non, inN_int, inN_bool, inN_str, inN_tup, inN_lst, inN_dct, inN_non, isT_true, inT_true, isT_false, inT_false, opB_cmp, opB_ite, opB_dct, opB_pop, opB_popat, opB_isx, opB_att, opB_slb, ev_dct, rdVO_s, R.bind_exc, R.st_exc, List.take_succ_cons, List.take_zero, e, decide_false, behW, if_false]
      exact ⟨_, rfl⟩
  all_goals
    simp only [ss_cons, ss_nil, seq_nx, seq_rt, s_asg, kAsg, s_set, kSet2, s_ife, s_ret, kRt, ev_bin, kBin, kBin0, kBin1, kBin2, ev_cmp, kCmp, kCmp0, kCmp1, kCmp2, kBo, ev_idx, kIdx, kIdx0, kIdx1, kD1, ev_cst, ev_var, ev_lst, kLst, evDs_nil, ev_blt, kBlt, kBlt1, ev_and, opB_s, opB_idx, opB_cst, opB_bin, opB_lst, opB_blt, hasS_0, hasS_s, rdB_s, rdB_v, rdO_d, rdO_l, rdVO_d, slot_0, slot_s, kTD_d, kTD_l, kTB_b, kV, R.bind_ok, R.st_ok, optR_some, List.set_cons_zero, List.set_cons_succ, Option.isSome_some, i4_0, i4_1, i4_2, i4_3, st4_1, st4_2, st4_3, b_add, c_gt, c_ge, c_le, ev_call, evAs_pass, evAs_nil, kAs, kAs1, kConsO, kGv, gvO_some, pass_d, tb_t, tb_f, tb_end, slot_set0, ev_lc, evI_rng1, kRng1, evI_seq, kSeq, kDs, kCons, evDs_cons, opB_lc, opB_call, len_list, ev_mth, kMth1, kdB_s, kdB_v, opB_mth, ev_slh, kSlh, kSlh1, kSlh2, kSlh3, ev_sll, kSll, kSll1, kSll2, kSll3, asInt_int, slD_tup, slD_list, ev_neg, kNeg_int, ev_lls0, kApp, kAppl, kApp2, kExt, ev_blts, kBlts, s_tasg, kTasg, s_pass, s_expr, kExpr, opB_slh, opB_sll, opB_neg, opB_blts, opB_tup, ev_tup, kTup, rdVO_l, rdVO_k, rdVO_ll, rdO_k, items_list, list_list, list_tup, ev_isi, kIsi, kIsi1, ev_chain, kCh0, kCh1, kCh3, opB_isi, opB_glob, opB_chain, opB_not, opB_and, opB_or, opB_rev, kRev, kRev1, ev_rev, ev_not, kNot, ev_or, isTy_some, kAnd_t, kAnd_f, kOr_t, kOr_f, kIf_t, kIf_f, Bool.not_true, Bool.not_false, kCh2_t, kCh2_f, c_lt, c_eqI, c_neI, len_tup, items_tup, tuple_list, beq_self_eq_true, kCall_eq, kRes_ok, kRes_exc, evAs_t, kAsT_some, pass_k, pass_ll, pass_x, pass_l, pass_s, ev_pop, kPopE, kPop1, kPop0, ev_popA, kPopA_t, isL_l, isLL_l, isLL_ll, ev_lln, ev_slb, kSlb, kSlb1, kSlb2, kSlb3, kSlb4, kSlb5, evI_keys, kKeys_d, evI_items, kItems_d, evI_enum, kEnum_l, kEnum_t, evI_zip, kZip, kZip1_tt, kZip1_ll, evI_rng2, kRng2, kRng2b, evI_rng3, kRng3, kRng3b, kRng3c, s_appC, kAppC_t, s_applC, kApplC_t, s_extC, kExtC_t, s_insC, kInsC_t, kIns1, kIns2, s_revs, kRevs_l, s_clr, kClr_l, kClr_k, s_par, kParS, s_brk, s_cont, s_retn, s_raise, s_try, s_whl, s_rv, kRetv_s, kSet_eq, kSetC_t, putSlot_s, seq_bk, seq_ct, seq_exc, tryE_nx, tryE_rt, fin_r, fin_n, fin_e, raise_step, raise_paper, raise_stand, raise_many, raise_type, opS_some, asg_tp, setAll_nil, setAll_cons, ctx_cf, ctx_gl, tb_1, tb_2, tb_3, tb_4, tb_5, tb_nil, ev_ite, kIte_t, kIte_f, kMth_eq, kMthK_t, kMth2_eq, kMth2C_t, kdS_d, kdS_l, kdS_k, kd_lst, kd_tup, kd_dct, kd_str, on_1, on_2, on_3, on_4, on_5, on_6, on_7, on_8, on_9, on_10, on_11, eq_self, decide_true, kTD_k, kTD_ll, b_sub, isN_int, isN_bool, isN_str, isN_tup, isN_lst, isN_dct, isN_non, inN_int, inN_bool, inN_str, inN_tup, inN_lst, inN_dct, inN_non, isT_true, inT_true, isT_false, inT_false, opB_cmp, opB_ite, opB_dct, opB_pop, opB_popat, opB_isx, opB_att, opB_slb, ev_dct, rdVO_s, R.bind_exc, R.st_exc, List.take_succ_cons, List.take_zero, w_out, w_ask, w_close, w_look, decide_true, reduceCtorEq, decide_false]
    exact ⟨_, rfl⟩
theorem wsD_at {ws : List W} {h : Nat} {w : W} (e : ws[h]? = some w) : idxD (.tuple (wsD ws)) (.int h) = some (.str w.s) := by
  have hl := (List.getElem?_eq_some_iff.mp e).1
  rw [at_nat (by rw [wsD_len]; exact hl)]
  congr 1
  have : (wsD ws)[h]? = some (.str w.s) := by
    unfold wsD
    rw [List.getElem?_map, e]
    rfl
  exact Option.some.inj ((List.getElem?_eq_getElem _).symm.trans this)
theorem cutA {xs : List D} {h : Nat} (hh : h ≤ xs.length) : cut xs none (some (h : Int)) = xs.take h := cutTo hh
theorem cutB {xs : List D} {h : Nat} (hh : h < xs.length) : cut xs (some ((h : Int) + 1)) none = xs.drop (h + 1) := by
  have := cutFrom (xs := xs) (n := h + 1) (by omega)
  rwa [show ((h + 1 : Nat) : Int) = (h : Int) + 1 by omega] at this
theorem put_row {α : Type} {xs : List α} {h : Nat} (hh : h < xs.length) (y : α) : xs.take h ++ [y] ++ xs.drop (h + 1) = xs.set h y := by
  rw [List.set_eq_take_append_cons_drop, if_pos hh, List.append_assoc]
  rfl
theorem b_addL {xs ys : List D} (h : xs.length + ys.length ≤ 16777216) : bop .add (.tuple xs) (.tuple ys) = some (.d (.tuple (xs ++ ys))) := b_addT h
theorem wsD_set (ws : List W) (h : Nat) (w : W) : (wsD ws).set h (.str w.s) = wsD (ws.set h w) := by
  unfold wsD
  rw [List.map_set]
theorem set_out (ws : List W) (h : Nat) : (wsD ws).set h (.str "out") = wsD (ws.set h .out) := wsD_set ws h .out
theorem set_ask (ws : List W) (h : Nat) : (wsD ws).set h (.str "ask") = wsD (ws.set h .ask) := wsD_set ws h .ask
theorem set_close (ws : List W) (h : Nat) : (wsD ws).set h (.str "close") = wsD (ws.set h .close) := wsD_set ws h .close
theorem set_look (ws : List W) (h : Nat) : (wsD ws).set h (.str "look") = wsD (ws.set h .look) := wsD_set ws h .look
theorem set_holds (ws : List W) (h : Nat) : (wsD ws).set h (.str "holds") = wsD (ws.set h .holds) := wsD_set ws h .holds
theorem set_right (ws : List W) (h : Nat) : (wsD ws).set h (.str "right") = wsD (ws.set h .right) := wsD_set ws h .right
theorem set_down (ws : List W) (h : Nat) : (wsD ws).set h (.str "down") = wsD (ws.set h .down) := wsD_set ws h .down
theorem is_str (x : Str) : cop .is (.str x) .none = some false := rfl
theorem is_tup (xs : List D) : cop .is (.tuple xs) .none = some false := rfl
theorem is_non : cop .is .none .none = some true := rfl
theorem isnt_tup (xs : List D) : cop .isnt (.tuple xs) .none = some true := rfl
theorem isnt_non : cop .isnt .none .none = some false := rfl
/-- what a refused or made step is -/
def stepR (s : Sd) (h : Nat) : CR → Prop := fun r => match s.step h with
  | some s' => ∃ outs, r = .ok (.d s'.d) outs
  | none => r = .exc .noStep [("hand", .int h)]
theorem step_decider_run {fu k : Nat} (hk : 2 ≤ k) {s : Sd} {h : Nat} (hh : h < s.ws.length) (hs : s.ws.length ≤ 100) : stepR s h (callF prog fu k 14 [.d s.d, .d (.int h)]) := by
  obtain ⟨k, rfl⟩ : ∃ j, k = j + 1 := ⟨k - 1, by omega⟩
  rw [run_at (np := 2) (b := fn_step_decider.body) (Γ := [some (.d s.d), some (.d (.int h)), none, none, none, none]) (fn := fn_step_decider) rfl rfl rfl rfl rfl]
  simp only [fn_step_decider]
  obtain ⟨mk, cl, ws⟩ := s
  dsimp only at hh hs
  obtain ⟨w, ew⟩ : ∃ w, ws[h]? = some w := ⟨_, List.getElem?_eq_getElem hh⟩
  obtain ⟨outs, e⟩ := behind_word_run (fu := fu) (k := k) (by omega) mk cl w h
  simp only [Sd.d]
  unfold stepR Sd.step
  dsimp only
  rw [ew]
  dsimp only
  cases eb : behW mk cl h w with
  | none =>
    rw [eb] at e
    simp (disch := first | omega | (simp only [List.length_take, List.length_drop, List.length_map, List.length_append, List.length_cons, List.length_nil, wsD_len]; omega)) only [ss_cons, ss_nil, seq_nx, seq_rt, s_asg, kAsg, s_set, kSet2, s_ife, s_ret, kRt, ev_bin, kBin, kBin0, kBin1, kBin2, ev_cmp, kCmp, kCmp0, kCmp1, kCmp2, kBo, ev_idx, kIdx, kIdx0, kIdx1, kD1, ev_cst, ev_var, ev_lst, kLst, evDs_nil, ev_blt, kBlt, kBlt1, ev_and, opB_s, opB_idx, opB_cst, opB_bin, opB_lst, opB_blt, hasS_0, hasS_s, rdB_s, rdB_v, rdO_d, rdO_l, rdVO_d, slot_0, slot_s, kTD_d, kTD_l, kTB_b, kV, R.bind_ok, R.st_ok, optR_some, List.set_cons_zero, List.set_cons_succ, Option.isSome_some, i4_0, i4_1, i4_2, i4_3, st4_1, st4_2, st4_3, b_add, c_gt, c_ge, c_le, ev_call, evAs_pass, evAs_nil, kAs, kAs1, kConsO, kGv, gvO_some, pass_d, tb_t, tb_f, tb_end, slot_set0, ev_lc, evI_rng1, kRng1, evI_seq, kSeq, kDs, kCons, evDs_cons, opB_lc, opB_call, len_list, ev_mth, kMth1, kdB_s, kdB_v, opB_mth, ev_slh, kSlh, kSlh1, kSlh2, kSlh3, ev_sll, kSll, kSll1, kSll2, kSll3, asInt_int, slD_tup, slD_list, ev_neg, kNeg_int, ev_lls0, kApp, kAppl, kApp2, kExt, ev_blts, kBlts, s_tasg, kTasg, s_pass, s_expr, kExpr, opB_slh, opB_sll, opB_neg, opB_blts, opB_tup, ev_tup, kTup, rdVO_l, rdVO_k, rdVO_ll, rdO_k, items_list, list_list, list_tup, ev_isi, kIsi, kIsi1, ev_chain, kCh0, kCh1, kCh3, opB_isi, opB_glob, opB_chain, opB_not, opB_and, opB_or, opB_rev, kRev, kRev1, ev_rev, ev_not, kNot, ev_or, isTy_some, kAnd_t, kAnd_f, kOr_t, kOr_f, kIf_t, kIf_f, Bool.not_true, Bool.not_false, kCh2_t, kCh2_f, c_lt, c_eqI, c_neI, len_tup, items_tup, tuple_list, beq_self_eq_true, kCall_eq, kRes_ok, kRes_exc, evAs_t, kAsT_some, pass_k, pass_ll, pass_x, pass_l, pass_s, ev_pop, kPopE, kPop1, kPop0, ev_popA, kPopA_t, isL_l, isLL_l, isLL_ll, ev_lln, ev_slb, kSlb, kSlb1, kSlb2, kSlb3, kSlb4, kSlb5, evI_keys, kKeys_d, evI_items, kItems_d, evI_enum, kEnum_l, kEnum_t, evI_zip, kZip, kZip1_tt, kZip1_ll, evI_rng2, kRng2, kRng2b, evI_rng3, kRng3, kRng3b, kRng3c, s_appC, kAppC_t, s_applC, kApplC_t, s_extC, kExtC_t, s_insC, kInsC_t, kIns1, kIns2, s_revs, kRevs_l, s_clr, kClr_l, kClr_k, s_par, kParS, s_brk, s_cont, s_retn, s_raise, s_try, s_whl, s_rv, kRetv_s, kSet_eq, kSetC_t, putSlot_s, seq_bk, seq_ct, seq_exc, tryE_nx, tryE_rt, fin_r, fin_n, fin_e, raise_step, raise_paper, raise_stand, raise_many, raise_type, opS_some, asg_tp, setAll_nil, setAll_cons, ctx_cf, ctx_gl, tb_1, tb_2, tb_3, tb_4, tb_5, tb_nil, ev_ite, kIte_t, kIte_f, kMth_eq, kMthK_t, kMth2_eq, kMth2C_t, kdS_d, kdS_l, kdS_k, kd_lst, kd_tup, kd_dct, kd_str, on_1, on_2, on_3, on_4, on_5, on_6, on_7, on_8, on_9, on_10, on_11, eq_self, decide_true, kTD_k, kTD_ll, b_sub, isN_int, isN_bool, isN_str, isN_tup, isN_lst, isN_dct, isN_non, inN_int, inN_bool, inN_str, inN_tup, inN_lst, inN_dct, inN_non, isT_true, inT_true, isT_false, inT_false, opB_cmp, opB_ite, opB_dct, opB_pop, opB_popat, opB_isx, opB_att, opB_slb, ev_dct, rdVO_s, R.bind_exc, R.st_exc, List.take_succ_cons, List.take_zero, io_13, wsD_at ew, e, bwD, is_non]
  | some r =>
    obtain ⟨mk2, cl2, w2⟩ := r
    rw [eb] at e
    simp (disch := first | omega | (simp only [List.length_take, List.length_drop, List.length_map, List.length_append, List.length_cons, List.length_nil, wsD_len]; omega)) only [ss_cons, ss_nil, seq_nx, seq_rt, s_asg, kAsg, s_set, kSet2, s_ife, s_ret, kRt, ev_bin, kBin, kBin0, kBin1, kBin2, ev_cmp, kCmp, kCmp0, kCmp1, kCmp2, kBo, ev_idx, kIdx, kIdx0, kIdx1, kD1, ev_cst, ev_var, ev_lst, kLst, evDs_nil, ev_blt, kBlt, kBlt1, ev_and, opB_s, opB_idx, opB_cst, opB_bin, opB_lst, opB_blt, hasS_0, hasS_s, rdB_s, rdB_v, rdO_d, rdO_l, rdVO_d, slot_0, slot_s, kTD_d, kTD_l, kTB_b, kV, R.bind_ok, R.st_ok, optR_some, List.set_cons_zero, List.set_cons_succ, Option.isSome_some, i4_0, i4_1, i4_2, i4_3, st4_1, st4_2, st4_3, b_add, c_gt, c_ge, c_le, ev_call, evAs_pass, evAs_nil, kAs, kAs1, kConsO, kGv, gvO_some, pass_d, tb_t, tb_f, tb_end, slot_set0, ev_lc, evI_rng1, kRng1, evI_seq, kSeq, kDs, kCons, evDs_cons, opB_lc, opB_call, len_list, ev_mth, kMth1, kdB_s, kdB_v, opB_mth, ev_slh, kSlh, kSlh1, kSlh2, kSlh3, ev_sll, kSll, kSll1, kSll2, kSll3, asInt_int, slD_tup, slD_list, ev_neg, kNeg_int, ev_lls0, kApp, kAppl, kApp2, kExt, ev_blts, kBlts, s_tasg, kTasg, s_pass, s_expr, kExpr, opB_slh, opB_sll, opB_neg, opB_blts, opB_tup, ev_tup, kTup, rdVO_l, rdVO_k, rdVO_ll, rdO_k, items_list, list_list, list_tup, ev_isi, kIsi, kIsi1, ev_chain, kCh0, kCh1, kCh3, opB_isi, opB_glob, opB_chain, opB_not, opB_and, opB_or, opB_rev, kRev, kRev1, ev_rev, ev_not, kNot, ev_or, isTy_some, kAnd_t, kAnd_f, kOr_t, kOr_f, kIf_t, kIf_f, Bool.not_true, Bool.not_false, kCh2_t, kCh2_f, c_lt, c_eqI, c_neI, len_tup, items_tup, tuple_list, beq_self_eq_true, kCall_eq, kRes_ok, kRes_exc, evAs_t, kAsT_some, pass_k, pass_ll, pass_x, pass_l, pass_s, ev_pop, kPopE, kPop1, kPop0, ev_popA, kPopA_t, isL_l, isLL_l, isLL_ll, ev_lln, ev_slb, kSlb, kSlb1, kSlb2, kSlb3, kSlb4, kSlb5, evI_keys, kKeys_d, evI_items, kItems_d, evI_enum, kEnum_l, kEnum_t, evI_zip, kZip, kZip1_tt, kZip1_ll, evI_rng2, kRng2, kRng2b, evI_rng3, kRng3, kRng3b, kRng3c, s_appC, kAppC_t, s_applC, kApplC_t, s_extC, kExtC_t, s_insC, kInsC_t, kIns1, kIns2, s_revs, kRevs_l, s_clr, kClr_l, kClr_k, s_par, kParS, s_brk, s_cont, s_retn, s_raise, s_try, s_whl, s_rv, kRetv_s, kSet_eq, kSetC_t, putSlot_s, seq_bk, seq_ct, seq_exc, tryE_nx, tryE_rt, fin_r, fin_n, fin_e, raise_step, raise_paper, raise_stand, raise_many, raise_type, opS_some, asg_tp, setAll_nil, setAll_cons, ctx_cf, ctx_gl, tb_1, tb_2, tb_3, tb_4, tb_5, tb_nil, ev_ite, kIte_t, kIte_f, kMth_eq, kMthK_t, kMth2_eq, kMth2C_t, kdS_d, kdS_l, kdS_k, kd_lst, kd_tup, kd_dct, kd_str, on_1, on_2, on_3, on_4, on_5, on_6, on_7, on_8, on_9, on_10, on_11, eq_self, decide_true, kTD_k, kTD_ll, b_sub, isN_int, isN_bool, isN_str, isN_tup, isN_lst, isN_dct, isN_non, inN_int, inN_bool, inN_str, inN_tup, inN_lst, inN_dct, inN_non, isT_true, inT_true, isT_false, inT_false, opB_cmp, opB_ite, opB_dct, opB_pop, opB_popat, opB_isx, opB_att, opB_slb, ev_dct, rdVO_s, R.bind_exc, R.st_exc, List.take_succ_cons, List.take_zero, io_13, wsD_at ew, e, bwD, is_tup, i3_0, i3_1, i3_2, cutA, cutB, b_addL, put_row, wsD_set]
    exact ⟨_, rfl⟩
end MI

set_option maxRecDepth 100000
/-! KD1: stands of deciders that are let by: each step leads to one. -/
namespace MI
open PySem
def W.beyond : W → Bool
  | .look | .holds | .right | .down => true
  | _ => false
def W.closer : W → Bool
  | .look | .holds | .down => true
  | _ => false
/-- the six sentences -/
structure Sd.Safe (s : Sd) : Prop where
  b1 : ∀ (i : Nat) (w : W), s.ws[i]? = some w → w.beyond = true → s.cl = true
  b2 : s.cl = true → ∃ (i : Nat) (w : W), s.ws[i]? = some w ∧ w.closer = true
  b3 : s.mark = none → ∀ (i : Nat) (w : W), s.ws[i]? = some w → w = W.out
  b4 : ∀ i : Nat, s.mark = some i → ∃ w : W, s.ws[i]? = some w ∧ w ≠ W.out ∧ w ≠ W.down
  b5 : ∀ (i j : Nat) (w : W), s.mark = some i → s.ws[i]? = some w → (w = W.close ∨ w = W.look) → s.ws[j]? ≠ some W.holds
  b6 : ∀ i j : Nat, s.ws[i]? = some W.holds → s.ws[j]? = some W.holds → i = j
theorem getE_set {α : Type} (l : List α) (h i : Nat) (x : α) (hl : h < l.length) : (l.set h x)[i]? = if i = h then some x else l[i]? := by
  rw [List.getElem?_set]
  by_cases e : h = i
  · subst e; simp [hl]
  · have : ¬ i = h := fun z => e z.symm
    simp [e, this]
theorem Sd.Safe.step {s s' : Sd} {h : Nat} (q : s.Safe) (e : s.step h = some s') : s'.Safe := by
  obtain ⟨mk, cl, ws⟩ := s
  obtain ⟨b1, b2, b3, b4, b5, b6⟩ := q
  unfold Sd.step at e
  dsimp only at e b1 b2 b3 b4 b5 b6
  cases ew : ws[h]? with
  | none => rw [ew] at e; cases e
  | some w =>
    rw [ew] at e
    have hl : h < ws.length := (List.getElem?_eq_some_iff.mp ew).1
    have gs := getE_set ws h
    cases w <;> simp only [behW] at e
    all_goals first | (cases e; done) | skip
    all_goals
      cases e
      refine ⟨?_, ?_, ?_, ?_, ?_, ?_⟩ <;> dsimp only <;> simp only [gs _ _ hl]
      all_goals grind [W.beyond, W.closer]
theorem count_one {α : Type} [DecidableEq α] (a : α) : ∀ l : List α, (∀ i j : Nat, l[i]? = some a → l[j]? = some a → i = j) → l.count a ≤ 1
  | [], _ => by simp
  | x :: l, h => by
    rw [List.count_cons]
    by_cases e : x = a
    · subst e
      have : x ∉ l := fun hm => by
        obtain ⟨j, hj⟩ := List.mem_iff_getElem?.mp hm
        have := h 0 (j + 1) rfl (by simpa using hj)
        omega
      rw [List.count_eq_zero.mpr this]
      simp
    · have ih := count_one a l fun i j h1 h2 => by
        have := h (i + 1) (j + 1) (by simpa using h1) (by simpa using h2)
        omega
      have : (x == a) = false := by simpa using e
      simp [this, ih]
theorem count_less {α : Type} [DecidableEq α] {a x : α} {l : List α} (h : x ∈ l) (hn : x ≠ a) : l.count a < l.length := by
  have h1 := List.count_le_length (a := a) (l := l)
  have h2 : l.count a ≠ l.length := fun e => hn ((List.count_eq_length.mp e) x h).symm
  omega
/-- of those that came: at most one holds, not all went right, not all down -/
def fitsB (ws : List W) : Bool :=
  let came := ws.filter fun w => !decide (w = W.out)
  if 1 < came.count W.holds then false else came.isEmpty || (decide (came.count W.right < came.length) && decide (came.count W.down < came.length))
theorem Sd.Safe.fits {s : Sd} (q : s.Safe) : fitsB s.ws = true := by
  unfold fitsB
  dsimp only
  have h1 : (s.ws.filter fun w => !decide (w = W.out)).count W.holds ≤ 1 := by
    rw [List.count_filter (by decide)]
    exact count_one _ _ q.b6
  rw [if_neg (by omega)]
  generalize ec : s.ws.filter (fun w => !decide (w = W.out)) = came
  cases came with
  | nil => rfl
  | cons x xs =>
    have mem : ∀ {i : Nat} {w : W}, s.ws[i]? = some w → w ≠ W.out → w ∈ x :: xs := fun {i w} e hn => by
      rw [← ec, List.mem_filter]
      exact ⟨List.mem_of_getElem? e, by simpa using hn⟩
    have hx : x ∈ s.ws ∧ x ≠ W.out := by
      have : x ∈ s.ws.filter fun w => !decide (w = W.out) := by rw [ec]; simp
      rw [List.mem_filter] at this
      exact ⟨this.1, by simpa using this.2⟩
    obtain ⟨j, hj⟩ := List.mem_iff_getElem?.mp hx.1
    have hd : ∃ w, w ∈ x :: xs ∧ w ≠ W.down := by
      cases em : s.mark with
      | none => exact absurd (q.b3 em j x hj) hx.2
      | some i =>
        obtain ⟨w, e, n1, n2⟩ := q.b4 i em
        exact ⟨w, mem e n1, n2⟩
    have hr : ∃ w, w ∈ x :: xs ∧ w ≠ W.right := by
      by_cases e : x = W.right
      · obtain ⟨i, w, e1, e2⟩ := q.b2 (q.b1 j x hj (by rw [e]; rfl))
        exact ⟨w, mem e1 (by rintro rfl; cases e2), by rintro rfl; cases e2⟩
      · exact ⟨x, by simp, e⟩
    obtain ⟨w1, m1, n1⟩ := hd
    obtain ⟨w2, m2, n2⟩ := hr
    have a := count_less m1 n1
    have b := count_less m2 n2
    simp only [decide_eq_true a, decide_eq_true b]
    rfl
def Sd.first (m : Nat) : Sd := ⟨none, false, List.replicate m W.out⟩
theorem Sd.first_ok (m : Nat) : (Sd.first m).Ok m := ⟨by simp [Sd.first], fun i z => by cases z⟩
theorem Sd.first_safe (m : Nat) : (Sd.first m).Safe := by
  unfold Sd.first
  refine ⟨?_, ?_, ?_, ?_, ?_, ?_⟩ <;> dsimp only <;> simp only [List.getElem?_replicate]
  all_goals grind [W.beyond, W.closer]
def W.rk : W → Nat
  | .out => 0 | .ask => 1 | .close => 2 | .right => 4 | .look => 3 | .holds => 4 | .down => 4
def W.done : W → Nat
  | .out => 0 | .ask => 1 | .close => 2 | .right => 2 | .look => 3 | .holds => 4 | .down => 4
/-- a step: the word of its hand goes on, the others' stay -/
theorem Sd.step_at {s s' : Sd} {h : Nat} (e : s.step h = some s') : ∃ w w', s.ws[h]? = some w ∧ s'.ws = s.ws.set h w' ∧ w'.done = w.done + 1 ∧ w.rk < w'.rk := by
  obtain ⟨mk, cl, ws⟩ := s
  unfold Sd.step at e
  dsimp only at e
  cases ew : ws[h]? with
  | none => rw [ew] at e; cases e
  | some w =>
    rw [ew] at e
    have hl : h < ws.length := (List.getElem?_eq_some_iff.mp ew).1
    have gs := getE_set ws h
    cases w <;> simp only [behW] at e
    all_goals first | (cases e; done) | skip
    all_goals
      cases e
      refine ⟨_, _, rfl, rfl, ?_⟩
      grind [W.done, W.rk]
theorem Sd.step_none {s : Sd} {h : Nat} (hh : h < s.ws.length) (e : s.step h = none) : ∃ w, s.ws[h]? = some w ∧ w.rk = 4 := by
  obtain ⟨mk, cl, ws⟩ := s
  unfold Sd.step at e
  dsimp only at e hh
  refine ⟨ws[h], List.getElem?_eq_getElem hh, ?_⟩
  rw [List.getElem?_eq_getElem hh] at e
  generalize ws[h] = w at e ⊢
  cases w <;> simp only [behW] at e <;> first | rfl | cases e
theorem W.rk_le (w : W) : w.rk ≤ 4 := by cases w <;> decide
theorem W.done_le (w : W) : w.done ≤ 4 := by cases w <;> decide
end MI

set_option maxRecDepth 100000
/-! KF: the feed that deciders are drawn from; sizes. -/
namespace MI
open PySem
/-! ### draws -/
/-- the feed behind at most T draws -/
def Fd (ns : List Int) (T : Int) (o : O) : Prop := ∃ p q t, 0 ≤ p ∧ 0 ≤ t ∧ t ≤ T ∧ o = fd ns p q t
theorem Fd.draw {ns : List Int} {T n : Int} {o : O} {fu k : Nat} (h : Fd ns T o) (hk : 1 ≤ k) (hT : T < 1000000000) (h1 : 1 ≤ n) (h2 : n < 1000000) :
    ∃ v o', 0 ≤ v ∧ v < n ∧ Fd ns (T + 1) o' ∧ callF prog fu k 5 [o, .d (.int n)] = .ok (.d (.int v)) [some o', some (.d (.int n))] := by
  obtain ⟨p, q, t, hp, ht, hT2, rfl⟩ := h
  obtain ⟨k, rfl⟩ : ∃ j, k = j + 1 := ⟨k - 1, by omega⟩
  obtain ⟨v, p', q', h3, h4, h5, e⟩ := fdraw_run (P := prog) (f := 5) (fu := fu) (k := k) rfl ns p q t n hp ht (by omega) h1 (by omega)
  exact ⟨v, _, h3, h4, ⟨p', q', t + 1, h5, by omega, by omega, rfl⟩, e⟩
theorem Fd.mono {ns : List Int} {T S : Int} {o : O} (h : Fd ns T o) (hs : T ≤ S) : Fd ns S o := by
  obtain ⟨p, q, t, hp, ht, hT, rfl⟩ := h
  exact ⟨p, q, t, hp, ht, by omega, rfl⟩
theorem Fd.begin (ns : List Int) : Fd ns 0 (fd ns 0 0 0) := ⟨0, 0, 0, by omega, by omega, by omega, rfl⟩
theorem Fd.stand {ns : List Int} {T : Int} {m : Nat} {o : O} {fu k : Nat} (h : Fd ns T o) (hk : 2 ≤ k) (hT : T < 100000000) (h1 : 1 ≤ m) (h2 : m ≤ 6) :
    ∃ (s : Sd) (o' : O), s.Ok m ∧ Fd ns (T + 20) o' ∧ callF prog fu k 7 [o, .d (.int m)] = .ok (.d s.d) [some o', some (.d (.int m))] := by
  obtain ⟨p, q, t, hp, ht, hT2, rfl⟩ := h
  obtain ⟨k, rfl⟩ : ∃ j, k = j + 2 := ⟨k - 2, by omega⟩
  obtain ⟨mk, c, ws, p', q', t', ok, h3, h4, h5, e⟩ := stand_run (P := prog) (f := 7) (d := 5) (w := 6) (fu := fu) (k := k) rfl rfl rfl ns p q t m hp ht (by omega) (by omega) (by omega)
  obtain ⟨ws', rfl⟩ : ∃ ws' : List W, ws = ws'.map W.s := by
    have := ok.wl
    clear e ok
    induction ws with
    | nil => exact ⟨[], rfl⟩
    | cons x xs ih =>
      obtain ⟨w, rfl⟩ := W.of (this x (by simp))
      obtain ⟨ys, rfl⟩ := ih fun y hy => this y (by simp [hy])
      exact ⟨w :: ys, rfl⟩
  obtain ⟨mk', rfl, hm⟩ : ∃ mk' : Option Nat, mk = mk'.map (fun i => (i : Int)) ∧ ∀ i, mk' = some i → i < m := by
    cases mk with
    | none => exact ⟨none, rfl, fun i z => nomatch z⟩
    | some i =>
      have := ok.mark i rfl
      exact ⟨some i.toNat, congrArg some (show i = (i.toNat : Int) by omega), fun j z => by cases z; omega⟩
  refine ⟨⟨mk', c, ws'⟩, _, ⟨by have := ok.len; rw [List.length_map] at this; exact Int.ofNat.inj this, hm⟩, ⟨p', q', t', h3, by omega, by omega, rfl⟩, ?_⟩
  rw [e]
  have e1 : mkD (mk'.map (fun i => (i : Int))) = nkD mk' := by cases mk' <;> rfl
  have e2 : (ws'.map W.s).map PyData.str = wsD ws' := by rw [List.map_map]; rfl
  unfold stD Sd.d
  rw [e1, e2]
theorem wsD_us {N : Nat} : ∀ ws : List W, Us N (6 * ws.length) 0 (wsD ws)
  | [] => Us.nil
  | w :: ws => by
    have a : Ux N 5 0 (.str w.s) := Ux.str (by cases w <;> decide +kernel) (by cases w <;> decide +kernel)
    have := (Us.one a).app (wsD_us (N := N) ws)
    exact this.mono (Nat.le_refl _) (by rw [List.length_cons]; omega) (Nat.le_refl _)
theorem nk_ux {mk : Option Nat} {m : Nat} (h : ∀ i, mk = some i → i < m) (hm : m ≤ 1000) : Ux (10 ^ 18) 200 1 (nkD mk) := by
  cases mk with
  | none => exact .none
  | some i =>
    have := h i rfl
    exact .int (Nat.le_trans (show (i : Int).natAbs ≤ 1000 by omega) (by decide +kernel)) (by decide +kernel) (by omega)
theorem Sd.Ok.ux {s : Sd} {m : Nat} (h : s.Ok m) (hm : m ≤ 20) : Ux (10 ^ 18) 400 2 s.d := by
  have hl := h.len
  have := (Us.one (nk_ux h.lt (by omega))).app ((Us.one (Ux.bool (N := 10 ^ 18) (w := 0) (k := 1) s.cl)).app (.one (Ux.tup_iff.mpr (wsD_us s.ws))))
  exact Ux.tup_iff.mpr (this.mono (Nat.le_refl _) (by omega) (Nat.le_refl _))
theorem sd_is (s : Sd) : cop .is s.d .none = some false := rfl
theorem small_ux {n : Nat} (h : n < 1000000) : Ux (10 ^ 18) 200 0 (.int n) := .int (Nat.le_trans (show (n : Int).natAbs ≤ 1000000 by omega) (by decide +kernel)) (by decide +kernel) (by omega)
theorem Sd.step_ok {s s' : Sd} {m h : Nat} (ok : s.Ok m) (hh : h < m) (e : s.step h = some s') : s'.Ok m := by
  obtain ⟨mk, cl, ws⟩ := s
  unfold Sd.step at e
  have h1 := ok.len
  have h2 := ok.lt
  dsimp only at e h1 h2
  split at e
  · rename_i w ew
    split at e
    · rename_i z c w' eb
      cases e
      refine ⟨by simpa using h1, fun i hi => ?_⟩
      cases w <;> simp only [behW, Option.some.injEq, Prod.mk.injEq, reduceCtorEq] at eb
      · obtain ⟨rfl, _⟩ := eb
        cases hi
        exact hh
      all_goals
        obtain ⟨rfl, _⟩ := eb
        exact h2 i hi
    · cases e
  · cases e
theorem Ux.repr {N w k : Nat} {d : D} (h : Ux N w k d) (hN : N < 10 ^ 60) (hw : w ≤ 200000) (hk : k ≤ 60) : blt .repr [d] = some (.d (.str d.shown)) := (h.fit hN).repr (Nat.le_trans (show 66 * w + 64 ≤ 16777216 by omega) (by decide +kernel)) (by omega)
/-- the law's own step, as a thing -/
def stepD (s : Sd) (h : Nat) : D := match s.step h with
  | some s' => s'.d
  | none => .none
end MI

set_option maxRecDepth 100000
/-! L03: whole weavings of deciders. -/
namespace MI
open PySem
theorem idx_map {α : Type} {f : α → D} {l : List α} {h : Nat} {a : α} (e : l[h]? = some a) : idxD (.list (l.map f)) (.int h) = some (f a) := by
  have hl := (List.getElem?_eq_some_iff.mp e).1
  show at? (l.map f) (h : Int) = _
  unfold at? nix
  rw [List.length_map, if_pos (by omega), if_pos (by omega)]
  show (l.map f)[(h : Int).toNat]? = _
  rw [Int.toNat_natCast, List.getElem?_map, e]
  rfl
theorem idx_mapT {α : Type} {f : α → D} {l : List α} {h : Nat} {a : α} (e : l[h]? = some a) : idxD (.tuple (l.map f)) (.int h) = some (f a) := idx_map e
theorem set_map {α : Type} {f : α → D} {l : List α} {h : Nat} (hl : h < l.length) (a : α) : setIt (some (.l (l.map f))) (.int h) (f a) = some (.l ((l.set h a).map f)) := by
  show ((nix (l.map f).length (h : Int)).map fun j => O.l ((l.map f).set j (f a))) = _
  unfold nix
  rw [List.length_map, if_pos (by omega), if_pos (by omega), Int.toNat_natCast, List.map_set]
  rfl
def natD (n : Nat) : D := .int n
/-- counts of words -/
theorem eqv_str (x y : Str) : PyData.eqv (.str x) (.str y) = (x == y) := rfl
theorem W.s_inj {a b : W} (h : a.s = b.s) : a = b := by
  cases a <;> cases b <;> first | rfl | exact absurd h (by decide +kernel)
theorem W.shaped (w : W) : SeqAt.shaped (.str w.s) = true := by cases w <;> decide +kernel
theorem wsD_shaped (ws : List W) : SeqAt.shaped (.list (wsD ws)) = true := ((Ux.lst_iff.mpr (wsD_us (N := 0) ws)).fit (by decide +kernel)).shaped (by decide)
theorem cnt_ws (ws : List W) (w : W) : mth .count (.list (wsD ws)) [.str w.s] = some (.d (.int (ws.count w))) := by
  have e : (wsD ws).countP (fun z => PyData.eqv z (.str w.s)) = ws.count w := by
    unfold wsD
    rw [List.countP_map, List.count]
    apply List.countP_congr
    intro x _
    show (x.s == w.s) = true ↔ (x == w) = true
    rw [beq_iff_eq, beq_iff_eq]
    exact ⟨W.s_inj, fun e => by rw [e]⟩
  show (cntD (.str w.s) (wsD ws)).map (fun (n : Nat) => O.d (.int (n : Int))) = _
  unfold cntD
  rw [w.shaped, wsD_shaped, e]
  rfl
theorem cnt_holds (ws : List W) : mth .count (.list (wsD ws)) [.str "holds"] = some (.d (.int (ws.count .holds))) := cnt_ws ws .holds
theorem cnt_right (ws : List W) : mth .count (.list (wsD ws)) [.str "right"] = some (.d (.int (ws.count .right))) := cnt_ws ws .right
theorem cnt_down (ws : List W) : mth .count (.list (wsD ws)) [.str "down"] = some (.d (.int (ws.count .down))) := cnt_ws ws .down
theorem eq_nilL (xs : List D) (h : SeqAt.shaped (.list xs) = true) : cop .eq (.list xs) (.list []) = some xs.isEmpty := by
  show eqD (.list xs) (.list []) = _
  unfold eqD
  show (if SeqAt.shaped (.list xs) && SeqAt.shaped (.list []) then some (PyData.eqv (.list xs) (.list [])) else none) = _
  rw [h]
  cases xs <;> rfl
theorem ne_out (w : W) : cop .ne (.str w.s) (.str "out") = some (!decide (w = W.out)) := by
  show (cop .eq (.str w.s) (.str W.out.s)).map (!·) = _
  rw [W.eq]
  rfl
theorem wsD_nil (ws : List W) : (wsD ws).isEmpty = ws.isEmpty := by cases ws <;> rfl
/-- a comprehension that keeps some -/
theorem lc_filter {α : Type} {X : Ctx} {i : Nat} {c : E} {l : List α} {Γ : Env} (d : α → D) (p : α → Bool) (hs : slot Γ i = none) (hi : i < Γ.length)
    (hc : ∀ a ∈ l, (evE X c (Γ.set i (some (.d (d a))))).bind kTB = .ok (p a) (Γ.set i (some (.d (d a))))) (hinj : ∀ a ∈ l, ∀ b ∈ l, d a = d b → p a = p b) :
    kLc X [i] (.nm i) c (.var i) (l.map d) Γ = .ok (.l ((l.filter p).map d)) Γ := by
  have key : ∀ x ∈ l.map d, ∃ a ∈ l, d a = x := fun x hx => by
    obtain ⟨a, h1, h2⟩ := List.mem_map.mp hx
    exact ⟨a, h1, h2⟩
  haveI := Classical.propDecidable
  let q : D → Bool := fun x => if h : ∃ a ∈ l, d a = x then p (Classical.choose h) else false
  have hq : ∀ a ∈ l, q (d a) = p a := fun a ha => by
    have h : ∃ b ∈ l, d b = d a := ⟨a, ha, rfl⟩
    show (if h : ∃ b ∈ l, d b = d a then p (Classical.choose h) else false) = _
    rw [dif_pos h]
    exact hinj _ (Classical.choose_spec h).1 _ ha (Classical.choose_spec h).2
  have e := lc_pure (X := X) (i := i) (c := c) (e := .var i) (xs := l.map d) (Γ := Γ) q id hs hi (fun x hx => by
    obtain ⟨a, h1, rfl⟩ := key x hx
    rw [hc a h1, hq a h1]) (fun x hx _ => by
    obtain ⟨a, h1, rfl⟩ := key x hx
    rw [ev_var]
    have : slot (Γ.set i (some (.d (d a)))) i = some (.d (d a)) := by
      unfold slot
      rw [List.getElem?_set_self (by simpa using hi)]
      rfl
    rw [this]
    rfl)
  rw [e, List.map_id]
  congr 2
  rw [List.filter_map]
  congr 1
  apply List.filter_congr
  intro a ha
  exact hq a ha
theorem fits_run {fu k : Nat} (hk : 1 ≤ k) (s : Sd) : ∃ outs, callF prog fu k 19 [.d s.d] = .ok (.d (.bool (fitsB s.ws))) outs := by
  obtain ⟨k, rfl⟩ : ∃ j, k = j + 1 := ⟨k - 1, by omega⟩
  rw [run_at (np := 1) (b := fn__law_fits.body) (Γ := [some (.d s.d), none, none]) (fn := fn__law_fits) rfl rfl rfl rfl rfl]
  simp only [fn__law_fits]
  obtain ⟨mk, cl, ws⟩ := s
  simp only [Sd.d]
  have e := lc_filter (X := prog.ctx fu (callF prog fu k)) (i := 2) (c := .cmp .ne (.var 2) (.cst (.str "out"))) (l := ws) (Γ := [some (.d (.tuple [nkD mk, .bool cl, .tuple (wsD ws)])), none, none]) (fun w => .str w.s) (fun w => !decide (w = W.out)) rfl (by simp)
    (fun w hw => by simp (disch := first | omega | (simp only [List.length_take, List.length_drop, List.length_map, List.length_append, List.length_cons, List.length_nil, wsD_len]; omega)) only [ss_cons, ss_nil, seq_nx, seq_rt, s_asg, kAsg, s_set, kSet2, s_ife, s_ret, kRt, ev_bin, kBin, kBin0, kBin1, kBin2, ev_cmp, kCmp, kCmp0, kCmp1, kCmp2, kBo, ev_idx, kIdx, kIdx0, kIdx1, kD1, ev_cst, ev_var, ev_lst, kLst, evDs_nil, ev_blt, kBlt, kBlt1, ev_and, opB_s, opB_idx, opB_cst, opB_bin, opB_lst, opB_blt, hasS_0, hasS_s, rdB_s, rdB_v, rdO_d, rdO_l, rdVO_d, slot_0, slot_s, kTD_d, kTD_l, kTB_b, kV, R.bind_ok, R.st_ok, optR_some, List.set_cons_zero, List.set_cons_succ, Option.isSome_some, i4_0, i4_1, i4_2, i4_3, st4_1, st4_2, st4_3, b_add, c_gt, c_ge, c_le, ev_call, evAs_pass, evAs_nil, kAs, kAs1, kConsO, kGv, gvO_some, pass_d, tb_t, tb_f, tb_end, slot_set0, ev_lc, evI_rng1, kRng1, evI_seq, kSeq, kDs, kCons, evDs_cons, opB_lc, opB_call, len_list, ev_mth, kMth1, kdB_s, kdB_v, opB_mth, ev_slh, kSlh, kSlh1, kSlh2, kSlh3, ev_sll, kSll, kSll1, kSll2, kSll3, asInt_int, slD_tup, slD_list, ev_neg, kNeg_int, ev_lls0, kApp, kAppl, kApp2, kExt, ev_blts, kBlts, s_tasg, kTasg, s_pass, s_expr, kExpr, opB_slh, opB_sll, opB_neg, opB_blts, opB_tup, ev_tup, kTup, rdVO_l, rdVO_k, rdVO_ll, rdO_k, items_list, list_list, list_tup, ev_isi, kIsi, kIsi1, ev_chain, kCh0, kCh1, kCh3, opB_isi, opB_glob, opB_chain, opB_not, opB_and, opB_or, opB_rev, kRev, kRev1, ev_rev, ev_not, kNot, ev_or, isTy_some, kAnd_t, kAnd_f, kOr_t, kOr_f, kIf_t, kIf_f, Bool.not_true, Bool.not_false, kCh2_t, kCh2_f, c_lt, c_eqI, c_neI, len_tup, items_tup, tuple_list, beq_self_eq_true, kCall_eq, kRes_ok, kRes_exc, evAs_t, kAsT_some, pass_k, pass_ll, pass_x, pass_l, pass_s, ev_pop, kPopE, kPop1, kPop0, ev_popA, kPopA_t, isL_l, isLL_l, isLL_ll, ev_lln, ev_slb, kSlb, kSlb1, kSlb2, kSlb3, kSlb4, kSlb5, evI_keys, kKeys_d, evI_items, kItems_d, evI_enum, kEnum_l, kEnum_t, evI_zip, kZip, kZip1_tt, kZip1_ll, evI_rng2, kRng2, kRng2b, evI_rng3, kRng3, kRng3b, kRng3c, s_appC, kAppC_t, s_applC, kApplC_t, s_extC, kExtC_t, s_insC, kInsC_t, kIns1, kIns2, s_revs, kRevs_l, s_clr, kClr_l, kClr_k, s_par, kParS, s_brk, s_cont, s_retn, s_raise, s_try, s_whl, s_rv, kRetv_s, kSet_eq, kSetC_t, putSlot_s, seq_bk, seq_ct, seq_exc, tryE_nx, tryE_rt, fin_r, fin_n, fin_e, raise_step, raise_paper, raise_stand, raise_many, raise_type, opS_some, asg_tp, setAll_nil, setAll_cons, ctx_cf, ctx_gl, tb_1, tb_2, tb_3, tb_4, tb_5, tb_nil, ev_ite, kIte_t, kIte_f, kMth_eq, kMthK_t, kMth2_eq, kMth2C_t, kdS_d, kdS_l, kdS_k, kd_lst, kd_tup, kd_dct, kd_str, on_1, on_2, on_3, on_4, on_5, on_6, on_7, on_8, on_9, on_10, on_11, eq_self, decide_true, kTD_k, kTD_ll, b_sub, isN_int, isN_bool, isN_str, isN_tup, isN_lst, isN_dct, isN_non, inN_int, inN_bool, inN_str, inN_tup, inN_lst, inN_dct, inN_non, isT_true, inT_true, isT_false, inT_false, opB_cmp, opB_ite, opB_dct, opB_pop, opB_popat, opB_isx, opB_att, opB_slb, ev_dct, rdVO_s, R.bind_exc, R.st_exc, List.take_succ_cons, List.take_zero, ne_out]) (fun a _ b _ h => by
      have : a = b := W.s_inj (PyData.str.inj h)
      rw [this])
  have e : kLc (prog.ctx fu (callF prog fu k)) [2] (.nm 2) (.cmp .ne (.var 2) (.cst (.str "out"))) (.var 2) (wsD ws) _ = .ok (.l (wsD (ws.filter fun w => !decide (w = W.out)))) _ := e
  unfold fitsB
  dsimp only
  generalize ws.filter (fun w => !decide (w = W.out)) = came at e ⊢
  have c1 : decide ((1 : Int) < (came.count W.holds : Int)) = decide (1 < came.count W.holds) := by rw [decide_eq_decide]; omega
  simp (disch := first | omega | (simp only [List.length_take, List.length_drop, List.length_map, List.length_append, List.length_cons, List.length_nil, wsD_len]; omega)) only [ss_cons, ss_nil, seq_nx, seq_rt, s_asg, kAsg, s_set, kSet2, s_ife, s_ret, kRt, ev_bin, kBin, kBin0, kBin1, kBin2, ev_cmp, kCmp, kCmp0, kCmp1, kCmp2, kBo, ev_idx, kIdx, kIdx0, kIdx1, kD1, ev_cst, ev_var, ev_lst, kLst, evDs_nil, ev_blt, kBlt, kBlt1, ev_and, opB_s, opB_idx, opB_cst, opB_bin, opB_lst, opB_blt, hasS_0, hasS_s, rdB_s, rdB_v, rdO_d, rdO_l, rdVO_d, slot_0, slot_s, kTD_d, kTD_l, kTB_b, kV, R.bind_ok, R.st_ok, optR_some, List.set_cons_zero, List.set_cons_succ, Option.isSome_some, i4_0, i4_1, i4_2, i4_3, st4_1, st4_2, st4_3, b_add, c_gt, c_ge, c_le, ev_call, evAs_pass, evAs_nil, kAs, kAs1, kConsO, kGv, gvO_some, pass_d, tb_t, tb_f, tb_end, slot_set0, ev_lc, evI_rng1, kRng1, evI_seq, kSeq, kDs, kCons, evDs_cons, opB_lc, opB_call, len_list, ev_mth, kMth1, kdB_s, kdB_v, opB_mth, ev_slh, kSlh, kSlh1, kSlh2, kSlh3, ev_sll, kSll, kSll1, kSll2, kSll3, asInt_int, slD_tup, slD_list, ev_neg, kNeg_int, ev_lls0, kApp, kAppl, kApp2, kExt, ev_blts, kBlts, s_tasg, kTasg, s_pass, s_expr, kExpr, opB_slh, opB_sll, opB_neg, opB_blts, opB_tup, ev_tup, kTup, rdVO_l, rdVO_k, rdVO_ll, rdO_k, items_list, list_list, list_tup, ev_isi, kIsi, kIsi1, ev_chain, kCh0, kCh1, kCh3, opB_isi, opB_glob, opB_chain, opB_not, opB_and, opB_or, opB_rev, kRev, kRev1, ev_rev, ev_not, kNot, ev_or, isTy_some, kAnd_t, kAnd_f, kOr_t, kOr_f, kIf_t, kIf_f, Bool.not_true, Bool.not_false, kCh2_t, kCh2_f, c_lt, c_eqI, c_neI, len_tup, items_tup, tuple_list, beq_self_eq_true, kCall_eq, kRes_ok, kRes_exc, evAs_t, kAsT_some, pass_k, pass_ll, pass_x, pass_l, pass_s, ev_pop, kPopE, kPop1, kPop0, ev_popA, kPopA_t, isL_l, isLL_l, isLL_ll, ev_lln, ev_slb, kSlb, kSlb1, kSlb2, kSlb3, kSlb4, kSlb5, evI_keys, kKeys_d, evI_items, kItems_d, evI_enum, kEnum_l, kEnum_t, evI_zip, kZip, kZip1_tt, kZip1_ll, evI_rng2, kRng2, kRng2b, evI_rng3, kRng3, kRng3b, kRng3c, s_appC, kAppC_t, s_applC, kApplC_t, s_extC, kExtC_t, s_insC, kInsC_t, kIns1, kIns2, s_revs, kRevs_l, s_clr, kClr_l, kClr_k, s_par, kParS, s_brk, s_cont, s_retn, s_raise, s_try, s_whl, s_rv, kRetv_s, kSet_eq, kSetC_t, putSlot_s, seq_bk, seq_ct, seq_exc, tryE_nx, tryE_rt, fin_r, fin_n, fin_e, raise_step, raise_paper, raise_stand, raise_many, raise_type, opS_some, asg_tp, setAll_nil, setAll_cons, ctx_cf, ctx_gl, tb_1, tb_2, tb_3, tb_4, tb_5, tb_nil, ev_ite, kIte_t, kIte_f, kMth_eq, kMthK_t, kMth2_eq, kMth2C_t, kdS_d, kdS_l, kdS_k, kd_lst, kd_tup, kd_dct, kd_str, on_1, on_2, on_3, on_4, on_5, on_6, on_7, on_8, on_9, on_10, on_11, eq_self, decide_true, kTD_k, kTD_ll, b_sub, isN_int, isN_bool, isN_str, isN_tup, isN_lst, isN_dct, isN_non, inN_int, inN_bool, inN_str, inN_tup, inN_lst, inN_dct, inN_non, isT_true, inT_true, isT_false, inT_false, opB_cmp, opB_ite, opB_dct, opB_pop, opB_popat, opB_isx, opB_att, opB_slb, ev_dct, rdVO_s, R.bind_exc, R.st_exc, List.take_succ_cons, List.take_zero, i3_2, e, cnt_holds, c1]
  by_cases h1 : 1 < came.count W.holds
  · simp (disch := first | omega | (simp only [List.length_take, List.length_drop, List.length_map, List.length_append, List.length_cons, List.length_nil, wsD_len]; omega)) only [ss_cons, ss_nil, seq_nx, seq_rt, s_asg, kAsg, s_set, kSet2, s_ife, s_ret, kRt, ev_bin, kBin, kBin0, kBin1, kBin2, ev_cmp, kCmp, kCmp0, kCmp1, kCmp2, kBo, ev_idx, kIdx, kIdx0, kIdx1, kD1, ev_cst, ev_var, ev_lst, kLst, evDs_nil, ev_blt, kBlt, kBlt1, ev_and, opB_s, opB_idx, opB_cst, opB_bin, opB_lst, opB_blt, hasS_0, hasS_s, rdB_s, rdB_v, rdO_d, rdO_l, rdVO_d, slot_0, slot_s, kTD_d, kTD_l, kTB_b, kV, R.bind_ok, R.st_ok, optR_some, List.set_cons_zero, List.set_cons_succ, Option.isSome_some, i4_0, i4_1, i4_2, i4_3, st4_1, st4_2, st4_3, b_add, c_gt, c_ge, c_le, ev_call, evAs_pass, evAs_nil, kAs, kAs1, kConsO, kGv, gvO_some, pass_d, tb_t, tb_f, tb_end, slot_set0, ev_lc, evI_rng1, kRng1, evI_seq, kSeq, kDs, kCons, evDs_cons, opB_lc, opB_call, len_list, ev_mth, kMth1, kdB_s, kdB_v, opB_mth, ev_slh, kSlh, kSlh1, kSlh2, kSlh3, ev_sll, kSll, kSll1, kSll2, kSll3, asInt_int, slD_tup, slD_list, ev_neg, kNeg_int, ev_lls0, kApp, kAppl, kApp2, kExt, ev_blts, kBlts, s_tasg, kTasg, s_pass, s_expr, kExpr, opB_slh, opB_sll, opB_neg, opB_blts, opB_tup, ev_tup, kTup, rdVO_l, rdVO_k, rdVO_ll, rdO_k, items_list, list_list, list_tup, ev_isi, kIsi, kIsi1, ev_chain, kCh0, kCh1, kCh3, opB_isi, opB_glob, opB_chain, opB_not, opB_and, opB_or, opB_rev, kRev, kRev1, ev_rev, ev_not, kNot, ev_or, isTy_some, kAnd_t, kAnd_f, kOr_t, kOr_f, kIf_t, kIf_f, Bool.not_true, Bool.not_false, kCh2_t, kCh2_f, c_lt, c_eqI, c_neI, len_tup, items_tup, tuple_list, beq_self_eq_true, kCall_eq, kRes_ok, kRes_exc, evAs_t, kAsT_some, pass_k, pass_ll, pass_x, pass_l, pass_s, ev_pop, kPopE, kPop1, kPop0, ev_popA, kPopA_t, isL_l, isLL_l, isLL_ll, ev_lln, ev_slb, kSlb, kSlb1, kSlb2, kSlb3, kSlb4, kSlb5, evI_keys, kKeys_d, evI_items, kItems_d, evI_enum, kEnum_l, kEnum_t, evI_zip, kZip, kZip1_tt, kZip1_ll, evI_rng2, kRng2, kRng2b, evI_rng3, kRng3, kRng3b, kRng3c, s_appC, kAppC_t, s_applC, kApplC_t, s_extC, kExtC_t, s_insC, kInsC_t, kIns1, kIns2, s_revs, kRevs_l, s_clr, kClr_l, kClr_k, s_par, kParS, s_brk, s_cont, s_retn, s_raise, s_try, s_whl, s_rv, kRetv_s, kSet_eq, kSetC_t, putSlot_s, seq_bk, seq_ct, seq_exc, tryE_nx, tryE_rt, fin_r, fin_n, fin_e, raise_step, raise_paper, raise_stand, raise_many, raise_type, opS_some, asg_tp, setAll_nil, setAll_cons, ctx_cf, ctx_gl, tb_1, tb_2, tb_3, tb_4, tb_5, tb_nil, ev_ite, kIte_t, kIte_f, kMth_eq, kMthK_t, kMth2_eq, kMth2C_t, kdS_d, kdS_l, kdS_k, kd_lst, kd_tup, kd_dct, kd_str, on_1, on_2, on_3, on_4, on_5, on_6, on_7, on_8, on_9, on_10, on_11, eq_self, decide_true, kTD_k, kTD_ll, b_sub, isN_int, isN_bool, isN_str, isN_tup, isN_lst, isN_dct, isN_non, inN_int, inN_bool, inN_str, inN_tup, inN_lst, inN_dct, inN_non, isT_true, inT_true, isT_false, inT_false, opB_cmp, opB_ite, opB_dct, opB_pop, opB_popat, opB_isx, opB_att, opB_slb, ev_dct, rdVO_s, R.bind_exc, R.st_exc, List.take_succ_cons, List.take_zero, decide_eq_true h1]
    exact ⟨_, by rw [if_pos h1]⟩
  · simp (disch := first | omega | (simp only [List.length_take, List.length_drop, List.length_map, List.length_append, List.length_cons, List.length_nil, wsD_len]; omega)) only [ss_cons, ss_nil, seq_nx, seq_rt, s_asg, kAsg, s_set, kSet2, s_ife, s_ret, kRt, ev_bin, kBin, kBin0, kBin1, kBin2, ev_cmp, kCmp, kCmp0, kCmp1, kCmp2, kBo, ev_idx, kIdx, kIdx0, kIdx1, kD1, ev_cst, ev_var, ev_lst, kLst, evDs_nil, ev_blt, kBlt, kBlt1, ev_and, opB_s, opB_idx, opB_cst, opB_bin, opB_lst, opB_blt, hasS_0, hasS_s, rdB_s, rdB_v, rdO_d, rdO_l, rdVO_d, slot_0, slot_s, kTD_d, kTD_l, kTB_b, kV, R.bind_ok, R.st_ok, optR_some, List.set_cons_zero, List.set_cons_succ, Option.isSome_some, i4_0, i4_1, i4_2, i4_3, st4_1, st4_2, st4_3, b_add, c_gt, c_ge, c_le, ev_call, evAs_pass, evAs_nil, kAs, kAs1, kConsO, kGv, gvO_some, pass_d, tb_t, tb_f, tb_end, slot_set0, ev_lc, evI_rng1, kRng1, evI_seq, kSeq, kDs, kCons, evDs_cons, opB_lc, opB_call, len_list, ev_mth, kMth1, kdB_s, kdB_v, opB_mth, ev_slh, kSlh, kSlh1, kSlh2, kSlh3, ev_sll, kSll, kSll1, kSll2, kSll3, asInt_int, slD_tup, slD_list, ev_neg, kNeg_int, ev_lls0, kApp, kAppl, kApp2, kExt, ev_blts, kBlts, s_tasg, kTasg, s_pass, s_expr, kExpr, opB_slh, opB_sll, opB_neg, opB_blts, opB_tup, ev_tup, kTup, rdVO_l, rdVO_k, rdVO_ll, rdO_k, items_list, list_list, list_tup, ev_isi, kIsi, kIsi1, ev_chain, kCh0, kCh1, kCh3, opB_isi, opB_glob, opB_chain, opB_not, opB_and, opB_or, opB_rev, kRev, kRev1, ev_rev, ev_not, kNot, ev_or, isTy_some, kAnd_t, kAnd_f, kOr_t, kOr_f, kIf_t, kIf_f, Bool.not_true, Bool.not_false, kCh2_t, kCh2_f, c_lt, c_eqI, c_neI, len_tup, items_tup, tuple_list, beq_self_eq_true, kCall_eq, kRes_ok, kRes_exc, evAs_t, kAsT_some, pass_k, pass_ll, pass_x, pass_l, pass_s, ev_pop, kPopE, kPop1, kPop0, ev_popA, kPopA_t, isL_l, isLL_l, isLL_ll, ev_lln, ev_slb, kSlb, kSlb1, kSlb2, kSlb3, kSlb4, kSlb5, evI_keys, kKeys_d, evI_items, kItems_d, evI_enum, kEnum_l, kEnum_t, evI_zip, kZip, kZip1_tt, kZip1_ll, evI_rng2, kRng2, kRng2b, evI_rng3, kRng3, kRng3b, kRng3c, s_appC, kAppC_t, s_applC, kApplC_t, s_extC, kExtC_t, s_insC, kInsC_t, kIns1, kIns2, s_revs, kRevs_l, s_clr, kClr_l, kClr_k, s_par, kParS, s_brk, s_cont, s_retn, s_raise, s_try, s_whl, s_rv, kRetv_s, kSet_eq, kSetC_t, putSlot_s, seq_bk, seq_ct, seq_exc, tryE_nx, tryE_rt, fin_r, fin_n, fin_e, raise_step, raise_paper, raise_stand, raise_many, raise_type, opS_some, asg_tp, setAll_nil, setAll_cons, ctx_cf, ctx_gl, tb_1, tb_2, tb_3, tb_4, tb_5, tb_nil, ev_ite, kIte_t, kIte_f, kMth_eq, kMthK_t, kMth2_eq, kMth2C_t, kdS_d, kdS_l, kdS_k, kd_lst, kd_tup, kd_dct, kd_str, on_1, on_2, on_3, on_4, on_5, on_6, on_7, on_8, on_9, on_10, on_11, eq_self, decide_true, kTD_k, kTD_ll, b_sub, isN_int, isN_bool, isN_str, isN_tup, isN_lst, isN_dct, isN_non, inN_int, inN_bool, inN_str, inN_tup, inN_lst, inN_dct, inN_non, isT_true, inT_true, isT_false, inT_false, opB_cmp, opB_ite, opB_dct, opB_pop, opB_popat, opB_isx, opB_att, opB_slb, ev_dct, rdVO_s, R.bind_exc, R.st_exc, List.take_succ_cons, List.take_zero, decide_eq_false h1, eq_nilL _ (wsD_shaped came), wsD_nil]
    rw [if_neg h1]
    cases h2 : came.isEmpty
    · have c2 : decide ((came.count W.right : Int) < (came.length : Int)) = decide (came.count W.right < came.length) := by rw [decide_eq_decide]; omega
      have c3 : decide ((came.count W.down : Int) < (came.length : Int)) = decide (came.count W.down < came.length) := by rw [decide_eq_decide]; omega
      simp (disch := first | omega | (simp only [List.length_take, List.length_drop, List.length_map, List.length_append, List.length_cons, List.length_nil, wsD_len]; omega)) only [ss_cons, ss_nil, seq_nx, seq_rt, s_asg, kAsg, s_set, kSet2, s_ife, s_ret, kRt, ev_bin, kBin, kBin0, kBin1, kBin2, ev_cmp, kCmp, kCmp0, kCmp1, kCmp2, kBo, ev_idx, kIdx, kIdx0, kIdx1, kD1, ev_cst, ev_var, ev_lst, kLst, evDs_nil, ev_blt, kBlt, kBlt1, ev_and, opB_s, opB_idx, opB_cst, opB_bin, opB_lst, opB_blt, hasS_0, hasS_s, rdB_s, rdB_v, rdO_d, rdO_l, rdVO_d, slot_0, slot_s, kTD_d, kTD_l, kTB_b, kV, R.bind_ok, R.st_ok, optR_some, List.set_cons_zero, List.set_cons_succ, Option.isSome_some, i4_0, i4_1, i4_2, i4_3, st4_1, st4_2, st4_3, b_add, c_gt, c_ge, c_le, ev_call, evAs_pass, evAs_nil, kAs, kAs1, kConsO, kGv, gvO_some, pass_d, tb_t, tb_f, tb_end, slot_set0, ev_lc, evI_rng1, kRng1, evI_seq, kSeq, kDs, kCons, evDs_cons, opB_lc, opB_call, len_list, ev_mth, kMth1, kdB_s, kdB_v, opB_mth, ev_slh, kSlh, kSlh1, kSlh2, kSlh3, ev_sll, kSll, kSll1, kSll2, kSll3, asInt_int, slD_tup, slD_list, ev_neg, kNeg_int, ev_lls0, kApp, kAppl, kApp2, kExt, ev_blts, kBlts, s_tasg, kTasg, s_pass, s_expr, kExpr, opB_slh, opB_sll, opB_neg, opB_blts, opB_tup, ev_tup, kTup, rdVO_l, rdVO_k, rdVO_ll, rdO_k, items_list, list_list, list_tup, ev_isi, kIsi, kIsi1, ev_chain, kCh0, kCh1, kCh3, opB_isi, opB_glob, opB_chain, opB_not, opB_and, opB_or, opB_rev, kRev, kRev1, ev_rev, ev_not, kNot, ev_or, isTy_some, kAnd_t, kAnd_f, kOr_t, kOr_f, kIf_t, kIf_f, Bool.not_true, Bool.not_false, kCh2_t, kCh2_f, c_lt, c_eqI, c_neI, len_tup, items_tup, tuple_list, beq_self_eq_true, kCall_eq, kRes_ok, kRes_exc, evAs_t, kAsT_some, pass_k, pass_ll, pass_x, pass_l, pass_s, ev_pop, kPopE, kPop1, kPop0, ev_popA, kPopA_t, isL_l, isLL_l, isLL_ll, ev_lln, ev_slb, kSlb, kSlb1, kSlb2, kSlb3, kSlb4, kSlb5, evI_keys, kKeys_d, evI_items, kItems_d, evI_enum, kEnum_l, kEnum_t, evI_zip, kZip, kZip1_tt, kZip1_ll, evI_rng2, kRng2, kRng2b, evI_rng3, kRng3, kRng3b, kRng3c, s_appC, kAppC_t, s_applC, kApplC_t, s_extC, kExtC_t, s_insC, kInsC_t, kIns1, kIns2, s_revs, kRevs_l, s_clr, kClr_l, kClr_k, s_par, kParS, s_brk, s_cont, s_retn, s_raise, s_try, s_whl, s_rv, kRetv_s, kSet_eq, kSetC_t, putSlot_s, seq_bk, seq_ct, seq_exc, tryE_nx, tryE_rt, fin_r, fin_n, fin_e, raise_step, raise_paper, raise_stand, raise_many, raise_type, opS_some, asg_tp, setAll_nil, setAll_cons, ctx_cf, ctx_gl, tb_1, tb_2, tb_3, tb_4, tb_5, tb_nil, ev_ite, kIte_t, kIte_f, kMth_eq, kMthK_t, kMth2_eq, kMth2C_t, kdS_d, kdS_l, kdS_k, kd_lst, kd_tup, kd_dct, kd_str, on_1, on_2, on_3, on_4, on_5, on_6, on_7, on_8, on_9, on_10, on_11, eq_self, decide_true, kTD_k, kTD_ll, b_sub, isN_int, isN_bool, isN_str, isN_tup, isN_lst, isN_dct, isN_non, inN_int, inN_bool, inN_str, inN_tup, inN_lst, inN_dct, inN_non, isT_true, inT_true, isT_false, inT_false, opB_cmp, opB_ite, opB_dct, opB_pop, opB_popat, opB_isx, opB_att, opB_slb, ev_dct, rdVO_s, R.bind_exc, R.st_exc, List.take_succ_cons, List.take_zero, h2, cnt_right, cnt_down, len_list, wsD_len, c2]
      by_cases h3 : came.count W.right < came.length
      · simp (disch := first | omega | (simp only [List.length_take, List.length_drop, List.length_map, List.length_append, List.length_cons, List.length_nil, wsD_len]; omega)) only [ss_cons, ss_nil, seq_nx, seq_rt, s_asg, kAsg, s_set, kSet2, s_ife, s_ret, kRt, ev_bin, kBin, kBin0, kBin1, kBin2, ev_cmp, kCmp, kCmp0, kCmp1, kCmp2, kBo, ev_idx, kIdx, kIdx0, kIdx1, kD1, ev_cst, ev_var, ev_lst, kLst, evDs_nil, ev_blt, kBlt, kBlt1, ev_and, opB_s, opB_idx, opB_cst, opB_bin, opB_lst, opB_blt, hasS_0, hasS_s, rdB_s, rdB_v, rdO_d, rdO_l, rdVO_d, slot_0, slot_s, kTD_d, kTD_l, kTB_b, kV, R.bind_ok, R.st_ok, optR_some, List.set_cons_zero, List.set_cons_succ, Option.isSome_some, i4_0, i4_1, i4_2, i4_3, st4_1, st4_2, st4_3, b_add, c_gt, c_ge, c_le, ev_call, evAs_pass, evAs_nil, kAs, kAs1, kConsO, kGv, gvO_some, pass_d, tb_t, tb_f, tb_end, slot_set0, ev_lc, evI_rng1, kRng1, evI_seq, kSeq, kDs, kCons, evDs_cons, opB_lc, opB_call, len_list, ev_mth, kMth1, kdB_s, kdB_v, opB_mth, ev_slh, kSlh, kSlh1, kSlh2, kSlh3, ev_sll, kSll, kSll1, kSll2, kSll3, asInt_int, slD_tup, slD_list, ev_neg, kNeg_int, ev_lls0, kApp, kAppl, kApp2, kExt, ev_blts, kBlts, s_tasg, kTasg, s_pass, s_expr, kExpr, opB_slh, opB_sll, opB_neg, opB_blts, opB_tup, ev_tup, kTup, rdVO_l, rdVO_k, rdVO_ll, rdO_k, items_list, list_list, list_tup, ev_isi, kIsi, kIsi1, ev_chain, kCh0, kCh1, kCh3, opB_isi, opB_glob, opB_chain, opB_not, opB_and, opB_or, opB_rev, kRev, kRev1, ev_rev, ev_not, kNot, ev_or, isTy_some, kAnd_t, kAnd_f, kOr_t, kOr_f, kIf_t, kIf_f, Bool.not_true, Bool.not_false, kCh2_t, kCh2_f, c_lt, c_eqI, c_neI, len_tup, items_tup, tuple_list, beq_self_eq_true, kCall_eq, kRes_ok, kRes_exc, evAs_t, kAsT_some, pass_k, pass_ll, pass_x, pass_l, pass_s, ev_pop, kPopE, kPop1, kPop0, ev_popA, kPopA_t, isL_l, isLL_l, isLL_ll, ev_lln, ev_slb, kSlb, kSlb1, kSlb2, kSlb3, kSlb4, kSlb5, evI_keys, kKeys_d, evI_items, kItems_d, evI_enum, kEnum_l, kEnum_t, evI_zip, kZip, kZip1_tt, kZip1_ll, evI_rng2, kRng2, kRng2b, evI_rng3, kRng3, kRng3b, kRng3c, s_appC, kAppC_t, s_applC, kApplC_t, s_extC, kExtC_t, s_insC, kInsC_t, kIns1, kIns2, s_revs, kRevs_l, s_clr, kClr_l, kClr_k, s_par, kParS, s_brk, s_cont, s_retn, s_raise, s_try, s_whl, s_rv, kRetv_s, kSet_eq, kSetC_t, putSlot_s, seq_bk, seq_ct, seq_exc, tryE_nx, tryE_rt, fin_r, fin_n, fin_e, raise_step, raise_paper, raise_stand, raise_many, raise_type, opS_some, asg_tp, setAll_nil, setAll_cons, ctx_cf, ctx_gl, tb_1, tb_2, tb_3, tb_4, tb_5, tb_nil, ev_ite, kIte_t, kIte_f, kMth_eq, kMthK_t, kMth2_eq, kMth2C_t, kdS_d, kdS_l, kdS_k, kd_lst, kd_tup, kd_dct, kd_str, on_1, on_2, on_3, on_4, on_5, on_6, on_7, on_8, on_9, on_10, on_11, eq_self, decide_true, kTD_k, kTD_ll, b_sub, isN_int, isN_bool, isN_str, isN_tup, isN_lst, isN_dct, isN_non, inN_int, inN_bool, inN_str, inN_tup, inN_lst, inN_dct, inN_non, isT_true, inT_true, isT_false, inT_false, opB_cmp, opB_ite, opB_dct, opB_pop, opB_popat, opB_isx, opB_att, opB_slb, ev_dct, rdVO_s, R.bind_exc, R.st_exc, List.take_succ_cons, List.take_zero, decide_eq_true h3, cnt_down, len_list, wsD_len, c3]
        exact ⟨_, rfl⟩
      · simp (disch := first | omega | (simp only [List.length_take, List.length_drop, List.length_map, List.length_append, List.length_cons, List.length_nil, wsD_len]; omega)) only [ss_cons, ss_nil, seq_nx, seq_rt, s_asg, kAsg, s_set, kSet2, s_ife, s_ret, kRt, ev_bin, kBin, kBin0, kBin1, kBin2, ev_cmp, kCmp, kCmp0, kCmp1, kCmp2, kBo, ev_idx, kIdx, kIdx0, kIdx1, kD1, ev_cst, ev_var, ev_lst, kLst, evDs_nil, ev_blt, kBlt, kBlt1, ev_and, opB_s, opB_idx, opB_cst, opB_bin, opB_lst, opB_blt, hasS_0, hasS_s, rdB_s, rdB_v, rdO_d, rdO_l, rdVO_d, slot_0, slot_s, kTD_d, kTD_l, kTB_b, kV, R.bind_ok, R.st_ok, optR_some, List.set_cons_zero, List.set_cons_succ, Option.isSome_some, i4_0, i4_1, i4_2, i4_3, st4_1, st4_2, st4_3, b_add, c_gt, c_ge, c_le, ev_call, evAs_pass, evAs_nil, kAs, kAs1, kConsO, kGv, gvO_some, pass_d, tb_t, tb_f, tb_end, slot_set0, ev_lc, evI_rng1, kRng1, evI_seq, kSeq, kDs, kCons, evDs_cons, opB_lc, opB_call, len_list, ev_mth, kMth1, kdB_s, kdB_v, opB_mth, ev_slh, kSlh, kSlh1, kSlh2, kSlh3, ev_sll, kSll, kSll1, kSll2, kSll3, asInt_int, slD_tup, slD_list, ev_neg, kNeg_int, ev_lls0, kApp, kAppl, kApp2, kExt, ev_blts, kBlts, s_tasg, kTasg, s_pass, s_expr, kExpr, opB_slh, opB_sll, opB_neg, opB_blts, opB_tup, ev_tup, kTup, rdVO_l, rdVO_k, rdVO_ll, rdO_k, items_list, list_list, list_tup, ev_isi, kIsi, kIsi1, ev_chain, kCh0, kCh1, kCh3, opB_isi, opB_glob, opB_chain, opB_not, opB_and, opB_or, opB_rev, kRev, kRev1, ev_rev, ev_not, kNot, ev_or, isTy_some, kAnd_t, kAnd_f, kOr_t, kOr_f, kIf_t, kIf_f, Bool.not_true, Bool.not_false, kCh2_t, kCh2_f, c_lt, c_eqI, c_neI, len_tup, items_tup, tuple_list, beq_self_eq_true, kCall_eq, kRes_ok, kRes_exc, evAs_t, kAsT_some, pass_k, pass_ll, pass_x, pass_l, pass_s, ev_pop, kPopE, kPop1, kPop0, ev_popA, kPopA_t, isL_l, isLL_l, isLL_ll, ev_lln, ev_slb, kSlb, kSlb1, kSlb2, kSlb3, kSlb4, kSlb5, evI_keys, kKeys_d, evI_items, kItems_d, evI_enum, kEnum_l, kEnum_t, evI_zip, kZip, kZip1_tt, kZip1_ll, evI_rng2, kRng2, kRng2b, evI_rng3, kRng3, kRng3b, kRng3c, s_appC, kAppC_t, s_applC, kApplC_t, s_extC, kExtC_t, s_insC, kInsC_t, kIns1, kIns2, s_revs, kRevs_l, s_clr, kClr_l, kClr_k, s_par, kParS, s_brk, s_cont, s_retn, s_raise, s_try, s_whl, s_rv, kRetv_s, kSet_eq, kSetC_t, putSlot_s, seq_bk, seq_ct, seq_exc, tryE_nx, tryE_rt, fin_r, fin_n, fin_e, raise_step, raise_paper, raise_stand, raise_many, raise_type, opS_some, asg_tp, setAll_nil, setAll_cons, ctx_cf, ctx_gl, tb_1, tb_2, tb_3, tb_4, tb_5, tb_nil, ev_ite, kIte_t, kIte_f, kMth_eq, kMthK_t, kMth2_eq, kMth2C_t, kdS_d, kdS_l, kdS_k, kd_lst, kd_tup, kd_dct, kd_str, on_1, on_2, on_3, on_4, on_5, on_6, on_7, on_8, on_9, on_10, on_11, eq_self, decide_true, kTD_k, kTD_ll, b_sub, isN_int, isN_bool, isN_str, isN_tup, isN_lst, isN_dct, isN_non, inN_int, inN_bool, inN_str, inN_tup, inN_lst, inN_dct, inN_non, isT_true, inT_true, isT_false, inT_false, opB_cmp, opB_ite, opB_dct, opB_pop, opB_popat, opB_isx, opB_att, opB_slb, ev_dct, rdVO_s, R.bind_exc, R.st_exc, List.take_succ_cons, List.take_zero, decide_eq_false h3]
        exact ⟨_, rfl⟩
    · simp (disch := first | omega | (simp only [List.length_take, List.length_drop, List.length_map, List.length_append, List.length_cons, List.length_nil, wsD_len]; omega)) only [ss_cons, ss_nil, seq_nx, seq_rt, s_asg, kAsg, s_set, kSet2, s_ife, s_ret, kRt, ev_bin, kBin, kBin0, kBin1, kBin2, ev_cmp, kCmp, kCmp0, kCmp1, kCmp2, kBo, ev_idx, kIdx, kIdx0, kIdx1, kD1, ev_cst, ev_var, ev_lst, kLst, evDs_nil, ev_blt, kBlt, kBlt1, ev_and, opB_s, opB_idx, opB_cst, opB_bin, opB_lst, opB_blt, hasS_0, hasS_s, rdB_s, rdB_v, rdO_d, rdO_l, rdVO_d, slot_0, slot_s, kTD_d, kTD_l, kTB_b, kV, R.bind_ok, R.st_ok, optR_some, List.set_cons_zero, List.set_cons_succ, Option.isSome_some, i4_0, i4_1, i4_2, i4_3, st4_1, st4_2, st4_3, b_add, c_gt, c_ge, c_le, ev_call, evAs_pass, evAs_nil, kAs, kAs1, kConsO, kGv, gvO_some, pass_d, tb_t, tb_f, tb_end, slot_set0, ev_lc, evI_rng1, kRng1, evI_seq, kSeq, kDs, kCons, evDs_cons, opB_lc, opB_call, len_list, ev_mth, kMth1, kdB_s, kdB_v, opB_mth, ev_slh, kSlh, kSlh1, kSlh2, kSlh3, ev_sll, kSll, kSll1, kSll2, kSll3, asInt_int, slD_tup, slD_list, ev_neg, kNeg_int, ev_lls0, kApp, kAppl, kApp2, kExt, ev_blts, kBlts, s_tasg, kTasg, s_pass, s_expr, kExpr, opB_slh, opB_sll, opB_neg, opB_blts, opB_tup, ev_tup, kTup, rdVO_l, rdVO_k, rdVO_ll, rdO_k, items_list, list_list, list_tup, ev_isi, kIsi, kIsi1, ev_chain, kCh0, kCh1, kCh3, opB_isi, opB_glob, opB_chain, opB_not, opB_and, opB_or, opB_rev, kRev, kRev1, ev_rev, ev_not, kNot, ev_or, isTy_some, kAnd_t, kAnd_f, kOr_t, kOr_f, kIf_t, kIf_f, Bool.not_true, Bool.not_false, kCh2_t, kCh2_f, c_lt, c_eqI, c_neI, len_tup, items_tup, tuple_list, beq_self_eq_true, kCall_eq, kRes_ok, kRes_exc, evAs_t, kAsT_some, pass_k, pass_ll, pass_x, pass_l, pass_s, ev_pop, kPopE, kPop1, kPop0, ev_popA, kPopA_t, isL_l, isLL_l, isLL_ll, ev_lln, ev_slb, kSlb, kSlb1, kSlb2, kSlb3, kSlb4, kSlb5, evI_keys, kKeys_d, evI_items, kItems_d, evI_enum, kEnum_l, kEnum_t, evI_zip, kZip, kZip1_tt, kZip1_ll, evI_rng2, kRng2, kRng2b, evI_rng3, kRng3, kRng3b, kRng3c, s_appC, kAppC_t, s_applC, kApplC_t, s_extC, kExtC_t, s_insC, kInsC_t, kIns1, kIns2, s_revs, kRevs_l, s_clr, kClr_l, kClr_k, s_par, kParS, s_brk, s_cont, s_retn, s_raise, s_try, s_whl, s_rv, kRetv_s, kSet_eq, kSetC_t, putSlot_s, seq_bk, seq_ct, seq_exc, tryE_nx, tryE_rt, fin_r, fin_n, fin_e, raise_step, raise_paper, raise_stand, raise_many, raise_type, opS_some, asg_tp, setAll_nil, setAll_cons, ctx_cf, ctx_gl, tb_1, tb_2, tb_3, tb_4, tb_5, tb_nil, ev_ite, kIte_t, kIte_f, kMth_eq, kMthK_t, kMth2_eq, kMth2C_t, kdS_d, kdS_l, kdS_k, kd_lst, kd_tup, kd_dct, kd_str, on_1, on_2, on_3, on_4, on_5, on_6, on_7, on_8, on_9, on_10, on_11, eq_self, decide_true, kTD_k, kTD_ll, b_sub, isN_int, isN_bool, isN_str, isN_tup, isN_lst, isN_dct, isN_non, inN_int, inN_bool, inN_str, inN_tup, inN_lst, inN_dct, inN_non, isT_true, inT_true, isT_false, inT_false, opB_cmp, opB_ite, opB_dct, opB_pop, opB_popat, opB_isx, opB_att, opB_slb, ev_dct, rdVO_s, R.bind_exc, R.st_exc, List.take_succ_cons, List.take_zero, h2]
      exact ⟨_, rfl⟩
theorem moves_run {fu k : Nat} (hk : 3 ≤ k) {s : Sd} {h : Nat} (hh : h < s.ws.length) (hs : s.ws.length ≤ 100) : ∃ outs, callF prog fu k 18 [.d s.d, .d (.int h)] = .ok (.d (stepD s h)) outs := by
  obtain ⟨k, rfl⟩ : ∃ j, k = j + 1 := ⟨k - 1, by omega⟩
  rw [run_at (np := 2) (b := fn__law_moves.body) (Γ := [some (.d s.d), some (.d (.int h))]) (fn := fn__law_moves) rfl rfl rfl rfl rfl]
  simp only [fn__law_moves]
  have e := step_decider_run (fu := fu) (k := k) (by omega) hh hs
  unfold stepR at e
  unfold stepD
  cases es : s.step h with
  | none =>
    rw [es] at e
    simp (disch := first | omega | (simp only [List.length_take, List.length_drop, List.length_map, List.length_append, List.length_cons, List.length_nil, wsD_len]; omega)) only [ss_cons, ss_nil, seq_nx, seq_rt, s_asg, kAsg, s_set, kSet2, s_ife, s_ret, kRt, ev_bin, kBin, kBin0, kBin1, kBin2, ev_cmp, kCmp, kCmp0, kCmp1, kCmp2, kBo, ev_idx, kIdx, kIdx0, kIdx1, kD1, ev_cst, ev_var, ev_lst, kLst, evDs_nil, ev_blt, kBlt, kBlt1, ev_and, opB_s, opB_idx, opB_cst, opB_bin, opB_lst, opB_blt, hasS_0, hasS_s, rdB_s, rdB_v, rdO_d, rdO_l, rdVO_d, slot_0, slot_s, kTD_d, kTD_l, kTB_b, kV, R.bind_ok, R.st_ok, optR_some, List.set_cons_zero, List.set_cons_succ, Option.isSome_some, i4_0, i4_1, i4_2, i4_3, st4_1, st4_2, st4_3, b_add, c_gt, c_ge, c_le, ev_call, evAs_pass, evAs_nil, kAs, kAs1, kConsO, kGv, gvO_some, pass_d, tb_t, tb_f, tb_end, slot_set0, ev_lc, evI_rng1, kRng1, evI_seq, kSeq, kDs, kCons, evDs_cons, opB_lc, opB_call, len_list, ev_mth, kMth1, kdB_s, kdB_v, opB_mth, ev_slh, kSlh, kSlh1, kSlh2, kSlh3, ev_sll, kSll, kSll1, kSll2, kSll3, asInt_int, slD_tup, slD_list, ev_neg, kNeg_int, ev_lls0, kApp, kAppl, kApp2, kExt, ev_blts, kBlts, s_tasg, kTasg, s_pass, s_expr, kExpr, opB_slh, opB_sll, opB_neg, opB_blts, opB_tup, ev_tup, kTup, rdVO_l, rdVO_k, rdVO_ll, rdO_k, items_list, list_list, list_tup, ev_isi, kIsi, kIsi1, ev_chain, kCh0, kCh1, kCh3, opB_isi, opB_glob, opB_chain, opB_not, opB_and, opB_or, opB_rev, kRev, kRev1, ev_rev, ev_not, kNot, ev_or, isTy_some, kAnd_t, kAnd_f, kOr_t, kOr_f, kIf_t, kIf_f, Bool.not_true, Bool.not_false, kCh2_t, kCh2_f, c_lt, c_eqI, c_neI, len_tup, items_tup, tuple_list, beq_self_eq_true, kCall_eq, kRes_ok, kRes_exc, evAs_t, kAsT_some, pass_k, pass_ll, pass_x, pass_l, pass_s, ev_pop, kPopE, kPop1, kPop0, ev_popA, kPopA_t, isL_l, isLL_l, isLL_ll, ev_lln, ev_slb, kSlb, kSlb1, kSlb2, kSlb3, kSlb4, kSlb5, evI_keys, kKeys_d, evI_items, kItems_d, evI_enum, kEnum_l, kEnum_t, evI_zip, kZip, kZip1_tt, kZip1_ll, evI_rng2, kRng2, kRng2b, evI_rng3, kRng3, kRng3b, kRng3c, s_appC, kAppC_t, s_applC, kApplC_t, s_extC, kExtC_t, s_insC, kInsC_t, kIns1, kIns2, s_revs, kRevs_l, s_clr, kClr_l, kClr_k, s_par, kParS, s_brk, s_cont, s_retn, s_raise, s_try, s_whl, s_rv, kRetv_s, kSet_eq, kSetC_t, putSlot_s, seq_bk, seq_ct, seq_exc, tryE_nx, tryE_rt, fin_r, fin_n, fin_e, raise_step, raise_paper, raise_stand, raise_many, raise_type, opS_some, asg_tp, setAll_nil, setAll_cons, ctx_cf, ctx_gl, tb_1, tb_2, tb_3, tb_4, tb_5, tb_nil, ev_ite, kIte_t, kIte_f, kMth_eq, kMthK_t, kMth2_eq, kMth2C_t, kdS_d, kdS_l, kdS_k, kd_lst, kd_tup, kd_dct, kd_str, on_1, on_2, on_3, on_4, on_5, on_6, on_7, on_8, on_9, on_10, on_11, eq_self, decide_true, kTD_k, kTD_ll, b_sub, isN_int, isN_bool, isN_str, isN_tup, isN_lst, isN_dct, isN_non, inN_int, inN_bool, inN_str, inN_tup, inN_lst, inN_dct, inN_non, isT_true, inT_true, isT_false, inT_false, opB_cmp, opB_ite, opB_dct, opB_pop, opB_popat, opB_isx, opB_att, opB_slb, ev_dct, rdVO_s, R.bind_exc, R.st_exc, List.take_succ_cons, List.take_zero, io_14, e]
    exact ⟨_, rfl⟩
  | some s' =>
    rw [es] at e
    obtain ⟨outs, e⟩ := e
    simp (disch := first | omega | (simp only [List.length_take, List.length_drop, List.length_map, List.length_append, List.length_cons, List.length_nil, wsD_len]; omega)) only [ss_cons, ss_nil, seq_nx, seq_rt, s_asg, kAsg, s_set, kSet2, s_ife, s_ret, kRt, ev_bin, kBin, kBin0, kBin1, kBin2, ev_cmp, kCmp, kCmp0, kCmp1, kCmp2, kBo, ev_idx, kIdx, kIdx0, kIdx1, kD1, ev_cst, ev_var, ev_lst, kLst, evDs_nil, ev_blt, kBlt, kBlt1, ev_and, opB_s, opB_idx, opB_cst, opB_bin, opB_lst, opB_blt, hasS_0, hasS_s, rdB_s, rdB_v, rdO_d, rdO_l, rdVO_d, slot_0, slot_s, kTD_d, kTD_l, kTB_b, kV, R.bind_ok, R.st_ok, optR_some, List.set_cons_zero, List.set_cons_succ, Option.isSome_some, i4_0, i4_1, i4_2, i4_3, st4_1, st4_2, st4_3, b_add, c_gt, c_ge, c_le, ev_call, evAs_pass, evAs_nil, kAs, kAs1, kConsO, kGv, gvO_some, pass_d, tb_t, tb_f, tb_end, slot_set0, ev_lc, evI_rng1, kRng1, evI_seq, kSeq, kDs, kCons, evDs_cons, opB_lc, opB_call, len_list, ev_mth, kMth1, kdB_s, kdB_v, opB_mth, ev_slh, kSlh, kSlh1, kSlh2, kSlh3, ev_sll, kSll, kSll1, kSll2, kSll3, asInt_int, slD_tup, slD_list, ev_neg, kNeg_int, ev_lls0, kApp, kAppl, kApp2, kExt, ev_blts, kBlts, s_tasg, kTasg, s_pass, s_expr, kExpr, opB_slh, opB_sll, opB_neg, opB_blts, opB_tup, ev_tup, kTup, rdVO_l, rdVO_k, rdVO_ll, rdO_k, items_list, list_list, list_tup, ev_isi, kIsi, kIsi1, ev_chain, kCh0, kCh1, kCh3, opB_isi, opB_glob, opB_chain, opB_not, opB_and, opB_or, opB_rev, kRev, kRev1, ev_rev, ev_not, kNot, ev_or, isTy_some, kAnd_t, kAnd_f, kOr_t, kOr_f, kIf_t, kIf_f, Bool.not_true, Bool.not_false, kCh2_t, kCh2_f, c_lt, c_eqI, c_neI, len_tup, items_tup, tuple_list, beq_self_eq_true, kCall_eq, kRes_ok, kRes_exc, evAs_t, kAsT_some, pass_k, pass_ll, pass_x, pass_l, pass_s, ev_pop, kPopE, kPop1, kPop0, ev_popA, kPopA_t, isL_l, isLL_l, isLL_ll, ev_lln, ev_slb, kSlb, kSlb1, kSlb2, kSlb3, kSlb4, kSlb5, evI_keys, kKeys_d, evI_items, kItems_d, evI_enum, kEnum_l, kEnum_t, evI_zip, kZip, kZip1_tt, kZip1_ll, evI_rng2, kRng2, kRng2b, evI_rng3, kRng3, kRng3b, kRng3c, s_appC, kAppC_t, s_applC, kApplC_t, s_extC, kExtC_t, s_insC, kInsC_t, kIns1, kIns2, s_revs, kRevs_l, s_clr, kClr_l, kClr_k, s_par, kParS, s_brk, s_cont, s_retn, s_raise, s_try, s_whl, s_rv, kRetv_s, kSet_eq, kSetC_t, putSlot_s, seq_bk, seq_ct, seq_exc, tryE_nx, tryE_rt, fin_r, fin_n, fin_e, raise_step, raise_paper, raise_stand, raise_many, raise_type, opS_some, asg_tp, setAll_nil, setAll_cons, ctx_cf, ctx_gl, tb_1, tb_2, tb_3, tb_4, tb_5, tb_nil, ev_ite, kIte_t, kIte_f, kMth_eq, kMthK_t, kMth2_eq, kMth2C_t, kdS_d, kdS_l, kdS_k, kd_lst, kd_tup, kd_dct, kd_str, on_1, on_2, on_3, on_4, on_5, on_6, on_7, on_8, on_9, on_10, on_11, eq_self, decide_true, kTD_k, kTD_ll, b_sub, isN_int, isN_bool, isN_str, isN_tup, isN_lst, isN_dct, isN_non, inN_int, inN_bool, inN_str, inN_tup, inN_lst, inN_dct, inN_non, isT_true, inT_true, isT_false, inT_false, opB_cmp, opB_ite, opB_dct, opB_pop, opB_popat, opB_isx, opB_att, opB_slb, ev_dct, rdVO_s, R.bind_exc, R.st_exc, List.take_succ_cons, List.take_zero, io_14, e]
    exact ⟨_, rfl⟩
theorem rep_one {α : Type} (m : Nat) (x : α) : rep (m : Int) [x] = List.replicate m x := by
  unfold rep
  rw [Int.toNat_natCast]
  induction m with
  | zero => rfl
  | succ m ih => rw [List.replicate_succ, List.flatten_cons, ih, List.replicate_succ]; rfl
theorem mul_tup {m : Nat} {x : D} (h1 : 1 ≤ m) (h2 : m ≤ 1000) : bop .mul (.tuple [x]) (.int m) = some (.d (.tuple (List.replicate m x))) := by
  show (if !([x] : List D).isEmpty && decide ((1 : Int) ≤ (m : Int)) && decide ((m : Int) ≤ 1000) && decide (([x] : List D).length ≤ 1000) then some (O.d (.tuple (rep (m : Int) [x]))) else none) = _
  rw [decide_eq_true (show (1 : Int) ≤ (m : Int) by omega), decide_eq_true (show (m : Int) ≤ 1000 by omega), rep_one]
  rfl
theorem mul_lst {m : Nat} {x : D} (h2 : m ≤ 1000) : bop .mul (.list [x]) (.int m) = some (.l (List.replicate m x)) := by
  show (if small 1000000 (m : Int) && decide (([x] : List D).length * (m : Int).toNat ≤ lim) then some (O.l (rep (m : Int) [x])) else none) = _
  have h : ([x] : List D).length * (m : Int).toNat ≤ lim := Nat.le_trans (show ([x] : List D).length * (m : Int).toNat ≤ 1000 by simp; omega) (by decide)
  rw [small_iff.mpr (show (m : Int).natAbs < 1000000 by omega), decide_eq_true h, rep_one]
  rfl
theorem wsD_rep (m : Nat) : List.replicate m (PyData.str "out") = wsD (List.replicate m W.out) := by
  unfold wsD
  rw [List.map_replicate]
  rfl
theorem first_run' {fu k : Nat} (hk : 1 ≤ k) {m : Nat} (h1 : 1 ≤ m) (h2 : m ≤ 6) : ∃ outs, callF prog fu k 2 [.d (.int m)] = .ok (.d (Sd.first m).d) outs := by
  obtain ⟨k, rfl⟩ : ∃ j, k = j + 1 := ⟨k - 1, by omega⟩
  rw [run_at (np := 1) (b := fn_first_decider.body) (Γ := [some (.d (.int m))]) (fn := fn_first_decider) rfl rfl rfl rfl rfl]
  simp only [fn_first_decider]
  simp (disch := first | omega | (simp only [List.length_take, List.length_drop, List.length_map, List.length_append, List.length_cons, List.length_nil, wsD_len]; omega)) only [ss_cons, ss_nil, seq_nx, seq_rt, s_asg, kAsg, s_set, kSet2, s_ife, s_ret, kRt, ev_bin, kBin, kBin0, kBin1, kBin2, ev_cmp, kCmp, kCmp0, kCmp1, kCmp2, kBo, ev_idx, kIdx, kIdx0, kIdx1, kD1, ev_cst, ev_var, ev_lst, kLst, evDs_nil, ev_blt, kBlt, kBlt1, ev_and, opB_s, opB_idx, opB_cst, opB_bin, opB_lst, opB_blt, hasS_0, hasS_s, rdB_s, rdB_v, rdO_d, rdO_l, rdVO_d, slot_0, slot_s, kTD_d, kTD_l, kTB_b, kV, R.bind_ok, R.st_ok, optR_some, List.set_cons_zero, List.set_cons_succ, Option.isSome_some, i4_0, i4_1, i4_2, i4_3, st4_1, st4_2, st4_3, b_add, c_gt, c_ge, c_le, ev_call, evAs_pass, evAs_nil, kAs, kAs1, kConsO, kGv, gvO_some, pass_d, tb_t, tb_f, tb_end, slot_set0, ev_lc, evI_rng1, kRng1, evI_seq, kSeq, kDs, kCons, evDs_cons, opB_lc, opB_call, len_list, ev_mth, kMth1, kdB_s, kdB_v, opB_mth, ev_slh, kSlh, kSlh1, kSlh2, kSlh3, ev_sll, kSll, kSll1, kSll2, kSll3, asInt_int, slD_tup, slD_list, ev_neg, kNeg_int, ev_lls0, kApp, kAppl, kApp2, kExt, ev_blts, kBlts, s_tasg, kTasg, s_pass, s_expr, kExpr, opB_slh, opB_sll, opB_neg, opB_blts, opB_tup, ev_tup, kTup, rdVO_l, rdVO_k, rdVO_ll, rdO_k, items_list, list_list, list_tup, ev_isi, kIsi, kIsi1, ev_chain, kCh0, kCh1, kCh3, opB_isi, opB_glob, opB_chain, opB_not, opB_and, opB_or, opB_rev, kRev, kRev1, ev_rev, ev_not, kNot, ev_or, isTy_some, kAnd_t, kAnd_f, kOr_t, kOr_f, kIf_t, kIf_f, Bool.not_true, Bool.not_false, kCh2_t, kCh2_f, c_lt, c_eqI, c_neI, len_tup, items_tup, tuple_list, beq_self_eq_true, kCall_eq, kRes_ok, kRes_exc, evAs_t, kAsT_some, pass_k, pass_ll, pass_x, pass_l, pass_s, ev_pop, kPopE, kPop1, kPop0, ev_popA, kPopA_t, isL_l, isLL_l, isLL_ll, ev_lln, ev_slb, kSlb, kSlb1, kSlb2, kSlb3, kSlb4, kSlb5, evI_keys, kKeys_d, evI_items, kItems_d, evI_enum, kEnum_l, kEnum_t, evI_zip, kZip, kZip1_tt, kZip1_ll, evI_rng2, kRng2, kRng2b, evI_rng3, kRng3, kRng3b, kRng3c, s_appC, kAppC_t, s_applC, kApplC_t, s_extC, kExtC_t, s_insC, kInsC_t, kIns1, kIns2, s_revs, kRevs_l, s_clr, kClr_l, kClr_k, s_par, kParS, s_brk, s_cont, s_retn, s_raise, s_try, s_whl, s_rv, kRetv_s, kSet_eq, kSetC_t, putSlot_s, seq_bk, seq_ct, seq_exc, tryE_nx, tryE_rt, fin_r, fin_n, fin_e, raise_step, raise_paper, raise_stand, raise_many, raise_type, opS_some, asg_tp, setAll_nil, setAll_cons, ctx_cf, ctx_gl, tb_1, tb_2, tb_3, tb_4, tb_5, tb_nil, ev_ite, kIte_t, kIte_f, kMth_eq, kMthK_t, kMth2_eq, kMth2C_t, kdS_d, kdS_l, kdS_k, kd_lst, kd_tup, kd_dct, kd_str, on_1, on_2, on_3, on_4, on_5, on_6, on_7, on_8, on_9, on_10, on_11, eq_self, decide_true, kTD_k, kTD_ll, b_sub, isN_int, isN_bool, isN_str, isN_tup, isN_lst, isN_dct, isN_non, inN_int, inN_bool, inN_str, inN_tup, inN_lst, inN_dct, inN_non, isT_true, inT_true, isT_false, inT_false, opB_cmp, opB_ite, opB_dct, opB_pop, opB_popat, opB_isx, opB_att, opB_slb, ev_dct, rdVO_s, R.bind_exc, R.st_exc, List.take_succ_cons, List.take_zero, mul_tup, wsD_rep]
  exact ⟨_, rfl⟩
theorem sd_isnt (s : Sd) : cop .isnt s.d .none = some true := rfl
/-- how many steps each hand made -/
def dn (s : Sd) : List D := s.ws.map fun w => .int w.done
theorem dn_at {s : Sd} {h : Nat} {w : W} (e : s.ws[h]? = some w) : idxD (.list (dn s)) (.int h) = some (.int w.done) := idx_map e
theorem dn_set {s s' : Sd} {h : Nat} {w w' : W} (e : s.ws[h]? = some w) (e2 : s'.ws = s.ws.set h w') (e3 : w'.done = w.done + 1) : setIt (some (.l (dn s))) (.int h) (.int ((w.done : Int) + 1)) = some (.l (dn s')) := by
  have := set_map (f := fun w : W => PyData.int w.done) (List.getElem?_eq_some_iff.mp e).1 w'
  unfold dn
  rw [e2, ← this, e3]
  rfl
theorem woven_run {ns : List Int} {T : Int} {m : Nat} {o : O} {lims : List Int} {fu k : Nat} (h : Fd ns T o) (hk : 5 ≤ k) (hT : T < 100000000) (h1 : 1 ≤ m) (h2 : m ≤ 6) (hl : lims.length = m) :
    ∃ (s : Sd) (o' : O) (outs : Env), s.Ok m ∧ s.Safe ∧ Fd ns (T + 40) o' ∧ callF prog fu k 20 [o, .d (.int m), .d (.list (lims.map .int))] = .ok (.d s.d) (some o' :: outs) := by
  obtain ⟨k, rfl⟩ : ∃ j, k = j + 1 := ⟨k - 1, by omega⟩
  rw [run_at (np := 3) (b := fn__law_woven.body) (Γ := [some (o), some (.d (.int m)), some (.d (.list (lims.map .int))), none, none, none, none, none]) (fn := fn__law_woven) rfl rfl rfl rfl rfl]
  simp only [fn__law_woven]
  obtain ⟨_, e1⟩ := first_run' (fu := fu) (k := k) (by omega) h1 h2
  suffices key : ∃ v outs, (∃ (s : Sd) (o' : O) (outs' : Env), v = .d s.d ∧ outs = some o' :: outs' ∧ s.Ok m ∧ s.Safe ∧ Fd ns (T + 40) o') ∧ fin 3 _ = .ok v outs by
    obtain ⟨v, outs, ⟨s, o', outs', rfl, rfl, a, b, c⟩, e⟩ := key
    exact ⟨s, o', outs', a, b, c, e⟩
  apply ok_wp
  have d0 : List.replicate m (PyData.int 0) = dn (Sd.first m) := by
    unfold dn Sd.first
    rw [List.map_replicate]
    rfl
  simp (disch := first | omega | (simp only [List.length_take, List.length_drop, List.length_map, List.length_append, List.length_cons, List.length_nil, wsD_len]; omega)) only [ss_cons, ss_nil, seq_nx, seq_rt, s_asg, kAsg, s_set, kSet2, s_ife, s_ret, kRt, ev_bin, kBin, kBin0, kBin1, kBin2, ev_cmp, kCmp, kCmp0, kCmp1, kCmp2, kBo, ev_idx, kIdx, kIdx0, kIdx1, kD1, ev_cst, ev_var, ev_lst, kLst, evDs_nil, ev_blt, kBlt, kBlt1, ev_and, opB_s, opB_idx, opB_cst, opB_bin, opB_lst, opB_blt, hasS_0, hasS_s, rdB_s, rdB_v, rdO_d, rdO_l, rdVO_d, slot_0, slot_s, kTD_d, kTD_l, kTB_b, kV, R.bind_ok, R.st_ok, optR_some, List.set_cons_zero, List.set_cons_succ, Option.isSome_some, i4_0, i4_1, i4_2, i4_3, st4_1, st4_2, st4_3, b_add, c_gt, c_ge, c_le, ev_call, evAs_pass, evAs_nil, kAs, kAs1, kConsO, kGv, gvO_some, pass_d, tb_t, tb_f, tb_end, slot_set0, ev_lc, evI_rng1, kRng1, evI_seq, kSeq, kDs, kCons, evDs_cons, opB_lc, opB_call, len_list, ev_mth, kMth1, kdB_s, kdB_v, opB_mth, ev_slh, kSlh, kSlh1, kSlh2, kSlh3, ev_sll, kSll, kSll1, kSll2, kSll3, asInt_int, slD_tup, slD_list, ev_neg, kNeg_int, ev_lls0, kApp, kAppl, kApp2, kExt, ev_blts, kBlts, s_tasg, kTasg, s_pass, s_expr, kExpr, opB_slh, opB_sll, opB_neg, opB_blts, opB_tup, ev_tup, kTup, rdVO_l, rdVO_k, rdVO_ll, rdO_k, items_list, list_list, list_tup, ev_isi, kIsi, kIsi1, ev_chain, kCh0, kCh1, kCh3, opB_isi, opB_glob, opB_chain, opB_not, opB_and, opB_or, opB_rev, kRev, kRev1, ev_rev, ev_not, kNot, ev_or, isTy_some, kAnd_t, kAnd_f, kOr_t, kOr_f, kIf_t, kIf_f, Bool.not_true, Bool.not_false, kCh2_t, kCh2_f, c_lt, c_eqI, c_neI, len_tup, items_tup, tuple_list, beq_self_eq_true, kCall_eq, kRes_ok, kRes_exc, evAs_t, kAsT_some, pass_k, pass_ll, pass_x, pass_l, pass_s, ev_pop, kPopE, kPop1, kPop0, ev_popA, kPopA_t, isL_l, isLL_l, isLL_ll, ev_lln, ev_slb, kSlb, kSlb1, kSlb2, kSlb3, kSlb4, kSlb5, evI_keys, kKeys_d, evI_items, kItems_d, evI_enum, kEnum_l, kEnum_t, evI_zip, kZip, kZip1_tt, kZip1_ll, evI_rng2, kRng2, kRng2b, evI_rng3, kRng3, kRng3b, kRng3c, s_appC, kAppC_t, s_applC, kApplC_t, s_extC, kExtC_t, s_insC, kInsC_t, kIns1, kIns2, s_revs, kRevs_l, s_clr, kClr_l, kClr_k, s_par, kParS, s_brk, s_cont, s_retn, s_raise, s_try, s_whl, s_rv, kRetv_s, kSet_eq, kSetC_t, putSlot_s, seq_bk, seq_ct, seq_exc, tryE_nx, tryE_rt, fin_r, fin_n, fin_e, raise_step, raise_paper, raise_stand, raise_many, raise_type, opS_some, asg_tp, setAll_nil, setAll_cons, ctx_cf, ctx_gl, tb_1, tb_2, tb_3, tb_4, tb_5, tb_nil, ev_ite, kIte_t, kIte_f, kMth_eq, kMthK_t, kMth2_eq, kMth2C_t, kdS_d, kdS_l, kdS_k, kd_lst, kd_tup, kd_dct, kd_str, on_1, on_2, on_3, on_4, on_5, on_6, on_7, on_8, on_9, on_10, on_11, eq_self, decide_true, kTD_k, kTD_ll, b_sub, isN_int, isN_bool, isN_str, isN_tup, isN_lst, isN_dct, isN_non, inN_int, inN_bool, inN_str, inN_tup, inN_lst, inN_dct, inN_non, isT_true, inT_true, isT_false, inT_false, opB_cmp, opB_ite, opB_dct, opB_pop, opB_popat, opB_isx, opB_att, opB_slb, ev_dct, rdVO_s, R.bind_exc, R.st_exc, List.take_succ_cons, List.take_zero, io_2, io_5, io_18, io_19, e1, mul_lst, d0]
  have e6 : ∀ (Γ : Env), slot Γ 1 = some (.d (.int m)) → hasS Γ 1 = true → (evE (prog.ctx fu (callF prog fu k)) (.bin .mul (.cst (.int 6)) (.var 1)) Γ).bind kTD = .ok (.int ((6 * m : Nat) : Int)) Γ := fun Γ a b => by
    simp (disch := first | omega | (simp only [List.length_take, List.length_drop, List.length_map, List.length_append, List.length_cons, List.length_nil, wsD_len]; omega)) only [ss_cons, ss_nil, seq_nx, seq_rt, s_asg, kAsg, s_set, kSet2, s_ife, s_ret, kRt, ev_bin, kBin, kBin0, kBin1, kBin2, ev_cmp, kCmp, kCmp0, kCmp1, kCmp2, kBo, ev_idx, kIdx, kIdx0, kIdx1, kD1, ev_cst, ev_var, ev_lst, kLst, evDs_nil, ev_blt, kBlt, kBlt1, ev_and, opB_s, opB_idx, opB_cst, opB_bin, opB_lst, opB_blt, hasS_0, hasS_s, rdB_s, rdB_v, rdO_d, rdO_l, rdVO_d, slot_0, slot_s, kTD_d, kTD_l, kTB_b, kV, R.bind_ok, R.st_ok, optR_some, List.set_cons_zero, List.set_cons_succ, Option.isSome_some, i4_0, i4_1, i4_2, i4_3, st4_1, st4_2, st4_3, b_add, c_gt, c_ge, c_le, ev_call, evAs_pass, evAs_nil, kAs, kAs1, kConsO, kGv, gvO_some, pass_d, tb_t, tb_f, tb_end, slot_set0, ev_lc, evI_rng1, kRng1, evI_seq, kSeq, kDs, kCons, evDs_cons, opB_lc, opB_call, len_list, ev_mth, kMth1, kdB_s, kdB_v, opB_mth, ev_slh, kSlh, kSlh1, kSlh2, kSlh3, ev_sll, kSll, kSll1, kSll2, kSll3, asInt_int, slD_tup, slD_list, ev_neg, kNeg_int, ev_lls0, kApp, kAppl, kApp2, kExt, ev_blts, kBlts, s_tasg, kTasg, s_pass, s_expr, kExpr, opB_slh, opB_sll, opB_neg, opB_blts, opB_tup, ev_tup, kTup, rdVO_l, rdVO_k, rdVO_ll, rdO_k, items_list, list_list, list_tup, ev_isi, kIsi, kIsi1, ev_chain, kCh0, kCh1, kCh3, opB_isi, opB_glob, opB_chain, opB_not, opB_and, opB_or, opB_rev, kRev, kRev1, ev_rev, ev_not, kNot, ev_or, isTy_some, kAnd_t, kAnd_f, kOr_t, kOr_f, kIf_t, kIf_f, Bool.not_true, Bool.not_false, kCh2_t, kCh2_f, c_lt, c_eqI, c_neI, len_tup, items_tup, tuple_list, beq_self_eq_true, kCall_eq, kRes_ok, kRes_exc, evAs_t, kAsT_some, pass_k, pass_ll, pass_x, pass_l, pass_s, ev_pop, kPopE, kPop1, kPop0, ev_popA, kPopA_t, isL_l, isLL_l, isLL_ll, ev_lln, ev_slb, kSlb, kSlb1, kSlb2, kSlb3, kSlb4, kSlb5, evI_keys, kKeys_d, evI_items, kItems_d, evI_enum, kEnum_l, kEnum_t, evI_zip, kZip, kZip1_tt, kZip1_ll, evI_rng2, kRng2, kRng2b, evI_rng3, kRng3, kRng3b, kRng3c, s_appC, kAppC_t, s_applC, kApplC_t, s_extC, kExtC_t, s_insC, kInsC_t, kIns1, kIns2, s_revs, kRevs_l, s_clr, kClr_l, kClr_k, s_par, kParS, s_brk, s_cont, s_retn, s_raise, s_try, s_whl, s_rv, kRetv_s, kSet_eq, kSetC_t, putSlot_s, seq_bk, seq_ct, seq_exc, tryE_nx, tryE_rt, fin_r, fin_n, fin_e, raise_step, raise_paper, raise_stand, raise_many, raise_type, opS_some, asg_tp, setAll_nil, setAll_cons, ctx_cf, ctx_gl, tb_1, tb_2, tb_3, tb_4, tb_5, tb_nil, ev_ite, kIte_t, kIte_f, kMth_eq, kMthK_t, kMth2_eq, kMth2C_t, kdS_d, kdS_l, kdS_k, kd_lst, kd_tup, kd_dct, kd_str, on_1, on_2, on_3, on_4, on_5, on_6, on_7, on_8, on_9, on_10, on_11, eq_self, decide_true, kTD_k, kTD_ll, b_sub, isN_int, isN_bool, isN_str, isN_tup, isN_lst, isN_dct, isN_non, inN_int, inN_bool, inN_str, inN_tup, inN_lst, inN_dct, inN_non, isT_true, inT_true, isT_false, inT_false, opB_cmp, opB_ite, opB_dct, opB_pop, opB_popat, opB_isx, opB_att, opB_slb, ev_dct, rdVO_s, R.bind_exc, R.st_exc, List.take_succ_cons, List.take_zero, io_2, io_5, io_18, io_19, a, b, b_mull]
    rw [Int.natCast_mul]
    rfl
  refine for_rng (6 * m) (by omega) (e6 _ rfl rfl) (fun i Γ => ∃ (s : Sd) (o : O) (x5 x6 x7 : Option O), s.Ok m ∧ s.Safe ∧ Fd ns (T + i) o ∧ Γ = [some o, some (.d (.int m)), some (.d (.list (lims.map .int))), some (.d s.d), some (.l (dn s)), x5, x6, x7]) ⟨Sd.first m, o, _, _, _, Sd.first_ok m, Sd.first_safe m, h.mono (by omega), rfl⟩ (fun i Γ hi hJ => ?_) (fun Γ hJ => ?_)
  · obtain ⟨s, o, x5, x6, x7, ok, sf, hf, rfl⟩ := hJ
    obtain ⟨v, o1, v0, v1, hf1, c1⟩ := hf.draw (n := m) (fu := fu) (k := k) (by omega) (by omega) (by omega) (by omega)
    obtain ⟨j, rfl⟩ : ∃ j : Nat, v = (j : Int) := ⟨v.toNat, by omega⟩
    have hj : j < s.ws.length := by rw [ok.len]; omega
    have len := ok.len
    obtain ⟨w, ew⟩ : ∃ w, s.ws[j]? = some w := ⟨_, List.getElem?_eq_getElem hj⟩
    obtain ⟨l, el⟩ : ∃ l, lims[j]? = some l := ⟨_, List.getElem?_eq_getElem (by omega)⟩
    have il : idxD (.list (lims.map .int)) (.int j) = some (.int l) := idx_map el
    obtain ⟨_, c2⟩ := moves_run (fu := fu) (k := k) (by omega) hj (by omega)
    obtain ⟨_, c3⟩ := fits_run (fu := fu) (k := k) (by omega) s
    have f1 := sf.fits
    have hw := w.done_le
    have q : decide ((4 : Int) < (w.done : Int)) = false := by simp; omega
    unfold stepD at c2
    by_cases hlt : (w.done : Int) < l
    · cases es : s.step j with
      | none =>
        rw [es] at c2
        simp (disch := first | omega | (simp only [List.length_take, List.length_drop, List.length_map, List.length_append, List.length_cons, List.length_nil, wsD_len]; omega)) only [ss_cons, ss_nil, seq_nx, seq_rt, s_asg, kAsg, s_set, kSet2, s_ife, s_ret, kRt, ev_bin, kBin, kBin0, kBin1, kBin2, ev_cmp, kCmp, kCmp0, kCmp1, kCmp2, kBo, ev_idx, kIdx, kIdx0, kIdx1, kD1, ev_cst, ev_var, ev_lst, kLst, evDs_nil, ev_blt, kBlt, kBlt1, ev_and, opB_s, opB_idx, opB_cst, opB_bin, opB_lst, opB_blt, hasS_0, hasS_s, rdB_s, rdB_v, rdO_d, rdO_l, rdVO_d, slot_0, slot_s, kTD_d, kTD_l, kTB_b, kV, R.bind_ok, R.st_ok, optR_some, List.set_cons_zero, List.set_cons_succ, Option.isSome_some, i4_0, i4_1, i4_2, i4_3, st4_1, st4_2, st4_3, b_add, c_gt, c_ge, c_le, ev_call, evAs_pass, evAs_nil, kAs, kAs1, kConsO, kGv, gvO_some, pass_d, tb_t, tb_f, tb_end, slot_set0, ev_lc, evI_rng1, kRng1, evI_seq, kSeq, kDs, kCons, evDs_cons, opB_lc, opB_call, len_list, ev_mth, kMth1, kdB_s, kdB_v, opB_mth, ev_slh, kSlh, kSlh1, kSlh2, kSlh3, ev_sll, kSll, kSll1, kSll2, kSll3, asInt_int, slD_tup, slD_list, ev_neg, kNeg_int, ev_lls0, kApp, kAppl, kApp2, kExt, ev_blts, kBlts, s_tasg, kTasg, s_pass, s_expr, kExpr, opB_slh, opB_sll, opB_neg, opB_blts, opB_tup, ev_tup, kTup, rdVO_l, rdVO_k, rdVO_ll, rdO_k, items_list, list_list, list_tup, ev_isi, kIsi, kIsi1, ev_chain, kCh0, kCh1, kCh3, opB_isi, opB_glob, opB_chain, opB_not, opB_and, opB_or, opB_rev, kRev, kRev1, ev_rev, ev_not, kNot, ev_or, isTy_some, kAnd_t, kAnd_f, kOr_t, kOr_f, kIf_t, kIf_f, Bool.not_true, Bool.not_false, kCh2_t, kCh2_f, c_lt, c_eqI, c_neI, len_tup, items_tup, tuple_list, beq_self_eq_true, kCall_eq, kRes_ok, kRes_exc, evAs_t, kAsT_some, pass_k, pass_ll, pass_x, pass_l, pass_s, ev_pop, kPopE, kPop1, kPop0, ev_popA, kPopA_t, isL_l, isLL_l, isLL_ll, ev_lln, ev_slb, kSlb, kSlb1, kSlb2, kSlb3, kSlb4, kSlb5, evI_keys, kKeys_d, evI_items, kItems_d, evI_enum, kEnum_l, kEnum_t, evI_zip, kZip, kZip1_tt, kZip1_ll, evI_rng2, kRng2, kRng2b, evI_rng3, kRng3, kRng3b, kRng3c, s_appC, kAppC_t, s_applC, kApplC_t, s_extC, kExtC_t, s_insC, kInsC_t, kIns1, kIns2, s_revs, kRevs_l, s_clr, kClr_l, kClr_k, s_par, kParS, s_brk, s_cont, s_retn, s_raise, s_try, s_whl, s_rv, kRetv_s, kSet_eq, kSetC_t, putSlot_s, seq_bk, seq_ct, seq_exc, tryE_nx, tryE_rt, fin_r, fin_n, fin_e, raise_step, raise_paper, raise_stand, raise_many, raise_type, opS_some, asg_tp, setAll_nil, setAll_cons, ctx_cf, ctx_gl, tb_1, tb_2, tb_3, tb_4, tb_5, tb_nil, ev_ite, kIte_t, kIte_f, kMth_eq, kMthK_t, kMth2_eq, kMth2C_t, kdS_d, kdS_l, kdS_k, kd_lst, kd_tup, kd_dct, kd_str, on_1, on_2, on_3, on_4, on_5, on_6, on_7, on_8, on_9, on_10, on_11, eq_self, decide_true, kTD_k, kTD_ll, b_sub, isN_int, isN_bool, isN_str, isN_tup, isN_lst, isN_dct, isN_non, inN_int, inN_bool, inN_str, inN_tup, inN_lst, inN_dct, inN_non, isT_true, inT_true, isT_false, inT_false, opB_cmp, opB_ite, opB_dct, opB_pop, opB_popat, opB_isx, opB_att, opB_slb, ev_dct, rdVO_s, R.bind_exc, R.st_exc, List.take_succ_cons, List.take_zero, io_2, io_5, io_18, io_19, c1, dn_at ew, il, decide_eq_true hlt, c2, q, c3, f1]
        exact ⟨s, _, _, _, _, ok, sf, hf1.mono (by omega), rfl⟩
      | some s' =>
        rw [es] at c2
        obtain ⟨w0, w', e0, e2, e3, _⟩ := s.step_at es
        rw [ew] at e0
        cases e0
        have ew' : s'.ws[j]? = some w' := by rw [e2, getE_set _ _ _ _ hj, if_pos rfl]
        have hw' := w'.done_le
        have q' : decide ((4 : Int) < (w'.done : Int)) = false := by simp; omega
        obtain ⟨_, c4⟩ := fits_run (fu := fu) (k := k) (by omega) s'
        have sf' := sf.step es
        have f2 := sf'.fits
        simp (disch := first | omega | (simp only [List.length_take, List.length_drop, List.length_map, List.length_append, List.length_cons, List.length_nil, wsD_len]; omega)) only [ss_cons, ss_nil, seq_nx, seq_rt, s_asg, kAsg, s_set, kSet2, s_ife, s_ret, kRt, ev_bin, kBin, kBin0, kBin1, kBin2, ev_cmp, kCmp, kCmp0, kCmp1, kCmp2, kBo, ev_idx, kIdx, kIdx0, kIdx1, kD1, ev_cst, ev_var, ev_lst, kLst, evDs_nil, ev_blt, kBlt, kBlt1, ev_and, opB_s, opB_idx, opB_cst, opB_bin, opB_lst, opB_blt, hasS_0, hasS_s, rdB_s, rdB_v, rdO_d, rdO_l, rdVO_d, slot_0, slot_s, kTD_d, kTD_l, kTB_b, kV, R.bind_ok, R.st_ok, optR_some, List.set_cons_zero, List.set_cons_succ, Option.isSome_some, i4_0, i4_1, i4_2, i4_3, st4_1, st4_2, st4_3, b_add, c_gt, c_ge, c_le, ev_call, evAs_pass, evAs_nil, kAs, kAs1, kConsO, kGv, gvO_some, pass_d, tb_t, tb_f, tb_end, slot_set0, ev_lc, evI_rng1, kRng1, evI_seq, kSeq, kDs, kCons, evDs_cons, opB_lc, opB_call, len_list, ev_mth, kMth1, kdB_s, kdB_v, opB_mth, ev_slh, kSlh, kSlh1, kSlh2, kSlh3, ev_sll, kSll, kSll1, kSll2, kSll3, asInt_int, slD_tup, slD_list, ev_neg, kNeg_int, ev_lls0, kApp, kAppl, kApp2, kExt, ev_blts, kBlts, s_tasg, kTasg, s_pass, s_expr, kExpr, opB_slh, opB_sll, opB_neg, opB_blts, opB_tup, ev_tup, kTup, rdVO_l, rdVO_k, rdVO_ll, rdO_k, items_list, list_list, list_tup, ev_isi, kIsi, kIsi1, ev_chain, kCh0, kCh1, kCh3, opB_isi, opB_glob, opB_chain, opB_not, opB_and, opB_or, opB_rev, kRev, kRev1, ev_rev, ev_not, kNot, ev_or, isTy_some, kAnd_t, kAnd_f, kOr_t, kOr_f, kIf_t, kIf_f, Bool.not_true, Bool.not_false, kCh2_t, kCh2_f, c_lt, c_eqI, c_neI, len_tup, items_tup, tuple_list, beq_self_eq_true, kCall_eq, kRes_ok, kRes_exc, evAs_t, kAsT_some, pass_k, pass_ll, pass_x, pass_l, pass_s, ev_pop, kPopE, kPop1, kPop0, ev_popA, kPopA_t, isL_l, isLL_l, isLL_ll, ev_lln, ev_slb, kSlb, kSlb1, kSlb2, kSlb3, kSlb4, kSlb5, evI_keys, kKeys_d, evI_items, kItems_d, evI_enum, kEnum_l, kEnum_t, evI_zip, kZip, kZip1_tt, kZip1_ll, evI_rng2, kRng2, kRng2b, evI_rng3, kRng3, kRng3b, kRng3c, s_appC, kAppC_t, s_applC, kApplC_t, s_extC, kExtC_t, s_insC, kInsC_t, kIns1, kIns2, s_revs, kRevs_l, s_clr, kClr_l, kClr_k, s_par, kParS, s_brk, s_cont, s_retn, s_raise, s_try, s_whl, s_rv, kRetv_s, kSet_eq, kSetC_t, putSlot_s, seq_bk, seq_ct, seq_exc, tryE_nx, tryE_rt, fin_r, fin_n, fin_e, raise_step, raise_paper, raise_stand, raise_many, raise_type, opS_some, asg_tp, setAll_nil, setAll_cons, ctx_cf, ctx_gl, tb_1, tb_2, tb_3, tb_4, tb_5, tb_nil, ev_ite, kIte_t, kIte_f, kMth_eq, kMthK_t, kMth2_eq, kMth2C_t, kdS_d, kdS_l, kdS_k, kd_lst, kd_tup, kd_dct, kd_str, on_1, on_2, on_3, on_4, on_5, on_6, on_7, on_8, on_9, on_10, on_11, eq_self, decide_true, kTD_k, kTD_ll, b_sub, isN_int, isN_bool, isN_str, isN_tup, isN_lst, isN_dct, isN_non, inN_int, inN_bool, inN_str, inN_tup, inN_lst, inN_dct, inN_non, isT_true, inT_true, isT_false, inT_false, opB_cmp, opB_ite, opB_dct, opB_pop, opB_popat, opB_isx, opB_att, opB_slb, ev_dct, rdVO_s, R.bind_exc, R.st_exc, List.take_succ_cons, List.take_zero, io_2, io_5, io_18, io_19, c1, dn_at ew, il, decide_eq_true hlt, c2, sd_isnt, dn_set ew e2 e3, dn_at ew', q', c4, f2]
        exact ⟨s', _, _, _, _, s.step_ok ok (by omega) es, sf', hf1.mono (by omega), rfl⟩
    · simp (disch := first | omega | (simp only [List.length_take, List.length_drop, List.length_map, List.length_append, List.length_cons, List.length_nil, wsD_len]; omega)) only [ss_cons, ss_nil, seq_nx, seq_rt, s_asg, kAsg, s_set, kSet2, s_ife, s_ret, kRt, ev_bin, kBin, kBin0, kBin1, kBin2, ev_cmp, kCmp, kCmp0, kCmp1, kCmp2, kBo, ev_idx, kIdx, kIdx0, kIdx1, kD1, ev_cst, ev_var, ev_lst, kLst, evDs_nil, ev_blt, kBlt, kBlt1, ev_and, opB_s, opB_idx, opB_cst, opB_bin, opB_lst, opB_blt, hasS_0, hasS_s, rdB_s, rdB_v, rdO_d, rdO_l, rdVO_d, slot_0, slot_s, kTD_d, kTD_l, kTB_b, kV, R.bind_ok, R.st_ok, optR_some, List.set_cons_zero, List.set_cons_succ, Option.isSome_some, i4_0, i4_1, i4_2, i4_3, st4_1, st4_2, st4_3, b_add, c_gt, c_ge, c_le, ev_call, evAs_pass, evAs_nil, kAs, kAs1, kConsO, kGv, gvO_some, pass_d, tb_t, tb_f, tb_end, slot_set0, ev_lc, evI_rng1, kRng1, evI_seq, kSeq, kDs, kCons, evDs_cons, opB_lc, opB_call, len_list, ev_mth, kMth1, kdB_s, kdB_v, opB_mth, ev_slh, kSlh, kSlh1, kSlh2, kSlh3, ev_sll, kSll, kSll1, kSll2, kSll3, asInt_int, slD_tup, slD_list, ev_neg, kNeg_int, ev_lls0, kApp, kAppl, kApp2, kExt, ev_blts, kBlts, s_tasg, kTasg, s_pass, s_expr, kExpr, opB_slh, opB_sll, opB_neg, opB_blts, opB_tup, ev_tup, kTup, rdVO_l, rdVO_k, rdVO_ll, rdO_k, items_list, list_list, list_tup, ev_isi, kIsi, kIsi1, ev_chain, kCh0, kCh1, kCh3, opB_isi, opB_glob, opB_chain, opB_not, opB_and, opB_or, opB_rev, kRev, kRev1, ev_rev, ev_not, kNot, ev_or, isTy_some, kAnd_t, kAnd_f, kOr_t, kOr_f, kIf_t, kIf_f, Bool.not_true, Bool.not_false, kCh2_t, kCh2_f, c_lt, c_eqI, c_neI, len_tup, items_tup, tuple_list, beq_self_eq_true, kCall_eq, kRes_ok, kRes_exc, evAs_t, kAsT_some, pass_k, pass_ll, pass_x, pass_l, pass_s, ev_pop, kPopE, kPop1, kPop0, ev_popA, kPopA_t, isL_l, isLL_l, isLL_ll, ev_lln, ev_slb, kSlb, kSlb1, kSlb2, kSlb3, kSlb4, kSlb5, evI_keys, kKeys_d, evI_items, kItems_d, evI_enum, kEnum_l, kEnum_t, evI_zip, kZip, kZip1_tt, kZip1_ll, evI_rng2, kRng2, kRng2b, evI_rng3, kRng3, kRng3b, kRng3c, s_appC, kAppC_t, s_applC, kApplC_t, s_extC, kExtC_t, s_insC, kInsC_t, kIns1, kIns2, s_revs, kRevs_l, s_clr, kClr_l, kClr_k, s_par, kParS, s_brk, s_cont, s_retn, s_raise, s_try, s_whl, s_rv, kRetv_s, kSet_eq, kSetC_t, putSlot_s, seq_bk, seq_ct, seq_exc, tryE_nx, tryE_rt, fin_r, fin_n, fin_e, raise_step, raise_paper, raise_stand, raise_many, raise_type, opS_some, asg_tp, setAll_nil, setAll_cons, ctx_cf, ctx_gl, tb_1, tb_2, tb_3, tb_4, tb_5, tb_nil, ev_ite, kIte_t, kIte_f, kMth_eq, kMthK_t, kMth2_eq, kMth2C_t, kdS_d, kdS_l, kdS_k, kd_lst, kd_tup, kd_dct, kd_str, on_1, on_2, on_3, on_4, on_5, on_6, on_7, on_8, on_9, on_10, on_11, eq_self, decide_true, kTD_k, kTD_ll, b_sub, isN_int, isN_bool, isN_str, isN_tup, isN_lst, isN_dct, isN_non, inN_int, inN_bool, inN_str, inN_tup, inN_lst, inN_dct, inN_non, isT_true, inT_true, isT_false, inT_false, opB_cmp, opB_ite, opB_dct, opB_pop, opB_popat, opB_isx, opB_att, opB_slb, ev_dct, rdVO_s, R.bind_exc, R.st_exc, List.take_succ_cons, List.take_zero, io_2, io_5, io_18, io_19, c1, dn_at ew, il, decide_eq_false hlt, q, c3, f1]
      exact ⟨s, _, _, _, _, ok, sf, hf1.mono (by omega), rfl⟩
  · obtain ⟨s, o, x5, x6, x7, ok, sf, hf, rfl⟩ := hJ
    simp (disch := first | omega | (simp only [List.length_take, List.length_drop, List.length_map, List.length_append, List.length_cons, List.length_nil, wsD_len]; omega)) only [ss_cons, ss_nil, seq_nx, seq_rt, s_asg, kAsg, s_set, kSet2, s_ife, s_ret, kRt, ev_bin, kBin, kBin0, kBin1, kBin2, ev_cmp, kCmp, kCmp0, kCmp1, kCmp2, kBo, ev_idx, kIdx, kIdx0, kIdx1, kD1, ev_cst, ev_var, ev_lst, kLst, evDs_nil, ev_blt, kBlt, kBlt1, ev_and, opB_s, opB_idx, opB_cst, opB_bin, opB_lst, opB_blt, hasS_0, hasS_s, rdB_s, rdB_v, rdO_d, rdO_l, rdVO_d, slot_0, slot_s, kTD_d, kTD_l, kTB_b, kV, R.bind_ok, R.st_ok, optR_some, List.set_cons_zero, List.set_cons_succ, Option.isSome_some, i4_0, i4_1, i4_2, i4_3, st4_1, st4_2, st4_3, b_add, c_gt, c_ge, c_le, ev_call, evAs_pass, evAs_nil, kAs, kAs1, kConsO, kGv, gvO_some, pass_d, tb_t, tb_f, tb_end, slot_set0, ev_lc, evI_rng1, kRng1, evI_seq, kSeq, kDs, kCons, evDs_cons, opB_lc, opB_call, len_list, ev_mth, kMth1, kdB_s, kdB_v, opB_mth, ev_slh, kSlh, kSlh1, kSlh2, kSlh3, ev_sll, kSll, kSll1, kSll2, kSll3, asInt_int, slD_tup, slD_list, ev_neg, kNeg_int, ev_lls0, kApp, kAppl, kApp2, kExt, ev_blts, kBlts, s_tasg, kTasg, s_pass, s_expr, kExpr, opB_slh, opB_sll, opB_neg, opB_blts, opB_tup, ev_tup, kTup, rdVO_l, rdVO_k, rdVO_ll, rdO_k, items_list, list_list, list_tup, ev_isi, kIsi, kIsi1, ev_chain, kCh0, kCh1, kCh3, opB_isi, opB_glob, opB_chain, opB_not, opB_and, opB_or, opB_rev, kRev, kRev1, ev_rev, ev_not, kNot, ev_or, isTy_some, kAnd_t, kAnd_f, kOr_t, kOr_f, kIf_t, kIf_f, Bool.not_true, Bool.not_false, kCh2_t, kCh2_f, c_lt, c_eqI, c_neI, len_tup, items_tup, tuple_list, beq_self_eq_true, kCall_eq, kRes_ok, kRes_exc, evAs_t, kAsT_some, pass_k, pass_ll, pass_x, pass_l, pass_s, ev_pop, kPopE, kPop1, kPop0, ev_popA, kPopA_t, isL_l, isLL_l, isLL_ll, ev_lln, ev_slb, kSlb, kSlb1, kSlb2, kSlb3, kSlb4, kSlb5, evI_keys, kKeys_d, evI_items, kItems_d, evI_enum, kEnum_l, kEnum_t, evI_zip, kZip, kZip1_tt, kZip1_ll, evI_rng2, kRng2, kRng2b, evI_rng3, kRng3, kRng3b, kRng3c, s_appC, kAppC_t, s_applC, kApplC_t, s_extC, kExtC_t, s_insC, kInsC_t, kIns1, kIns2, s_revs, kRevs_l, s_clr, kClr_l, kClr_k, s_par, kParS, s_brk, s_cont, s_retn, s_raise, s_try, s_whl, s_rv, kRetv_s, kSet_eq, kSetC_t, putSlot_s, seq_bk, seq_ct, seq_exc, tryE_nx, tryE_rt, fin_r, fin_n, fin_e, raise_step, raise_paper, raise_stand, raise_many, raise_type, opS_some, asg_tp, setAll_nil, setAll_cons, ctx_cf, ctx_gl, tb_1, tb_2, tb_3, tb_4, tb_5, tb_nil, ev_ite, kIte_t, kIte_f, kMth_eq, kMthK_t, kMth2_eq, kMth2C_t, kdS_d, kdS_l, kdS_k, kd_lst, kd_tup, kd_dct, kd_str, on_1, on_2, on_3, on_4, on_5, on_6, on_7, on_8, on_9, on_10, on_11, eq_self, decide_true, kTD_k, kTD_ll, b_sub, isN_int, isN_bool, isN_str, isN_tup, isN_lst, isN_dct, isN_non, inN_int, inN_bool, inN_str, inN_tup, inN_lst, inN_dct, inN_non, isT_true, inT_true, isT_false, inT_false, opB_cmp, opB_ite, opB_dct, opB_pop, opB_popat, opB_isx, opB_att, opB_slb, ev_dct, rdVO_s, R.bind_exc, R.st_exc, List.take_succ_cons, List.take_zero, io_2, io_5, io_18, io_19]
    exact ⟨s, o, _, rfl, rfl, ok, sf, hf.mono (by omega)⟩
theorem restore_one (Γ₀ Γ : Env) (i : Nat) : restore Γ₀ Γ [i] = Γ.set i (keepD (slot Γ₀ i)) := by
  show (Γ.set i (keepD (Γ₀[i]?.getD none))) = _
  unfold slot
  cases Γ₀[i]? <;> rfl
theorem keep_none : keepD none = none := rfl
theorem keep_keep (z : Option O) : keepD (keepD z) = keepD z := by
  cases z with
  | none => rfl
  | some o => cases o <;> rfl
theorem keep_d (x : D) : keepD (some (.d x)) = some (.d x) := rfl
theorem isin_ws (w : W) (l : List W) : isin (.str w.s) (wsD l) = some (decide (w ∈ l)) := by
  have e : (wsD l).any (fun z => PyData.eqv z (.str w.s)) = decide (w ∈ l) := by
    rw [Bool.eq_iff_iff, List.any_eq_true, decide_eq_true_iff]
    constructor
    · rintro ⟨x, hx, e⟩
      obtain ⟨a, ha, rfl⟩ := List.mem_map.mp hx
      have e : (a.s == w.s) = true := e
      rw [beq_iff_eq] at e
      rw [← W.s_inj e]
      exact ha
    · intro hw
      refine ⟨.str w.s, List.mem_map.mpr ⟨w, hw, rfl⟩, ?_⟩
      show (w.s == w.s) = true
      rw [beq_iff_eq]
  unfold isin
  rw [w.shaped, wsD_shaped, e]
  rfl
theorem in_ws (w : W) (l : List W) : cop .isin (.str w.s) (.tuple (wsD l)) = some (decide (w ∈ l)) := isin_ws w l
theorem notin_ws (w : W) (l : List W) : cop .notin (.str w.s) (.tuple (wsD l)) = some (!decide (w ∈ l)) := by
  show (isin (.str w.s) (wsD l)).map (!·) = _
  rw [isin_ws]
  rfl
theorem W.end_in {w : W} (h : w.rk = 4) : cop .notin (.str w.s) (.tuple [.str "holds", .str "right", .str "down"]) = some false := by
  have : w ∈ [W.holds, W.right, W.down] := by
    cases w
    all_goals first | (exact absurd h (by decide)) | decide
  have e := notin_ws w [.holds, .right, .down]
  rw [decide_eq_true this] at e
  exact e
theorem ne_w (a b : W) : cop .ne (.str a.s) (.str b.s) = some (!decide (a = b)) := by
  show (cop .eq (.str a.s) (.str b.s)).map (!·) = _
  rw [W.eq]
  rfl
theorem ne_holds (a : W) : cop .ne (.str a.s) (.str "holds") = some (!decide (a = .holds)) := ne_w a .holds
theorem ne_right (a : W) : cop .ne (.str a.s) (.str "right") = some (!decide (a = .right)) := ne_w a .right
theorem nk_ne (mk : Option Nat) (h : Nat) : cop .ne (nkD mk) (.int h) = some (!decide (mk = some h)) := by
  show (cop .eq (nkD mk) (.int h)).map (!·) = _
  rw [nk_eq]
  rfl
/-- a hand alone behind t steps -/
def aloneW : Nat → W
  | 0 => .out | 1 => .ask | 2 => .close | 3 => .look | _ => .holds
def aloneS (m a t : Nat) : Sd := ⟨if t = 0 then none else some a, decide (3 ≤ t), (List.replicate m W.out).set a (aloneW t)⟩
theorem aloneS_len (m a t : Nat) : (aloneS m a t).ws.length = m := by simp [aloneS]
theorem aloneS_at {m a : Nat} (h : a < m) (t : Nat) : (aloneS m a t).ws[a]? = some (aloneW t) := by
  unfold aloneS
  rw [getE_set _ _ _ _ (by simpa using h), if_pos rfl]
theorem aloneS_step {m a : Nat} (h : a < m) (t : Nat) (ht : t < 4) : (aloneS m a t).step a = some (aloneS m a (t + 1)) := by
  unfold Sd.step
  rw [aloneS_at h]
  obtain rfl | rfl | rfl | rfl : t = 0 ∨ t = 1 ∨ t = 2 ∨ t = 3 := by omega
  all_goals simp [aloneS, aloneW, behW]
theorem aloneS_0 {m a : Nat} (h : a < m) : aloneS m a 0 = Sd.first m := by
  unfold aloneS Sd.first
  have : (List.replicate m W.out).set a (aloneW 0) = List.replicate m W.out := by
    apply List.ext_getElem?
    intro i
    rw [getE_set _ _ _ _ (by simpa using h)]
    by_cases e : i = a
    · subst e
      simp [aloneW, h]
    · simp [e]
  rw [this]
  rfl
/-- a stand in which a hand holds alone, the first j others went right -/
structure Behind (m a j : Nat) (s : Sd) : Prop where
  len : s.ws.length = m
  cl : s.cl = true
  at_ : s.ws[a]? = some W.holds
  rest : ∀ i, i < m → j ≤ i → i ≠ a → s.ws[i]? = some W.out
theorem aloneS_behind {m a : Nat} (h : a < m) : Behind m a 0 (aloneS m a 4) := ⟨aloneS_len .., rfl, aloneS_at h 4, fun i hi _ hn => by
  unfold aloneS
  rw [getE_set _ _ _ _ (by simpa using h), if_neg hn]
  simp [hi]⟩
theorem Behind.two {m a j : Nat} {s : Sd} (b : Behind m a j s) (hj : j < m) (hn : j ≠ a) : ∃ s1 s2, s.step j = some s1 ∧ s1.ws.length = m ∧ s1.step j = some s2 ∧ Behind m a (j + 1) s2 ∧ s2.ws[j]? = some W.right ∧ s2.mark = some j := by
  obtain ⟨mk, cl, ws⟩ := s
  obtain ⟨h1, h2, h3, h4⟩ := b
  dsimp only at h1 h2 h3 h4
  subst h2
  have e0 := h4 j hj (Nat.le_refl _) hn
  have hl : j < ws.length := by omega
  have e1 : (ws.set j W.ask)[j]? = some W.ask := by rw [getE_set _ _ _ _ hl, if_pos rfl]
  refine ⟨⟨some j, true, ws.set j .ask⟩, ⟨some j, true, (ws.set j .ask).set j .right⟩, ?_, by simpa using h1, ?_, ⟨by simpa using h1, rfl, ?_, fun i hi hji hni => ?_⟩, ?_, rfl⟩
  · unfold Sd.step
    dsimp only
    rw [e0]
    rfl
  · unfold Sd.step
    dsimp only
    rw [e1]
    rfl
  · dsimp only
    rw [List.set_set, getE_set _ _ _ _ hl, if_neg (Ne.symm hn)]
    exact h3
  · dsimp only
    rw [List.set_set, getE_set _ _ _ _ hl, if_neg (by omega)]
    exact h4 i hi (by omega) hni
  · dsimp only
    rw [List.set_set, getE_set _ _ _ _ hl, if_pos rfl]
theorem step_some {fu k : Nat} (hk : 2 ≤ k) {s s' : Sd} {h : Nat} (hh : h < s.ws.length) (hs : s.ws.length ≤ 100) (e : s.step h = some s') : ∃ outs, callF prog fu k 14 [.d s.d, .d (.int h)] = .ok (.d s'.d) outs := by
  have q := step_decider_run (fu := fu) hk hh hs
  unfold stepR at q
  rw [e] at q
  exact q
theorem limit_pick {v : Int} (h0 : 0 ≤ v) (h1 : v < 6) : ∃ l : Int, idxD (.list [.int 9, .int 9, .int 0, .int 1, .int 2, .int 3]) (.int v) = some (.int l) := by
  obtain rfl | rfl | rfl | rfl | rfl | rfl : v = 0 ∨ v = 1 ∨ v = 2 ∨ v = 3 ∨ v = 4 ∨ v = 5 := by omega
  all_goals exact ⟨_, rfl⟩
theorem mini_law (ns : List Int) (h : ns.length ≤ 63) : ∃ outs, callF prog 100000 100 21 [.s ns] = .ok (.d (.bool true)) outs := by
  rw [run_at (np := 1) (b := fn_law_k03.body) (Γ := [some (.s ns), none, none, none, none, none, none, none, none, none]) (fn := fn_law_k03) rfl rfl rfl rfl rfl]
  simp only [fn_law_k03]
  refine law_ok ?_
  have c0 := feed_run (P := prog) (f := 4) (fu := 100000) (k := 98) rfl ns h
  simp (disch := first | omega | (simp only [List.length_take, List.length_drop, List.length_map, List.length_append, List.length_cons, List.length_nil, wsD_len]; omega)) only [ss_cons, ss_nil, seq_nx, seq_rt, s_asg, kAsg, s_set, kSet2, s_ife, s_ret, kRt, ev_bin, kBin, kBin0, kBin1, kBin2, ev_cmp, kCmp, kCmp0, kCmp1, kCmp2, kBo, ev_idx, kIdx, kIdx0, kIdx1, kD1, ev_cst, ev_var, ev_lst, kLst, evDs_nil, ev_blt, kBlt, kBlt1, ev_and, opB_s, opB_idx, opB_cst, opB_bin, opB_lst, opB_blt, hasS_0, hasS_s, rdB_s, rdB_v, rdO_d, rdO_l, rdVO_d, slot_0, slot_s, kTD_d, kTD_l, kTB_b, kV, R.bind_ok, R.st_ok, optR_some, List.set_cons_zero, List.set_cons_succ, Option.isSome_some, i4_0, i4_1, i4_2, i4_3, st4_1, st4_2, st4_3, b_add, c_gt, c_ge, c_le, ev_call, evAs_pass, evAs_nil, kAs, kAs1, kConsO, kGv, gvO_some, pass_d, tb_t, tb_f, tb_end, slot_set0, ev_lc, evI_rng1, kRng1, evI_seq, kSeq, kDs, kCons, evDs_cons, opB_lc, opB_call, len_list, ev_mth, kMth1, kdB_s, kdB_v, opB_mth, ev_slh, kSlh, kSlh1, kSlh2, kSlh3, ev_sll, kSll, kSll1, kSll2, kSll3, asInt_int, slD_tup, slD_list, ev_neg, kNeg_int, ev_lls0, kApp, kAppl, kApp2, kExt, ev_blts, kBlts, s_tasg, kTasg, s_pass, s_expr, kExpr, opB_slh, opB_sll, opB_neg, opB_blts, opB_tup, ev_tup, kTup, rdVO_l, rdVO_k, rdVO_ll, rdO_k, items_list, list_list, list_tup, ev_isi, kIsi, kIsi1, ev_chain, kCh0, kCh1, kCh3, opB_isi, opB_glob, opB_chain, opB_not, opB_and, opB_or, opB_rev, kRev, kRev1, ev_rev, ev_not, kNot, ev_or, isTy_some, kAnd_t, kAnd_f, kOr_t, kOr_f, kIf_t, kIf_f, Bool.not_true, Bool.not_false, kCh2_t, kCh2_f, c_lt, c_eqI, c_neI, len_tup, items_tup, tuple_list, beq_self_eq_true, kCall_eq, kRes_ok, kRes_exc, evAs_t, kAsT_some, pass_k, pass_ll, pass_x, pass_l, pass_s, ev_pop, kPopE, kPop1, kPop0, ev_popA, kPopA_t, isL_l, isLL_l, isLL_ll, ev_lln, ev_slb, kSlb, kSlb1, kSlb2, kSlb3, kSlb4, kSlb5, evI_keys, kKeys_d, evI_items, kItems_d, evI_enum, kEnum_l, kEnum_t, evI_zip, kZip, kZip1_tt, kZip1_ll, evI_rng2, kRng2, kRng2b, evI_rng3, kRng3, kRng3b, kRng3c, s_appC, kAppC_t, s_applC, kApplC_t, s_extC, kExtC_t, s_insC, kInsC_t, kIns1, kIns2, s_revs, kRevs_l, s_clr, kClr_l, kClr_k, s_par, kParS, s_brk, s_cont, s_retn, s_raise, s_try, s_whl, s_rv, kRetv_s, kSet_eq, kSetC_t, putSlot_s, seq_bk, seq_ct, seq_exc, tryE_nx, tryE_rt, fin_r, fin_n, fin_e, raise_step, raise_paper, raise_stand, raise_many, raise_type, opS_some, asg_tp, setAll_nil, setAll_cons, ctx_cf, ctx_gl, tb_1, tb_2, tb_3, tb_4, tb_5, tb_nil, ev_ite, kIte_t, kIte_f, kMth_eq, kMthK_t, kMth2_eq, kMth2C_t, kdS_d, kdS_l, kdS_k, kd_lst, kd_tup, kd_dct, kd_str, on_1, on_2, on_3, on_4, on_5, on_6, on_7, on_8, on_9, on_10, on_11, eq_self, decide_true, kTD_k, kTD_ll, b_sub, isN_int, isN_bool, isN_str, isN_tup, isN_lst, isN_dct, isN_non, inN_int, inN_bool, inN_str, inN_tup, inN_lst, inN_dct, inN_non, isT_true, inT_true, isT_false, inT_false, opB_cmp, opB_ite, opB_dct, opB_pop, opB_popat, opB_isx, opB_att, opB_slb, ev_dct, rdVO_s, R.bind_exc, R.st_exc, List.take_succ_cons, List.take_zero, io_2, io_4, io_5, io_14, io_18, io_19, io_20, c0]
  refine for_rng 10 (by omega) rfl (fun i Γ => ∃ (o : O) (x2 x3 x4 x5 x6 x7 x8 x9 : Option O), Fd ns (1000 * i) o ∧ Γ = [some (.s ns), some o, x2, x3, x4, x5, keepD x6, x7, x8, x9]) ⟨_, _, _, _, _, none, _, _, _, (Fd.begin ns).mono (by omega), rfl⟩ (fun i Γ hi hJ => ?_) (fun Γ hJ => ?_)
  · obtain ⟨o, x2, x3, x4, x5, x6, x7, x8, x9, hf, rfl⟩ := hJ
    obtain ⟨v, o1, v0, v1, hf1, c1⟩ := hf.draw (n := 6) (fu := 100000) (k := 99) (by omega) (by omega) (by omega) (by omega)
    obtain ⟨m, hm⟩ : ∃ m : Nat, 1 + v = (m : Int) := ⟨(1 + v).toNat, by omega⟩
    have r1 : rngD [.int (m : Int)] = _ := rng1_nat (n := m) (by omega)
    obtain ⟨ys, Γ2, e2, o2, lims, y6, rfl, hlen, hf2, rfl⟩ := lc_rng (X := prog.ctx 100000 (callF prog 100000 99)) (j := 6) (e := .idx (.lst (.cons (.cst (.int 9)) (.cons (.cst (.int 9)) (.cons (.cst (.int 0)) (.cons (.cst (.int 1)) (.cons (.cst (.int 2)) (.cons (.cst (.int 3)) .nil))))))) (.call 5 (.cons (.var 1) (.cons (.cst (.int 6)) .nil))))
      (Γ := [some (.s ns), some o1, some (.d (.int i)), some (.d (.int m)), x4, x5, keepD x6, x7, x8, x9]) m (fun n ys Γ => ∃ (o : O) (l : List Int) (y6 : Option O), ys = l.map .int ∧ l.length = n ∧ Fd ns (1000 * i + 1 + n) o ∧ Γ = [some (.s ns), some o, some (.d (.int i)), some (.d (.int m)), x4, x5, y6, x7, x8, x9])
      ⟨o1, [], _, rfl, rfl, hf1.mono (by omega), rfl⟩ (fun n ys Γ1 hn hJ => by
        obtain ⟨o, l, y6, rfl, hl, hf, rfl⟩ := hJ
        obtain ⟨v, o', v0, v1, hf', c⟩ := hf.draw (n := 6) (fu := 100000) (k := 99) (by omega) (by omega) (by omega) (by omega)
        obtain ⟨x, ex⟩ := limit_pick v0 v1
        refine ⟨.int x, [some (.s ns), some o', some (.d (.int i)), some (.d (.int m)), x4, x5, some (.d (.int n)), x7, x8, x9], ?_, o', l ++ [x], _, by simp, by simp [hl], hf'.mono (by omega), rfl⟩
        simp (disch := first | omega | (simp only [List.length_take, List.length_drop, List.length_map, List.length_append, List.length_cons, List.length_nil, wsD_len]; omega)) only [ss_cons, ss_nil, seq_nx, seq_rt, s_asg, kAsg, s_set, kSet2, s_ife, s_ret, kRt, ev_bin, kBin, kBin0, kBin1, kBin2, ev_cmp, kCmp, kCmp0, kCmp1, kCmp2, kBo, ev_idx, kIdx, kIdx0, kIdx1, kD1, ev_cst, ev_var, ev_lst, kLst, evDs_nil, ev_blt, kBlt, kBlt1, ev_and, opB_s, opB_idx, opB_cst, opB_bin, opB_lst, opB_blt, hasS_0, hasS_s, rdB_s, rdB_v, rdO_d, rdO_l, rdVO_d, slot_0, slot_s, kTD_d, kTD_l, kTB_b, kV, R.bind_ok, R.st_ok, optR_some, List.set_cons_zero, List.set_cons_succ, Option.isSome_some, i4_0, i4_1, i4_2, i4_3, st4_1, st4_2, st4_3, b_add, c_gt, c_ge, c_le, ev_call, evAs_pass, evAs_nil, kAs, kAs1, kConsO, kGv, gvO_some, pass_d, tb_t, tb_f, tb_end, slot_set0, ev_lc, evI_rng1, kRng1, evI_seq, kSeq, kDs, kCons, evDs_cons, opB_lc, opB_call, len_list, ev_mth, kMth1, kdB_s, kdB_v, opB_mth, ev_slh, kSlh, kSlh1, kSlh2, kSlh3, ev_sll, kSll, kSll1, kSll2, kSll3, asInt_int, slD_tup, slD_list, ev_neg, kNeg_int, ev_lls0, kApp, kAppl, kApp2, kExt, ev_blts, kBlts, s_tasg, kTasg, s_pass, s_expr, kExpr, opB_slh, opB_sll, opB_neg, opB_blts, opB_tup, ev_tup, kTup, rdVO_l, rdVO_k, rdVO_ll, rdO_k, items_list, list_list, list_tup, ev_isi, kIsi, kIsi1, ev_chain, kCh0, kCh1, kCh3, opB_isi, opB_glob, opB_chain, opB_not, opB_and, opB_or, opB_rev, kRev, kRev1, ev_rev, ev_not, kNot, ev_or, isTy_some, kAnd_t, kAnd_f, kOr_t, kOr_f, kIf_t, kIf_f, Bool.not_true, Bool.not_false, kCh2_t, kCh2_f, c_lt, c_eqI, c_neI, len_tup, items_tup, tuple_list, beq_self_eq_true, kCall_eq, kRes_ok, kRes_exc, evAs_t, kAsT_some, pass_k, pass_ll, pass_x, pass_l, pass_s, ev_pop, kPopE, kPop1, kPop0, ev_popA, kPopA_t, isL_l, isLL_l, isLL_ll, ev_lln, ev_slb, kSlb, kSlb1, kSlb2, kSlb3, kSlb4, kSlb5, evI_keys, kKeys_d, evI_items, kItems_d, evI_enum, kEnum_l, kEnum_t, evI_zip, kZip, kZip1_tt, kZip1_ll, evI_rng2, kRng2, kRng2b, evI_rng3, kRng3, kRng3b, kRng3c, s_appC, kAppC_t, s_applC, kApplC_t, s_extC, kExtC_t, s_insC, kInsC_t, kIns1, kIns2, s_revs, kRevs_l, s_clr, kClr_l, kClr_k, s_par, kParS, s_brk, s_cont, s_retn, s_raise, s_try, s_whl, s_rv, kRetv_s, kSet_eq, kSetC_t, putSlot_s, seq_bk, seq_ct, seq_exc, tryE_nx, tryE_rt, fin_r, fin_n, fin_e, raise_step, raise_paper, raise_stand, raise_many, raise_type, opS_some, asg_tp, setAll_nil, setAll_cons, ctx_cf, ctx_gl, tb_1, tb_2, tb_3, tb_4, tb_5, tb_nil, ev_ite, kIte_t, kIte_f, kMth_eq, kMthK_t, kMth2_eq, kMth2C_t, kdS_d, kdS_l, kdS_k, kd_lst, kd_tup, kd_dct, kd_str, on_1, on_2, on_3, on_4, on_5, on_6, on_7, on_8, on_9, on_10, on_11, eq_self, decide_true, kTD_k, kTD_ll, b_sub, isN_int, isN_bool, isN_str, isN_tup, isN_lst, isN_dct, isN_non, inN_int, inN_bool, inN_str, inN_tup, inN_lst, inN_dct, inN_non, isT_true, inT_true, isT_false, inT_false, opB_cmp, opB_ite, opB_dct, opB_pop, opB_popat, opB_isx, opB_att, opB_slb, ev_dct, rdVO_s, R.bind_exc, R.st_exc, List.take_succ_cons, List.take_zero, io_2, io_4, io_5, io_14, io_18, io_19, io_20, c, ex])
    obtain ⟨s, o3, _, ok, sf, hf3, c3⟩ := woven_run (lims := lims) hf2 (fu := 100000) (k := 99) (by omega) (by omega) (by omega) (by omega) hlen
    simp (disch := first | omega | (simp only [List.length_take, List.length_drop, List.length_map, List.length_append, List.length_cons, List.length_nil, wsD_len]; omega)) only [ss_cons, ss_nil, seq_nx, seq_rt, s_asg, kAsg, s_set, kSet2, s_ife, s_ret, kRt, ev_bin, kBin, kBin0, kBin1, kBin2, ev_cmp, kCmp, kCmp0, kCmp1, kCmp2, kBo, ev_idx, kIdx, kIdx0, kIdx1, kD1, ev_cst, ev_var, ev_lst, kLst, evDs_nil, ev_blt, kBlt, kBlt1, ev_and, opB_s, opB_idx, opB_cst, opB_bin, opB_lst, opB_blt, hasS_0, hasS_s, rdB_s, rdB_v, rdO_d, rdO_l, rdVO_d, slot_0, slot_s, kTD_d, kTD_l, kTB_b, kV, R.bind_ok, R.st_ok, optR_some, List.set_cons_zero, List.set_cons_succ, Option.isSome_some, i4_0, i4_1, i4_2, i4_3, st4_1, st4_2, st4_3, b_add, c_gt, c_ge, c_le, ev_call, evAs_pass, evAs_nil, kAs, kAs1, kConsO, kGv, gvO_some, pass_d, tb_t, tb_f, tb_end, slot_set0, ev_lc, evI_rng1, kRng1, evI_seq, kSeq, kDs, kCons, evDs_cons, opB_lc, opB_call, len_list, ev_mth, kMth1, kdB_s, kdB_v, opB_mth, ev_slh, kSlh, kSlh1, kSlh2, kSlh3, ev_sll, kSll, kSll1, kSll2, kSll3, asInt_int, slD_tup, slD_list, ev_neg, kNeg_int, ev_lls0, kApp, kAppl, kApp2, kExt, ev_blts, kBlts, s_tasg, kTasg, s_pass, s_expr, kExpr, opB_slh, opB_sll, opB_neg, opB_blts, opB_tup, ev_tup, kTup, rdVO_l, rdVO_k, rdVO_ll, rdO_k, items_list, list_list, list_tup, ev_isi, kIsi, kIsi1, ev_chain, kCh0, kCh1, kCh3, opB_isi, opB_glob, opB_chain, opB_not, opB_and, opB_or, opB_rev, kRev, kRev1, ev_rev, ev_not, kNot, ev_or, isTy_some, kAnd_t, kAnd_f, kOr_t, kOr_f, kIf_t, kIf_f, Bool.not_true, Bool.not_false, kCh2_t, kCh2_f, c_lt, c_eqI, c_neI, len_tup, items_tup, tuple_list, beq_self_eq_true, kCall_eq, kRes_ok, kRes_exc, evAs_t, kAsT_some, pass_k, pass_ll, pass_x, pass_l, pass_s, ev_pop, kPopE, kPop1, kPop0, ev_popA, kPopA_t, isL_l, isLL_l, isLL_ll, ev_lln, ev_slb, kSlb, kSlb1, kSlb2, kSlb3, kSlb4, kSlb5, evI_keys, kKeys_d, evI_items, kItems_d, evI_enum, kEnum_l, kEnum_t, evI_zip, kZip, kZip1_tt, kZip1_ll, evI_rng2, kRng2, kRng2b, evI_rng3, kRng3, kRng3b, kRng3c, s_appC, kAppC_t, s_applC, kApplC_t, s_extC, kExtC_t, s_insC, kInsC_t, kIns1, kIns2, s_revs, kRevs_l, s_clr, kClr_l, kClr_k, s_par, kParS, s_brk, s_cont, s_retn, s_raise, s_try, s_whl, s_rv, kRetv_s, kSet_eq, kSetC_t, putSlot_s, seq_bk, seq_ct, seq_exc, tryE_nx, tryE_rt, fin_r, fin_n, fin_e, raise_step, raise_paper, raise_stand, raise_many, raise_type, opS_some, asg_tp, setAll_nil, setAll_cons, ctx_cf, ctx_gl, tb_1, tb_2, tb_3, tb_4, tb_5, tb_nil, ev_ite, kIte_t, kIte_f, kMth_eq, kMthK_t, kMth2_eq, kMth2C_t, kdS_d, kdS_l, kdS_k, kd_lst, kd_tup, kd_dct, kd_str, on_1, on_2, on_3, on_4, on_5, on_6, on_7, on_8, on_9, on_10, on_11, eq_self, decide_true, kTD_k, kTD_ll, b_sub, isN_int, isN_bool, isN_str, isN_tup, isN_lst, isN_dct, isN_non, inN_int, inN_bool, inN_str, inN_tup, inN_lst, inN_dct, inN_non, isT_true, inT_true, isT_false, inT_false, opB_cmp, opB_ite, opB_dct, opB_pop, opB_popat, opB_isx, opB_att, opB_slb, ev_dct, rdVO_s, R.bind_exc, R.st_exc, List.take_succ_cons, List.take_zero, io_2, io_4, io_5, io_14, io_18, io_19, io_20, c1, hm, r1, e2, restore_one, keep_keep, c3, sd_is]
    refine for_rng m (by omega) rfl (fun j Γ => ∃ (s : Sd) (x8 x9 x6 : Option O), s.Ok m ∧ s.Safe ∧ Γ = [some (.s ns), some o3, some (.d (.int i)), some (.d (.int m)), some (.d (.list (lims.map .int))), some (.d s.d), keepD x6, x7, x8, x9]) ⟨s, _, _, _, ok, sf, rfl⟩ (fun j Γ hj hJ => ?_) (fun Γ hJ => ?_)
    · obtain ⟨s, x8, x9, x6, ok, sf, rfl⟩ := hJ
      simp (disch := first | omega | (simp only [List.length_take, List.length_drop, List.length_map, List.length_append, List.length_cons, List.length_nil, wsD_len]; omega)) only [ss_cons, ss_nil, seq_nx, seq_rt, s_asg, kAsg, s_set, kSet2, s_ife, s_ret, kRt, ev_bin, kBin, kBin0, kBin1, kBin2, ev_cmp, kCmp, kCmp0, kCmp1, kCmp2, kBo, ev_idx, kIdx, kIdx0, kIdx1, kD1, ev_cst, ev_var, ev_lst, kLst, evDs_nil, ev_blt, kBlt, kBlt1, ev_and, opB_s, opB_idx, opB_cst, opB_bin, opB_lst, opB_blt, hasS_0, hasS_s, rdB_s, rdB_v, rdO_d, rdO_l, rdVO_d, slot_0, slot_s, kTD_d, kTD_l, kTB_b, kV, R.bind_ok, R.st_ok, optR_some, List.set_cons_zero, List.set_cons_succ, Option.isSome_some, i4_0, i4_1, i4_2, i4_3, st4_1, st4_2, st4_3, b_add, c_gt, c_ge, c_le, ev_call, evAs_pass, evAs_nil, kAs, kAs1, kConsO, kGv, gvO_some, pass_d, tb_t, tb_f, tb_end, slot_set0, ev_lc, evI_rng1, kRng1, evI_seq, kSeq, kDs, kCons, evDs_cons, opB_lc, opB_call, len_list, ev_mth, kMth1, kdB_s, kdB_v, opB_mth, ev_slh, kSlh, kSlh1, kSlh2, kSlh3, ev_sll, kSll, kSll1, kSll2, kSll3, asInt_int, slD_tup, slD_list, ev_neg, kNeg_int, ev_lls0, kApp, kAppl, kApp2, kExt, ev_blts, kBlts, s_tasg, kTasg, s_pass, s_expr, kExpr, opB_slh, opB_sll, opB_neg, opB_blts, opB_tup, ev_tup, kTup, rdVO_l, rdVO_k, rdVO_ll, rdO_k, items_list, list_list, list_tup, ev_isi, kIsi, kIsi1, ev_chain, kCh0, kCh1, kCh3, opB_isi, opB_glob, opB_chain, opB_not, opB_and, opB_or, opB_rev, kRev, kRev1, ev_rev, ev_not, kNot, ev_or, isTy_some, kAnd_t, kAnd_f, kOr_t, kOr_f, kIf_t, kIf_f, Bool.not_true, Bool.not_false, kCh2_t, kCh2_f, c_lt, c_eqI, c_neI, len_tup, items_tup, tuple_list, beq_self_eq_true, kCall_eq, kRes_ok, kRes_exc, evAs_t, kAsT_some, pass_k, pass_ll, pass_x, pass_l, pass_s, ev_pop, kPopE, kPop1, kPop0, ev_popA, kPopA_t, isL_l, isLL_l, isLL_ll, ev_lln, ev_slb, kSlb, kSlb1, kSlb2, kSlb3, kSlb4, kSlb5, evI_keys, kKeys_d, evI_items, kItems_d, evI_enum, kEnum_l, kEnum_t, evI_zip, kZip, kZip1_tt, kZip1_ll, evI_rng2, kRng2, kRng2b, evI_rng3, kRng3, kRng3b, kRng3c, s_appC, kAppC_t, s_applC, kApplC_t, s_extC, kExtC_t, s_insC, kInsC_t, kIns1, kIns2, s_revs, kRevs_l, s_clr, kClr_l, kClr_k, s_par, kParS, s_brk, s_cont, s_retn, s_raise, s_try, s_whl, s_rv, kRetv_s, kSet_eq, kSetC_t, putSlot_s, seq_bk, seq_ct, seq_exc, tryE_nx, tryE_rt, fin_r, fin_n, fin_e, raise_step, raise_paper, raise_stand, raise_many, raise_type, opS_some, asg_tp, setAll_nil, setAll_cons, ctx_cf, ctx_gl, tb_1, tb_2, tb_3, tb_4, tb_5, tb_nil, ev_ite, kIte_t, kIte_f, kMth_eq, kMthK_t, kMth2_eq, kMth2C_t, kdS_d, kdS_l, kdS_k, kd_lst, kd_tup, kd_dct, kd_str, on_1, on_2, on_3, on_4, on_5, on_6, on_7, on_8, on_9, on_10, on_11, eq_self, decide_true, kTD_k, kTD_ll, b_sub, isN_int, isN_bool, isN_str, isN_tup, isN_lst, isN_dct, isN_non, inN_int, inN_bool, inN_str, inN_tup, inN_lst, inN_dct, inN_non, isT_true, inT_true, isT_false, inT_false, opB_cmp, opB_ite, opB_dct, opB_pop, opB_popat, opB_isx, opB_att, opB_slb, ev_dct, rdVO_s, R.bind_exc, R.st_exc, List.take_succ_cons, List.take_zero, io_2, io_4, io_5, io_14, io_18, io_19, io_20]
      refine for_rng 5 (by omega) rfl (fun t Γ => ∃ (s : Sd) (x8 x9 : Option O) (w : W), s.Ok m ∧ s.Safe ∧ s.ws[j]? = some w ∧ (t ≤ w.rk ∨ w.rk = 4) ∧ Γ = [some (.s ns), some o3, some (.d (.int i)), some (.d (.int m)), some (.d (.list (lims.map .int))), some (.d s.d), some (.d (.int j)), x7, x8, x9])
        ⟨s, _, _, _, ok, sf, List.getElem?_eq_getElem (by rw [ok.len]; exact hj), .inl (Nat.zero_le _), rfl⟩ (fun t Γ ht hJ => ?_) (fun Γ hJ => ?_)
      · obtain ⟨s, x8, x9, w, ok, sf, ew, hw, rfl⟩ := hJ
        have hj2 : j < s.ws.length := by rw [ok.len]; exact hj
        obtain ⟨_, c4⟩ := moves_run (fu := 100000) (k := 99) (by omega) hj2 (by rw [ok.len]; omega)
        unfold stepD at c4
        cases es : s.step j with
        | none =>
          rw [es] at c4
          obtain ⟨w', ew', hr⟩ := s.step_none hj2 es
          rw [ew] at ew'
          cases ew'
          simp (disch := first | omega | (simp only [List.length_take, List.length_drop, List.length_map, List.length_append, List.length_cons, List.length_nil, wsD_len]; omega)) only [ss_cons, ss_nil, seq_nx, seq_rt, s_asg, kAsg, s_set, kSet2, s_ife, s_ret, kRt, ev_bin, kBin, kBin0, kBin1, kBin2, ev_cmp, kCmp, kCmp0, kCmp1, kCmp2, kBo, ev_idx, kIdx, kIdx0, kIdx1, kD1, ev_cst, ev_var, ev_lst, kLst, evDs_nil, ev_blt, kBlt, kBlt1, ev_and, opB_s, opB_idx, opB_cst, opB_bin, opB_lst, opB_blt, hasS_0, hasS_s, rdB_s, rdB_v, rdO_d, rdO_l, rdVO_d, slot_0, slot_s, kTD_d, kTD_l, kTB_b, kV, R.bind_ok, R.st_ok, optR_some, List.set_cons_zero, List.set_cons_succ, Option.isSome_some, i4_0, i4_1, i4_2, i4_3, st4_1, st4_2, st4_3, b_add, c_gt, c_ge, c_le, ev_call, evAs_pass, evAs_nil, kAs, kAs1, kConsO, kGv, gvO_some, pass_d, tb_t, tb_f, tb_end, slot_set0, ev_lc, evI_rng1, kRng1, evI_seq, kSeq, kDs, kCons, evDs_cons, opB_lc, opB_call, len_list, ev_mth, kMth1, kdB_s, kdB_v, opB_mth, ev_slh, kSlh, kSlh1, kSlh2, kSlh3, ev_sll, kSll, kSll1, kSll2, kSll3, asInt_int, slD_tup, slD_list, ev_neg, kNeg_int, ev_lls0, kApp, kAppl, kApp2, kExt, ev_blts, kBlts, s_tasg, kTasg, s_pass, s_expr, kExpr, opB_slh, opB_sll, opB_neg, opB_blts, opB_tup, ev_tup, kTup, rdVO_l, rdVO_k, rdVO_ll, rdO_k, items_list, list_list, list_tup, ev_isi, kIsi, kIsi1, ev_chain, kCh0, kCh1, kCh3, opB_isi, opB_glob, opB_chain, opB_not, opB_and, opB_or, opB_rev, kRev, kRev1, ev_rev, ev_not, kNot, ev_or, isTy_some, kAnd_t, kAnd_f, kOr_t, kOr_f, kIf_t, kIf_f, Bool.not_true, Bool.not_false, kCh2_t, kCh2_f, c_lt, c_eqI, c_neI, len_tup, items_tup, tuple_list, beq_self_eq_true, kCall_eq, kRes_ok, kRes_exc, evAs_t, kAsT_some, pass_k, pass_ll, pass_x, pass_l, pass_s, ev_pop, kPopE, kPop1, kPop0, ev_popA, kPopA_t, isL_l, isLL_l, isLL_ll, ev_lln, ev_slb, kSlb, kSlb1, kSlb2, kSlb3, kSlb4, kSlb5, evI_keys, kKeys_d, evI_items, kItems_d, evI_enum, kEnum_l, kEnum_t, evI_zip, kZip, kZip1_tt, kZip1_ll, evI_rng2, kRng2, kRng2b, evI_rng3, kRng3, kRng3b, kRng3c, s_appC, kAppC_t, s_applC, kApplC_t, s_extC, kExtC_t, s_insC, kInsC_t, kIns1, kIns2, s_revs, kRevs_l, s_clr, kClr_l, kClr_k, s_par, kParS, s_brk, s_cont, s_retn, s_raise, s_try, s_whl, s_rv, kRetv_s, kSet_eq, kSetC_t, putSlot_s, seq_bk, seq_ct, seq_exc, tryE_nx, tryE_rt, fin_r, fin_n, fin_e, raise_step, raise_paper, raise_stand, raise_many, raise_type, opS_some, asg_tp, setAll_nil, setAll_cons, ctx_cf, ctx_gl, tb_1, tb_2, tb_3, tb_4, tb_5, tb_nil, ev_ite, kIte_t, kIte_f, kMth_eq, kMthK_t, kMth2_eq, kMth2C_t, kdS_d, kdS_l, kdS_k, kd_lst, kd_tup, kd_dct, kd_str, on_1, on_2, on_3, on_4, on_5, on_6, on_7, on_8, on_9, on_10, on_11, eq_self, decide_true, kTD_k, kTD_ll, b_sub, isN_int, isN_bool, isN_str, isN_tup, isN_lst, isN_dct, isN_non, inN_int, inN_bool, inN_str, inN_tup, inN_lst, inN_dct, inN_non, isT_true, inT_true, isT_false, inT_false, opB_cmp, opB_ite, opB_dct, opB_pop, opB_popat, opB_isx, opB_att, opB_slb, ev_dct, rdVO_s, R.bind_exc, R.st_exc, List.take_succ_cons, List.take_zero, io_2, io_4, io_5, io_14, io_18, io_19, io_20, c4]
          exact ⟨s, _, _, w, ok, sf, ew, .inr hr, rfl⟩
        | some s' =>
          rw [es] at c4
          obtain ⟨w0, w', e0, e2, e3, e4⟩ := s.step_at es
          rw [ew] at e0
          cases e0
          have := w'.rk_le
          simp (disch := first | omega | (simp only [List.length_take, List.length_drop, List.length_map, List.length_append, List.length_cons, List.length_nil, wsD_len]; omega)) only [ss_cons, ss_nil, seq_nx, seq_rt, s_asg, kAsg, s_set, kSet2, s_ife, s_ret, kRt, ev_bin, kBin, kBin0, kBin1, kBin2, ev_cmp, kCmp, kCmp0, kCmp1, kCmp2, kBo, ev_idx, kIdx, kIdx0, kIdx1, kD1, ev_cst, ev_var, ev_lst, kLst, evDs_nil, ev_blt, kBlt, kBlt1, ev_and, opB_s, opB_idx, opB_cst, opB_bin, opB_lst, opB_blt, hasS_0, hasS_s, rdB_s, rdB_v, rdO_d, rdO_l, rdVO_d, slot_0, slot_s, kTD_d, kTD_l, kTB_b, kV, R.bind_ok, R.st_ok, optR_some, List.set_cons_zero, List.set_cons_succ, Option.isSome_some, i4_0, i4_1, i4_2, i4_3, st4_1, st4_2, st4_3, b_add, c_gt, c_ge, c_le, ev_call, evAs_pass, evAs_nil, kAs, kAs1, kConsO, kGv, gvO_some, pass_d, tb_t, tb_f, tb_end, slot_set0, ev_lc, evI_rng1, kRng1, evI_seq, kSeq, kDs, kCons, evDs_cons, opB_lc, opB_call, len_list, ev_mth, kMth1, kdB_s, kdB_v, opB_mth, ev_slh, kSlh, kSlh1, kSlh2, kSlh3, ev_sll, kSll, kSll1, kSll2, kSll3, asInt_int, slD_tup, slD_list, ev_neg, kNeg_int, ev_lls0, kApp, kAppl, kApp2, kExt, ev_blts, kBlts, s_tasg, kTasg, s_pass, s_expr, kExpr, opB_slh, opB_sll, opB_neg, opB_blts, opB_tup, ev_tup, kTup, rdVO_l, rdVO_k, rdVO_ll, rdO_k, items_list, list_list, list_tup, ev_isi, kIsi, kIsi1, ev_chain, kCh0, kCh1, kCh3, opB_isi, opB_glob, opB_chain, opB_not, opB_and, opB_or, opB_rev, kRev, kRev1, ev_rev, ev_not, kNot, ev_or, isTy_some, kAnd_t, kAnd_f, kOr_t, kOr_f, kIf_t, kIf_f, Bool.not_true, Bool.not_false, kCh2_t, kCh2_f, c_lt, c_eqI, c_neI, len_tup, items_tup, tuple_list, beq_self_eq_true, kCall_eq, kRes_ok, kRes_exc, evAs_t, kAsT_some, pass_k, pass_ll, pass_x, pass_l, pass_s, ev_pop, kPopE, kPop1, kPop0, ev_popA, kPopA_t, isL_l, isLL_l, isLL_ll, ev_lln, ev_slb, kSlb, kSlb1, kSlb2, kSlb3, kSlb4, kSlb5, evI_keys, kKeys_d, evI_items, kItems_d, evI_enum, kEnum_l, kEnum_t, evI_zip, kZip, kZip1_tt, kZip1_ll, evI_rng2, kRng2, kRng2b, evI_rng3, kRng3, kRng3b, kRng3c, s_appC, kAppC_t, s_applC, kApplC_t, s_extC, kExtC_t, s_insC, kInsC_t, kIns1, kIns2, s_revs, kRevs_l, s_clr, kClr_l, kClr_k, s_par, kParS, s_brk, s_cont, s_retn, s_raise, s_try, s_whl, s_rv, kRetv_s, kSet_eq, kSetC_t, putSlot_s, seq_bk, seq_ct, seq_exc, tryE_nx, tryE_rt, fin_r, fin_n, fin_e, raise_step, raise_paper, raise_stand, raise_many, raise_type, opS_some, asg_tp, setAll_nil, setAll_cons, ctx_cf, ctx_gl, tb_1, tb_2, tb_3, tb_4, tb_5, tb_nil, ev_ite, kIte_t, kIte_f, kMth_eq, kMthK_t, kMth2_eq, kMth2C_t, kdS_d, kdS_l, kdS_k, kd_lst, kd_tup, kd_dct, kd_str, on_1, on_2, on_3, on_4, on_5, on_6, on_7, on_8, on_9, on_10, on_11, eq_self, decide_true, kTD_k, kTD_ll, b_sub, isN_int, isN_bool, isN_str, isN_tup, isN_lst, isN_dct, isN_non, inN_int, inN_bool, inN_str, inN_tup, inN_lst, inN_dct, inN_non, isT_true, inT_true, isT_false, inT_false, opB_cmp, opB_ite, opB_dct, opB_pop, opB_popat, opB_isx, opB_att, opB_slb, ev_dct, rdVO_s, R.bind_exc, R.st_exc, List.take_succ_cons, List.take_zero, io_2, io_4, io_5, io_14, io_18, io_19, io_20, c4, sd_is]
          exact ⟨s', _, _, w', s.step_ok ok hj es, sf.step es, by rw [e2, getE_set _ _ _ _ hj2, if_pos rfl], by omega, rfl⟩
      · obtain ⟨s, x8, x9, w, ok, sf, ew, hw, rfl⟩ := hJ
        have := w.rk_le
        have hr : w.rk = 4 := by omega
        obtain ⟨_, c5⟩ := fits_run (fu := 100000) (k := 99) (by omega) s
        have f1 := sf.fits
        have i2 : idxD s.d (.int 2) = some (.tuple (wsD s.ws)) := rfl
        simp (disch := first | omega | (simp only [List.length_take, List.length_drop, List.length_map, List.length_append, List.length_cons, List.length_nil, wsD_len]; omega)) only [ss_cons, ss_nil, seq_nx, seq_rt, s_asg, kAsg, s_set, kSet2, s_ife, s_ret, kRt, ev_bin, kBin, kBin0, kBin1, kBin2, ev_cmp, kCmp, kCmp0, kCmp1, kCmp2, kBo, ev_idx, kIdx, kIdx0, kIdx1, kD1, ev_cst, ev_var, ev_lst, kLst, evDs_nil, ev_blt, kBlt, kBlt1, ev_and, opB_s, opB_idx, opB_cst, opB_bin, opB_lst, opB_blt, hasS_0, hasS_s, rdB_s, rdB_v, rdO_d, rdO_l, rdVO_d, slot_0, slot_s, kTD_d, kTD_l, kTB_b, kV, R.bind_ok, R.st_ok, optR_some, List.set_cons_zero, List.set_cons_succ, Option.isSome_some, i4_0, i4_1, i4_2, i4_3, st4_1, st4_2, st4_3, b_add, c_gt, c_ge, c_le, ev_call, evAs_pass, evAs_nil, kAs, kAs1, kConsO, kGv, gvO_some, pass_d, tb_t, tb_f, tb_end, slot_set0, ev_lc, evI_rng1, kRng1, evI_seq, kSeq, kDs, kCons, evDs_cons, opB_lc, opB_call, len_list, ev_mth, kMth1, kdB_s, kdB_v, opB_mth, ev_slh, kSlh, kSlh1, kSlh2, kSlh3, ev_sll, kSll, kSll1, kSll2, kSll3, asInt_int, slD_tup, slD_list, ev_neg, kNeg_int, ev_lls0, kApp, kAppl, kApp2, kExt, ev_blts, kBlts, s_tasg, kTasg, s_pass, s_expr, kExpr, opB_slh, opB_sll, opB_neg, opB_blts, opB_tup, ev_tup, kTup, rdVO_l, rdVO_k, rdVO_ll, rdO_k, items_list, list_list, list_tup, ev_isi, kIsi, kIsi1, ev_chain, kCh0, kCh1, kCh3, opB_isi, opB_glob, opB_chain, opB_not, opB_and, opB_or, opB_rev, kRev, kRev1, ev_rev, ev_not, kNot, ev_or, isTy_some, kAnd_t, kAnd_f, kOr_t, kOr_f, kIf_t, kIf_f, Bool.not_true, Bool.not_false, kCh2_t, kCh2_f, c_lt, c_eqI, c_neI, len_tup, items_tup, tuple_list, beq_self_eq_true, kCall_eq, kRes_ok, kRes_exc, evAs_t, kAsT_some, pass_k, pass_ll, pass_x, pass_l, pass_s, ev_pop, kPopE, kPop1, kPop0, ev_popA, kPopA_t, isL_l, isLL_l, isLL_ll, ev_lln, ev_slb, kSlb, kSlb1, kSlb2, kSlb3, kSlb4, kSlb5, evI_keys, kKeys_d, evI_items, kItems_d, evI_enum, kEnum_l, kEnum_t, evI_zip, kZip, kZip1_tt, kZip1_ll, evI_rng2, kRng2, kRng2b, evI_rng3, kRng3, kRng3b, kRng3c, s_appC, kAppC_t, s_applC, kApplC_t, s_extC, kExtC_t, s_insC, kInsC_t, kIns1, kIns2, s_revs, kRevs_l, s_clr, kClr_l, kClr_k, s_par, kParS, s_brk, s_cont, s_retn, s_raise, s_try, s_whl, s_rv, kRetv_s, kSet_eq, kSetC_t, putSlot_s, seq_bk, seq_ct, seq_exc, tryE_nx, tryE_rt, fin_r, fin_n, fin_e, raise_step, raise_paper, raise_stand, raise_many, raise_type, opS_some, asg_tp, setAll_nil, setAll_cons, ctx_cf, ctx_gl, tb_1, tb_2, tb_3, tb_4, tb_5, tb_nil, ev_ite, kIte_t, kIte_f, kMth_eq, kMthK_t, kMth2_eq, kMth2C_t, kdS_d, kdS_l, kdS_k, kd_lst, kd_tup, kd_dct, kd_str, on_1, on_2, on_3, on_4, on_5, on_6, on_7, on_8, on_9, on_10, on_11, eq_self, decide_true, kTD_k, kTD_ll, b_sub, isN_int, isN_bool, isN_str, isN_tup, isN_lst, isN_dct, isN_non, inN_int, inN_bool, inN_str, inN_tup, inN_lst, inN_dct, inN_non, isT_true, inT_true, isT_false, inT_false, opB_cmp, opB_ite, opB_dct, opB_pop, opB_popat, opB_isx, opB_att, opB_slb, ev_dct, rdVO_s, R.bind_exc, R.st_exc, List.take_succ_cons, List.take_zero, io_2, io_4, io_5, io_14, io_18, io_19, io_20, i2, wsD_at ew, w.end_in hr, c5, f1]
        exact ⟨s, _, _, some (.d (.int j)), ok, sf, rfl⟩
    · obtain ⟨s, x8, x9, x6, ok, sf, rfl⟩ := hJ
      obtain ⟨va, o4, va0, va1, hf4, c6⟩ := hf3.draw (n := m) (fu := 100000) (k := 99) (by omega) (by omega) (by omega) (by omega)
      obtain ⟨a, rfl⟩ : ∃ a : Nat, va = (a : Int) := ⟨va.toNat, by omega⟩
      have ha : a < m := by omega
      obtain ⟨_, c7⟩ := first_run' (fu := 100000) (k := 99) (m := m) (by omega) (by omega) (by omega)
      rw [← aloneS_0 ha] at c7
      simp (disch := first | omega | (simp only [List.length_take, List.length_drop, List.length_map, List.length_append, List.length_cons, List.length_nil, wsD_len]; omega)) only [ss_cons, ss_nil, seq_nx, seq_rt, s_asg, kAsg, s_set, kSet2, s_ife, s_ret, kRt, ev_bin, kBin, kBin0, kBin1, kBin2, ev_cmp, kCmp, kCmp0, kCmp1, kCmp2, kBo, ev_idx, kIdx, kIdx0, kIdx1, kD1, ev_cst, ev_var, ev_lst, kLst, evDs_nil, ev_blt, kBlt, kBlt1, ev_and, opB_s, opB_idx, opB_cst, opB_bin, opB_lst, opB_blt, hasS_0, hasS_s, rdB_s, rdB_v, rdO_d, rdO_l, rdVO_d, slot_0, slot_s, kTD_d, kTD_l, kTB_b, kV, R.bind_ok, R.st_ok, optR_some, List.set_cons_zero, List.set_cons_succ, Option.isSome_some, i4_0, i4_1, i4_2, i4_3, st4_1, st4_2, st4_3, b_add, c_gt, c_ge, c_le, ev_call, evAs_pass, evAs_nil, kAs, kAs1, kConsO, kGv, gvO_some, pass_d, tb_t, tb_f, tb_end, slot_set0, ev_lc, evI_rng1, kRng1, evI_seq, kSeq, kDs, kCons, evDs_cons, opB_lc, opB_call, len_list, ev_mth, kMth1, kdB_s, kdB_v, opB_mth, ev_slh, kSlh, kSlh1, kSlh2, kSlh3, ev_sll, kSll, kSll1, kSll2, kSll3, asInt_int, slD_tup, slD_list, ev_neg, kNeg_int, ev_lls0, kApp, kAppl, kApp2, kExt, ev_blts, kBlts, s_tasg, kTasg, s_pass, s_expr, kExpr, opB_slh, opB_sll, opB_neg, opB_blts, opB_tup, ev_tup, kTup, rdVO_l, rdVO_k, rdVO_ll, rdO_k, items_list, list_list, list_tup, ev_isi, kIsi, kIsi1, ev_chain, kCh0, kCh1, kCh3, opB_isi, opB_glob, opB_chain, opB_not, opB_and, opB_or, opB_rev, kRev, kRev1, ev_rev, ev_not, kNot, ev_or, isTy_some, kAnd_t, kAnd_f, kOr_t, kOr_f, kIf_t, kIf_f, Bool.not_true, Bool.not_false, kCh2_t, kCh2_f, c_lt, c_eqI, c_neI, len_tup, items_tup, tuple_list, beq_self_eq_true, kCall_eq, kRes_ok, kRes_exc, evAs_t, kAsT_some, pass_k, pass_ll, pass_x, pass_l, pass_s, ev_pop, kPopE, kPop1, kPop0, ev_popA, kPopA_t, isL_l, isLL_l, isLL_ll, ev_lln, ev_slb, kSlb, kSlb1, kSlb2, kSlb3, kSlb4, kSlb5, evI_keys, kKeys_d, evI_items, kItems_d, evI_enum, kEnum_l, kEnum_t, evI_zip, kZip, kZip1_tt, kZip1_ll, evI_rng2, kRng2, kRng2b, evI_rng3, kRng3, kRng3b, kRng3c, s_appC, kAppC_t, s_applC, kApplC_t, s_extC, kExtC_t, s_insC, kInsC_t, kIns1, kIns2, s_revs, kRevs_l, s_clr, kClr_l, kClr_k, s_par, kParS, s_brk, s_cont, s_retn, s_raise, s_try, s_whl, s_rv, kRetv_s, kSet_eq, kSetC_t, putSlot_s, seq_bk, seq_ct, seq_exc, tryE_nx, tryE_rt, fin_r, fin_n, fin_e, raise_step, raise_paper, raise_stand, raise_many, raise_type, opS_some, asg_tp, setAll_nil, setAll_cons, ctx_cf, ctx_gl, tb_1, tb_2, tb_3, tb_4, tb_5, tb_nil, ev_ite, kIte_t, kIte_f, kMth_eq, kMthK_t, kMth2_eq, kMth2C_t, kdS_d, kdS_l, kdS_k, kd_lst, kd_tup, kd_dct, kd_str, on_1, on_2, on_3, on_4, on_5, on_6, on_7, on_8, on_9, on_10, on_11, eq_self, decide_true, kTD_k, kTD_ll, b_sub, isN_int, isN_bool, isN_str, isN_tup, isN_lst, isN_dct, isN_non, inN_int, inN_bool, inN_str, inN_tup, inN_lst, inN_dct, inN_non, isT_true, inT_true, isT_false, inT_false, opB_cmp, opB_ite, opB_dct, opB_pop, opB_popat, opB_isx, opB_att, opB_slb, ev_dct, rdVO_s, R.bind_exc, R.st_exc, List.take_succ_cons, List.take_zero, io_2, io_4, io_5, io_14, io_18, io_19, io_20, c6, c7]
      refine for_rng 4 (by omega) rfl (fun t Γ => ∃ (x8 : Option O), Γ = [some (.s ns), some o4, some (.d (.int i)), some (.d (.int m)), some (.d (.list (lims.map .int))), some (.d (aloneS m a t).d), keepD x6, some (.d (.int a)), x8, x9]) ⟨_, rfl⟩ (fun t Γ ht hJ => ?_) (fun Γ hJ => ?_)
      · obtain ⟨x8, rfl⟩ := hJ
        obtain ⟨_, c8⟩ := step_some (fu := 100000) (k := 99) (by omega) (by rw [aloneS_len]; exact ha) (by rw [aloneS_len]; omega) (aloneS_step ha t ht)
        simp (disch := first | omega | (simp only [List.length_take, List.length_drop, List.length_map, List.length_append, List.length_cons, List.length_nil, wsD_len]; omega)) only [ss_cons, ss_nil, seq_nx, seq_rt, s_asg, kAsg, s_set, kSet2, s_ife, s_ret, kRt, ev_bin, kBin, kBin0, kBin1, kBin2, ev_cmp, kCmp, kCmp0, kCmp1, kCmp2, kBo, ev_idx, kIdx, kIdx0, kIdx1, kD1, ev_cst, ev_var, ev_lst, kLst, evDs_nil, ev_blt, kBlt, kBlt1, ev_and, opB_s, opB_idx, opB_cst, opB_bin, opB_lst, opB_blt, hasS_0, hasS_s, rdB_s, rdB_v, rdO_d, rdO_l, rdVO_d, slot_0, slot_s, kTD_d, kTD_l, kTB_b, kV, R.bind_ok, R.st_ok, optR_some, List.set_cons_zero, List.set_cons_succ, Option.isSome_some, i4_0, i4_1, i4_2, i4_3, st4_1, st4_2, st4_3, b_add, c_gt, c_ge, c_le, ev_call, evAs_pass, evAs_nil, kAs, kAs1, kConsO, kGv, gvO_some, pass_d, tb_t, tb_f, tb_end, slot_set0, ev_lc, evI_rng1, kRng1, evI_seq, kSeq, kDs, kCons, evDs_cons, opB_lc, opB_call, len_list, ev_mth, kMth1, kdB_s, kdB_v, opB_mth, ev_slh, kSlh, kSlh1, kSlh2, kSlh3, ev_sll, kSll, kSll1, kSll2, kSll3, asInt_int, slD_tup, slD_list, ev_neg, kNeg_int, ev_lls0, kApp, kAppl, kApp2, kExt, ev_blts, kBlts, s_tasg, kTasg, s_pass, s_expr, kExpr, opB_slh, opB_sll, opB_neg, opB_blts, opB_tup, ev_tup, kTup, rdVO_l, rdVO_k, rdVO_ll, rdO_k, items_list, list_list, list_tup, ev_isi, kIsi, kIsi1, ev_chain, kCh0, kCh1, kCh3, opB_isi, opB_glob, opB_chain, opB_not, opB_and, opB_or, opB_rev, kRev, kRev1, ev_rev, ev_not, kNot, ev_or, isTy_some, kAnd_t, kAnd_f, kOr_t, kOr_f, kIf_t, kIf_f, Bool.not_true, Bool.not_false, kCh2_t, kCh2_f, c_lt, c_eqI, c_neI, len_tup, items_tup, tuple_list, beq_self_eq_true, kCall_eq, kRes_ok, kRes_exc, evAs_t, kAsT_some, pass_k, pass_ll, pass_x, pass_l, pass_s, ev_pop, kPopE, kPop1, kPop0, ev_popA, kPopA_t, isL_l, isLL_l, isLL_ll, ev_lln, ev_slb, kSlb, kSlb1, kSlb2, kSlb3, kSlb4, kSlb5, evI_keys, kKeys_d, evI_items, kItems_d, evI_enum, kEnum_l, kEnum_t, evI_zip, kZip, kZip1_tt, kZip1_ll, evI_rng2, kRng2, kRng2b, evI_rng3, kRng3, kRng3b, kRng3c, s_appC, kAppC_t, s_applC, kApplC_t, s_extC, kExtC_t, s_insC, kInsC_t, kIns1, kIns2, s_revs, kRevs_l, s_clr, kClr_l, kClr_k, s_par, kParS, s_brk, s_cont, s_retn, s_raise, s_try, s_whl, s_rv, kRetv_s, kSet_eq, kSetC_t, putSlot_s, seq_bk, seq_ct, seq_exc, tryE_nx, tryE_rt, fin_r, fin_n, fin_e, raise_step, raise_paper, raise_stand, raise_many, raise_type, opS_some, asg_tp, setAll_nil, setAll_cons, ctx_cf, ctx_gl, tb_1, tb_2, tb_3, tb_4, tb_5, tb_nil, ev_ite, kIte_t, kIte_f, kMth_eq, kMthK_t, kMth2_eq, kMth2C_t, kdS_d, kdS_l, kdS_k, kd_lst, kd_tup, kd_dct, kd_str, on_1, on_2, on_3, on_4, on_5, on_6, on_7, on_8, on_9, on_10, on_11, eq_self, decide_true, kTD_k, kTD_ll, b_sub, isN_int, isN_bool, isN_str, isN_tup, isN_lst, isN_dct, isN_non, inN_int, inN_bool, inN_str, inN_tup, inN_lst, inN_dct, inN_non, isT_true, inT_true, isT_false, inT_false, opB_cmp, opB_ite, opB_dct, opB_pop, opB_popat, opB_isx, opB_att, opB_slb, ev_dct, rdVO_s, R.bind_exc, R.st_exc, List.take_succ_cons, List.take_zero, io_2, io_4, io_5, io_14, io_18, io_19, io_20, c8]
        exact ⟨_, rfl⟩
      · obtain ⟨x8, rfl⟩ := hJ
        have i2 : ∀ s : Sd, idxD s.d (.int 2) = some (.tuple (wsD s.ws)) := fun _ => rfl
        have i0 : ∀ s : Sd, idxD s.d (.int 0) = some (nkD s.mark) := fun _ => rfl
        have hb := aloneS_behind ha
        have e4 : (aloneS m a 4).step a = none := by
          unfold Sd.step
          rw [aloneS_at ha]
          rfl
        obtain ⟨_, c9⟩ := moves_run (fu := 100000) (k := 99) (by omega) (s := aloneS m a 4) (h := a) (by rw [aloneS_len]; exact ha) (by rw [aloneS_len]; omega)
        unfold stepD at c9
        rw [e4] at c9
        simp (disch := first | omega | (simp only [List.length_take, List.length_drop, List.length_map, List.length_append, List.length_cons, List.length_nil, wsD_len]; omega)) only [ss_cons, ss_nil, seq_nx, seq_rt, s_asg, kAsg, s_set, kSet2, s_ife, s_ret, kRt, ev_bin, kBin, kBin0, kBin1, kBin2, ev_cmp, kCmp, kCmp0, kCmp1, kCmp2, kBo, ev_idx, kIdx, kIdx0, kIdx1, kD1, ev_cst, ev_var, ev_lst, kLst, evDs_nil, ev_blt, kBlt, kBlt1, ev_and, opB_s, opB_idx, opB_cst, opB_bin, opB_lst, opB_blt, hasS_0, hasS_s, rdB_s, rdB_v, rdO_d, rdO_l, rdVO_d, slot_0, slot_s, kTD_d, kTD_l, kTB_b, kV, R.bind_ok, R.st_ok, optR_some, List.set_cons_zero, List.set_cons_succ, Option.isSome_some, i4_0, i4_1, i4_2, i4_3, st4_1, st4_2, st4_3, b_add, c_gt, c_ge, c_le, ev_call, evAs_pass, evAs_nil, kAs, kAs1, kConsO, kGv, gvO_some, pass_d, tb_t, tb_f, tb_end, slot_set0, ev_lc, evI_rng1, kRng1, evI_seq, kSeq, kDs, kCons, evDs_cons, opB_lc, opB_call, len_list, ev_mth, kMth1, kdB_s, kdB_v, opB_mth, ev_slh, kSlh, kSlh1, kSlh2, kSlh3, ev_sll, kSll, kSll1, kSll2, kSll3, asInt_int, slD_tup, slD_list, ev_neg, kNeg_int, ev_lls0, kApp, kAppl, kApp2, kExt, ev_blts, kBlts, s_tasg, kTasg, s_pass, s_expr, kExpr, opB_slh, opB_sll, opB_neg, opB_blts, opB_tup, ev_tup, kTup, rdVO_l, rdVO_k, rdVO_ll, rdO_k, items_list, list_list, list_tup, ev_isi, kIsi, kIsi1, ev_chain, kCh0, kCh1, kCh3, opB_isi, opB_glob, opB_chain, opB_not, opB_and, opB_or, opB_rev, kRev, kRev1, ev_rev, ev_not, kNot, ev_or, isTy_some, kAnd_t, kAnd_f, kOr_t, kOr_f, kIf_t, kIf_f, Bool.not_true, Bool.not_false, kCh2_t, kCh2_f, c_lt, c_eqI, c_neI, len_tup, items_tup, tuple_list, beq_self_eq_true, kCall_eq, kRes_ok, kRes_exc, evAs_t, kAsT_some, pass_k, pass_ll, pass_x, pass_l, pass_s, ev_pop, kPopE, kPop1, kPop0, ev_popA, kPopA_t, isL_l, isLL_l, isLL_ll, ev_lln, ev_slb, kSlb, kSlb1, kSlb2, kSlb3, kSlb4, kSlb5, evI_keys, kKeys_d, evI_items, kItems_d, evI_enum, kEnum_l, kEnum_t, evI_zip, kZip, kZip1_tt, kZip1_ll, evI_rng2, kRng2, kRng2b, evI_rng3, kRng3, kRng3b, kRng3c, s_appC, kAppC_t, s_applC, kApplC_t, s_extC, kExtC_t, s_insC, kInsC_t, kIns1, kIns2, s_revs, kRevs_l, s_clr, kClr_l, kClr_k, s_par, kParS, s_brk, s_cont, s_retn, s_raise, s_try, s_whl, s_rv, kRetv_s, kSet_eq, kSetC_t, putSlot_s, seq_bk, seq_ct, seq_exc, tryE_nx, tryE_rt, fin_r, fin_n, fin_e, raise_step, raise_paper, raise_stand, raise_many, raise_type, opS_some, asg_tp, setAll_nil, setAll_cons, ctx_cf, ctx_gl, tb_1, tb_2, tb_3, tb_4, tb_5, tb_nil, ev_ite, kIte_t, kIte_f, kMth_eq, kMthK_t, kMth2_eq, kMth2C_t, kdS_d, kdS_l, kdS_k, kd_lst, kd_tup, kd_dct, kd_str, on_1, on_2, on_3, on_4, on_5, on_6, on_7, on_8, on_9, on_10, on_11, eq_self, decide_true, kTD_k, kTD_ll, b_sub, isN_int, isN_bool, isN_str, isN_tup, isN_lst, isN_dct, isN_non, inN_int, inN_bool, inN_str, inN_tup, inN_lst, inN_dct, inN_non, isT_true, inT_true, isT_false, inT_false, opB_cmp, opB_ite, opB_dct, opB_pop, opB_popat, opB_isx, opB_att, opB_slb, ev_dct, rdVO_s, R.bind_exc, R.st_exc, List.take_succ_cons, List.take_zero, io_2, io_4, io_5, io_14, io_18, io_19, io_20, i2, wsD_at hb.at_, ne_holds, decide_true, c9]
        refine for_rng m (by omega) rfl (fun j Γ => ∃ (s : Sd) (x6 : Option O), Behind m a j s ∧ Γ = [some (.s ns), some o4, some (.d (.int i)), some (.d (.int m)), some (.d (.list (lims.map .int))), some (.d s.d), keepD x6, some (.d (.int a)), x8, x9]) ⟨_, _, hb, rfl⟩ (fun j Γ hj hJ => ?_) (fun Γ hJ => ?_)
        · obtain ⟨s, x6, b, rfl⟩ := hJ
          by_cases hja : j = a
          · subst hja
            simp (disch := first | omega | (simp only [List.length_take, List.length_drop, List.length_map, List.length_append, List.length_cons, List.length_nil, wsD_len]; omega)) only [ss_cons, ss_nil, seq_nx, seq_rt, s_asg, kAsg, s_set, kSet2, s_ife, s_ret, kRt, ev_bin, kBin, kBin0, kBin1, kBin2, ev_cmp, kCmp, kCmp0, kCmp1, kCmp2, kBo, ev_idx, kIdx, kIdx0, kIdx1, kD1, ev_cst, ev_var, ev_lst, kLst, evDs_nil, ev_blt, kBlt, kBlt1, ev_and, opB_s, opB_idx, opB_cst, opB_bin, opB_lst, opB_blt, hasS_0, hasS_s, rdB_s, rdB_v, rdO_d, rdO_l, rdVO_d, slot_0, slot_s, kTD_d, kTD_l, kTB_b, kV, R.bind_ok, R.st_ok, optR_some, List.set_cons_zero, List.set_cons_succ, Option.isSome_some, i4_0, i4_1, i4_2, i4_3, st4_1, st4_2, st4_3, b_add, c_gt, c_ge, c_le, ev_call, evAs_pass, evAs_nil, kAs, kAs1, kConsO, kGv, gvO_some, pass_d, tb_t, tb_f, tb_end, slot_set0, ev_lc, evI_rng1, kRng1, evI_seq, kSeq, kDs, kCons, evDs_cons, opB_lc, opB_call, len_list, ev_mth, kMth1, kdB_s, kdB_v, opB_mth, ev_slh, kSlh, kSlh1, kSlh2, kSlh3, ev_sll, kSll, kSll1, kSll2, kSll3, asInt_int, slD_tup, slD_list, ev_neg, kNeg_int, ev_lls0, kApp, kAppl, kApp2, kExt, ev_blts, kBlts, s_tasg, kTasg, s_pass, s_expr, kExpr, opB_slh, opB_sll, opB_neg, opB_blts, opB_tup, ev_tup, kTup, rdVO_l, rdVO_k, rdVO_ll, rdO_k, items_list, list_list, list_tup, ev_isi, kIsi, kIsi1, ev_chain, kCh0, kCh1, kCh3, opB_isi, opB_glob, opB_chain, opB_not, opB_and, opB_or, opB_rev, kRev, kRev1, ev_rev, ev_not, kNot, ev_or, isTy_some, kAnd_t, kAnd_f, kOr_t, kOr_f, kIf_t, kIf_f, Bool.not_true, Bool.not_false, kCh2_t, kCh2_f, c_lt, c_eqI, c_neI, len_tup, items_tup, tuple_list, beq_self_eq_true, kCall_eq, kRes_ok, kRes_exc, evAs_t, kAsT_some, pass_k, pass_ll, pass_x, pass_l, pass_s, ev_pop, kPopE, kPop1, kPop0, ev_popA, kPopA_t, isL_l, isLL_l, isLL_ll, ev_lln, ev_slb, kSlb, kSlb1, kSlb2, kSlb3, kSlb4, kSlb5, evI_keys, kKeys_d, evI_items, kItems_d, evI_enum, kEnum_l, kEnum_t, evI_zip, kZip, kZip1_tt, kZip1_ll, evI_rng2, kRng2, kRng2b, evI_rng3, kRng3, kRng3b, kRng3c, s_appC, kAppC_t, s_applC, kApplC_t, s_extC, kExtC_t, s_insC, kInsC_t, kIns1, kIns2, s_revs, kRevs_l, s_clr, kClr_l, kClr_k, s_par, kParS, s_brk, s_cont, s_retn, s_raise, s_try, s_whl, s_rv, kRetv_s, kSet_eq, kSetC_t, putSlot_s, seq_bk, seq_ct, seq_exc, tryE_nx, tryE_rt, fin_r, fin_n, fin_e, raise_step, raise_paper, raise_stand, raise_many, raise_type, opS_some, asg_tp, setAll_nil, setAll_cons, ctx_cf, ctx_gl, tb_1, tb_2, tb_3, tb_4, tb_5, tb_nil, ev_ite, kIte_t, kIte_f, kMth_eq, kMthK_t, kMth2_eq, kMth2C_t, kdS_d, kdS_l, kdS_k, kd_lst, kd_tup, kd_dct, kd_str, on_1, on_2, on_3, on_4, on_5, on_6, on_7, on_8, on_9, on_10, on_11, eq_self, decide_true, kTD_k, kTD_ll, b_sub, isN_int, isN_bool, isN_str, isN_tup, isN_lst, isN_dct, isN_non, inN_int, inN_bool, inN_str, inN_tup, inN_lst, inN_dct, inN_non, isT_true, inT_true, isT_false, inT_false, opB_cmp, opB_ite, opB_dct, opB_pop, opB_popat, opB_isx, opB_att, opB_slb, ev_dct, rdVO_s, R.bind_exc, R.st_exc, List.take_succ_cons, List.take_zero, io_2, io_4, io_5, io_14, io_18, io_19, io_20]
            exact ⟨s, some (.d (.int j)), ⟨b.len, b.cl, b.at_, fun i h1 h2 h3 => b.rest i h1 (by omega) h3⟩, rfl⟩
          · obtain ⟨s1, s2, e1, l1, e2, b2, e3, e5⟩ := b.two hj hja
            obtain ⟨_, c10⟩ := step_some (fu := 100000) (k := 99) (by omega) (by rw [b.len]; exact hj) (by rw [b.len]; omega) e1
            obtain ⟨_, c11⟩ := step_some (fu := 100000) (k := 99) (by omega) (by rw [l1]; exact hj) (by rw [l1]; omega) e2
            have hq : ((j : Int) == (a : Int)) = false := by
              rw [beq_eq_false_iff_ne]
              omega
            simp (disch := first | omega | (simp only [List.length_take, List.length_drop, List.length_map, List.length_append, List.length_cons, List.length_nil, wsD_len]; omega)) only [ss_cons, ss_nil, seq_nx, seq_rt, s_asg, kAsg, s_set, kSet2, s_ife, s_ret, kRt, ev_bin, kBin, kBin0, kBin1, kBin2, ev_cmp, kCmp, kCmp0, kCmp1, kCmp2, kBo, ev_idx, kIdx, kIdx0, kIdx1, kD1, ev_cst, ev_var, ev_lst, kLst, evDs_nil, ev_blt, kBlt, kBlt1, ev_and, opB_s, opB_idx, opB_cst, opB_bin, opB_lst, opB_blt, hasS_0, hasS_s, rdB_s, rdB_v, rdO_d, rdO_l, rdVO_d, slot_0, slot_s, kTD_d, kTD_l, kTB_b, kV, R.bind_ok, R.st_ok, optR_some, List.set_cons_zero, List.set_cons_succ, Option.isSome_some, i4_0, i4_1, i4_2, i4_3, st4_1, st4_2, st4_3, b_add, c_gt, c_ge, c_le, ev_call, evAs_pass, evAs_nil, kAs, kAs1, kConsO, kGv, gvO_some, pass_d, tb_t, tb_f, tb_end, slot_set0, ev_lc, evI_rng1, kRng1, evI_seq, kSeq, kDs, kCons, evDs_cons, opB_lc, opB_call, len_list, ev_mth, kMth1, kdB_s, kdB_v, opB_mth, ev_slh, kSlh, kSlh1, kSlh2, kSlh3, ev_sll, kSll, kSll1, kSll2, kSll3, asInt_int, slD_tup, slD_list, ev_neg, kNeg_int, ev_lls0, kApp, kAppl, kApp2, kExt, ev_blts, kBlts, s_tasg, kTasg, s_pass, s_expr, kExpr, opB_slh, opB_sll, opB_neg, opB_blts, opB_tup, ev_tup, kTup, rdVO_l, rdVO_k, rdVO_ll, rdO_k, items_list, list_list, list_tup, ev_isi, kIsi, kIsi1, ev_chain, kCh0, kCh1, kCh3, opB_isi, opB_glob, opB_chain, opB_not, opB_and, opB_or, opB_rev, kRev, kRev1, ev_rev, ev_not, kNot, ev_or, isTy_some, kAnd_t, kAnd_f, kOr_t, kOr_f, kIf_t, kIf_f, Bool.not_true, Bool.not_false, kCh2_t, kCh2_f, c_lt, c_eqI, c_neI, len_tup, items_tup, tuple_list, beq_self_eq_true, kCall_eq, kRes_ok, kRes_exc, evAs_t, kAsT_some, pass_k, pass_ll, pass_x, pass_l, pass_s, ev_pop, kPopE, kPop1, kPop0, ev_popA, kPopA_t, isL_l, isLL_l, isLL_ll, ev_lln, ev_slb, kSlb, kSlb1, kSlb2, kSlb3, kSlb4, kSlb5, evI_keys, kKeys_d, evI_items, kItems_d, evI_enum, kEnum_l, kEnum_t, evI_zip, kZip, kZip1_tt, kZip1_ll, evI_rng2, kRng2, kRng2b, evI_rng3, kRng3, kRng3b, kRng3c, s_appC, kAppC_t, s_applC, kApplC_t, s_extC, kExtC_t, s_insC, kInsC_t, kIns1, kIns2, s_revs, kRevs_l, s_clr, kClr_l, kClr_k, s_par, kParS, s_brk, s_cont, s_retn, s_raise, s_try, s_whl, s_rv, kRetv_s, kSet_eq, kSetC_t, putSlot_s, seq_bk, seq_ct, seq_exc, tryE_nx, tryE_rt, fin_r, fin_n, fin_e, raise_step, raise_paper, raise_stand, raise_many, raise_type, opS_some, asg_tp, setAll_nil, setAll_cons, ctx_cf, ctx_gl, tb_1, tb_2, tb_3, tb_4, tb_5, tb_nil, ev_ite, kIte_t, kIte_f, kMth_eq, kMthK_t, kMth2_eq, kMth2C_t, kdS_d, kdS_l, kdS_k, kd_lst, kd_tup, kd_dct, kd_str, on_1, on_2, on_3, on_4, on_5, on_6, on_7, on_8, on_9, on_10, on_11, eq_self, decide_true, kTD_k, kTD_ll, b_sub, isN_int, isN_bool, isN_str, isN_tup, isN_lst, isN_dct, isN_non, inN_int, inN_bool, inN_str, inN_tup, inN_lst, inN_dct, inN_non, isT_true, inT_true, isT_false, inT_false, opB_cmp, opB_ite, opB_dct, opB_pop, opB_popat, opB_isx, opB_att, opB_slb, ev_dct, rdVO_s, R.bind_exc, R.st_exc, List.take_succ_cons, List.take_zero, io_2, io_4, io_5, io_14, io_18, io_19, io_20, hq, c10, c11, i2, i0, wsD_at e3, wsD_at b2.at_, ne_right, ne_holds, nk_ne, e5, decide_true]
            exact ⟨s2, some (.d (.int j)), b2, rfl⟩
        · obtain ⟨s, x6, b, rfl⟩ := hJ
          simp (disch := first | omega | (simp only [List.length_take, List.length_drop, List.length_map, List.length_append, List.length_cons, List.length_nil, wsD_len]; omega)) only [ss_cons, ss_nil, seq_nx, seq_rt, s_asg, kAsg, s_set, kSet2, s_ife, s_ret, kRt, ev_bin, kBin, kBin0, kBin1, kBin2, ev_cmp, kCmp, kCmp0, kCmp1, kCmp2, kBo, ev_idx, kIdx, kIdx0, kIdx1, kD1, ev_cst, ev_var, ev_lst, kLst, evDs_nil, ev_blt, kBlt, kBlt1, ev_and, opB_s, opB_idx, opB_cst, opB_bin, opB_lst, opB_blt, hasS_0, hasS_s, rdB_s, rdB_v, rdO_d, rdO_l, rdVO_d, slot_0, slot_s, kTD_d, kTD_l, kTB_b, kV, R.bind_ok, R.st_ok, optR_some, List.set_cons_zero, List.set_cons_succ, Option.isSome_some, i4_0, i4_1, i4_2, i4_3, st4_1, st4_2, st4_3, b_add, c_gt, c_ge, c_le, ev_call, evAs_pass, evAs_nil, kAs, kAs1, kConsO, kGv, gvO_some, pass_d, tb_t, tb_f, tb_end, slot_set0, ev_lc, evI_rng1, kRng1, evI_seq, kSeq, kDs, kCons, evDs_cons, opB_lc, opB_call, len_list, ev_mth, kMth1, kdB_s, kdB_v, opB_mth, ev_slh, kSlh, kSlh1, kSlh2, kSlh3, ev_sll, kSll, kSll1, kSll2, kSll3, asInt_int, slD_tup, slD_list, ev_neg, kNeg_int, ev_lls0, kApp, kAppl, kApp2, kExt, ev_blts, kBlts, s_tasg, kTasg, s_pass, s_expr, kExpr, opB_slh, opB_sll, opB_neg, opB_blts, opB_tup, ev_tup, kTup, rdVO_l, rdVO_k, rdVO_ll, rdO_k, items_list, list_list, list_tup, ev_isi, kIsi, kIsi1, ev_chain, kCh0, kCh1, kCh3, opB_isi, opB_glob, opB_chain, opB_not, opB_and, opB_or, opB_rev, kRev, kRev1, ev_rev, ev_not, kNot, ev_or, isTy_some, kAnd_t, kAnd_f, kOr_t, kOr_f, kIf_t, kIf_f, Bool.not_true, Bool.not_false, kCh2_t, kCh2_f, c_lt, c_eqI, c_neI, len_tup, items_tup, tuple_list, beq_self_eq_true, kCall_eq, kRes_ok, kRes_exc, evAs_t, kAsT_some, pass_k, pass_ll, pass_x, pass_l, pass_s, ev_pop, kPopE, kPop1, kPop0, ev_popA, kPopA_t, isL_l, isLL_l, isLL_ll, ev_lln, ev_slb, kSlb, kSlb1, kSlb2, kSlb3, kSlb4, kSlb5, evI_keys, kKeys_d, evI_items, kItems_d, evI_enum, kEnum_l, kEnum_t, evI_zip, kZip, kZip1_tt, kZip1_ll, evI_rng2, kRng2, kRng2b, evI_rng3, kRng3, kRng3b, kRng3c, s_appC, kAppC_t, s_applC, kApplC_t, s_extC, kExtC_t, s_insC, kInsC_t, kIns1, kIns2, s_revs, kRevs_l, s_clr, kClr_l, kClr_k, s_par, kParS, s_brk, s_cont, s_retn, s_raise, s_try, s_whl, s_rv, kRetv_s, kSet_eq, kSetC_t, putSlot_s, seq_bk, seq_ct, seq_exc, tryE_nx, tryE_rt, fin_r, fin_n, fin_e, raise_step, raise_paper, raise_stand, raise_many, raise_type, opS_some, asg_tp, setAll_nil, setAll_cons, ctx_cf, ctx_gl, tb_1, tb_2, tb_3, tb_4, tb_5, tb_nil, ev_ite, kIte_t, kIte_f, kMth_eq, kMthK_t, kMth2_eq, kMth2C_t, kdS_d, kdS_l, kdS_k, kd_lst, kd_tup, kd_dct, kd_str, on_1, on_2, on_3, on_4, on_5, on_6, on_7, on_8, on_9, on_10, on_11, eq_self, decide_true, kTD_k, kTD_ll, b_sub, isN_int, isN_bool, isN_str, isN_tup, isN_lst, isN_dct, isN_non, inN_int, inN_bool, inN_str, inN_tup, inN_lst, inN_dct, inN_non, isT_true, inT_true, isT_false, inT_false, opB_cmp, opB_ite, opB_dct, opB_pop, opB_popat, opB_isx, opB_att, opB_slb, ev_dct, rdVO_s, R.bind_exc, R.st_exc, List.take_succ_cons, List.take_zero, io_2, io_4, io_5, io_14, io_18, io_19, io_20]
          exact ⟨o4, _, _, _, _, x6, _, _, _, hf4.mono (by omega), rfl⟩
  · obtain ⟨o, x2, x3, x4, x5, x6, x7, x8, x9, hf, rfl⟩ := hJ
    simp (disch := first | omega | (simp only [List.length_take, List.length_drop, List.length_map, List.length_append, List.length_cons, List.length_nil, wsD_len]; omega)) only [ss_cons, ss_nil, seq_nx, seq_rt, s_asg, kAsg, s_set, kSet2, s_ife, s_ret, kRt, ev_bin, kBin, kBin0, kBin1, kBin2, ev_cmp, kCmp, kCmp0, kCmp1, kCmp2, kBo, ev_idx, kIdx, kIdx0, kIdx1, kD1, ev_cst, ev_var, ev_lst, kLst, evDs_nil, ev_blt, kBlt, kBlt1, ev_and, opB_s, opB_idx, opB_cst, opB_bin, opB_lst, opB_blt, hasS_0, hasS_s, rdB_s, rdB_v, rdO_d, rdO_l, rdVO_d, slot_0, slot_s, kTD_d, kTD_l, kTB_b, kV, R.bind_ok, R.st_ok, optR_some, List.set_cons_zero, List.set_cons_succ, Option.isSome_some, i4_0, i4_1, i4_2, i4_3, st4_1, st4_2, st4_3, b_add, c_gt, c_ge, c_le, ev_call, evAs_pass, evAs_nil, kAs, kAs1, kConsO, kGv, gvO_some, pass_d, tb_t, tb_f, tb_end, slot_set0, ev_lc, evI_rng1, kRng1, evI_seq, kSeq, kDs, kCons, evDs_cons, opB_lc, opB_call, len_list, ev_mth, kMth1, kdB_s, kdB_v, opB_mth, ev_slh, kSlh, kSlh1, kSlh2, kSlh3, ev_sll, kSll, kSll1, kSll2, kSll3, asInt_int, slD_tup, slD_list, ev_neg, kNeg_int, ev_lls0, kApp, kAppl, kApp2, kExt, ev_blts, kBlts, s_tasg, kTasg, s_pass, s_expr, kExpr, opB_slh, opB_sll, opB_neg, opB_blts, opB_tup, ev_tup, kTup, rdVO_l, rdVO_k, rdVO_ll, rdO_k, items_list, list_list, list_tup, ev_isi, kIsi, kIsi1, ev_chain, kCh0, kCh1, kCh3, opB_isi, opB_glob, opB_chain, opB_not, opB_and, opB_or, opB_rev, kRev, kRev1, ev_rev, ev_not, kNot, ev_or, isTy_some, kAnd_t, kAnd_f, kOr_t, kOr_f, kIf_t, kIf_f, Bool.not_true, Bool.not_false, kCh2_t, kCh2_f, c_lt, c_eqI, c_neI, len_tup, items_tup, tuple_list, beq_self_eq_true, kCall_eq, kRes_ok, kRes_exc, evAs_t, kAsT_some, pass_k, pass_ll, pass_x, pass_l, pass_s, ev_pop, kPopE, kPop1, kPop0, ev_popA, kPopA_t, isL_l, isLL_l, isLL_ll, ev_lln, ev_slb, kSlb, kSlb1, kSlb2, kSlb3, kSlb4, kSlb5, evI_keys, kKeys_d, evI_items, kItems_d, evI_enum, kEnum_l, kEnum_t, evI_zip, kZip, kZip1_tt, kZip1_ll, evI_rng2, kRng2, kRng2b, evI_rng3, kRng3, kRng3b, kRng3c, s_appC, kAppC_t, s_applC, kApplC_t, s_extC, kExtC_t, s_insC, kInsC_t, kIns1, kIns2, s_revs, kRevs_l, s_clr, kClr_l, kClr_k, s_par, kParS, s_brk, s_cont, s_retn, s_raise, s_try, s_whl, s_rv, kRetv_s, kSet_eq, kSetC_t, putSlot_s, seq_bk, seq_ct, seq_exc, tryE_nx, tryE_rt, fin_r, fin_n, fin_e, raise_step, raise_paper, raise_stand, raise_many, raise_type, opS_some, asg_tp, setAll_nil, setAll_cons, ctx_cf, ctx_gl, tb_1, tb_2, tb_3, tb_4, tb_5, tb_nil, ev_ite, kIte_t, kIte_f, kMth_eq, kMthK_t, kMth2_eq, kMth2C_t, kdS_d, kdS_l, kdS_k, kd_lst, kd_tup, kd_dct, kd_str, on_1, on_2, on_3, on_4, on_5, on_6, on_7, on_8, on_9, on_10, on_11, eq_self, decide_true, kTD_k, kTD_ll, b_sub, isN_int, isN_bool, isN_str, isN_tup, isN_lst, isN_dct, isN_non, inN_int, inN_bool, inN_str, inN_tup, inN_lst, inN_dct, inN_non, isT_true, inT_true, isT_false, inT_false, opB_cmp, opB_ite, opB_dct, opB_pop, opB_popat, opB_isx, opB_att, opB_slb, ev_dct, rdVO_s, R.bind_exc, R.st_exc, List.take_succ_cons, List.take_zero, io_2, io_4, io_5, io_14, io_18, io_19, io_20]
    rfl
end MI

set_option maxRecDepth 100000
set_option maxHeartbeats 0
namespace MI
open L2 PySem PyProof.Rows PySem.Spec
abbrev pw0 : Program := PySem.Challenge.pw_handnames_k03_whole_weavings_of_deciders
abbrev rw0 : PySem.W.OpenLaw := PySem.Challenge.rw_handnames_k03_whole_weavings_of_deciders
def top (i : Nat) : Stmt := pw0.main.body.getD i (.Pass ⟨0, 0, 0, 0⟩)
def tbL : List (Nat × Str × Nat) := [(2, ("first_decider" : Str), 1), (13, ("behind_word" : Str), 4), (14, ("step_decider" : Str), 2), (4, ("_law_feed" : Str), 1), (5, ("_law_draw" : Str), 2), (18, ("_law_moves" : Str), 2), (19, ("_law_fits" : Str), 1), (20, ("_law_woven" : Str), 3), (21, ("law" : Str), 1)]
def tb0 : Tb := ⟨⟨tbL⟩, ⟨cnT.map fun p => (p.1, p.2.1)⟩, ["HandError", "NoStep"]⟩
def N_0 : List Str := ["many"]
theorem ck_0 : kDef tb0 N_0 fn_first_decider (defScope (top 4)) (defBody (top 4)) = true := by kernel_rfl
def N_1 : List Str := ["mark", "closed", "word", "hand"]
theorem ck_1 : kDef tb0 N_1 fn_behind_word (defScope (top 5)) (defBody (top 5)) = true := by kernel_rfl
def N_2 : List Str := ["stand", "hand", "mark", "closed", "words", "behind"]
theorem ck_2 : kDef tb0 N_2 fn_step_decider (defScope (top 6)) (defBody (top 6)) = true := by kernel_rfl
def N_3 : List Str := ["_law_script"]
theorem ck_3 : kDef tb0 N_3 fn__law_feed (defScope (top 8)) (defBody (top 8)) = true := by kernel_rfl
def N_4 : List Str := ["_law_feed_here", "_law_many", "_law_turn", "_law_digit", "_law_cells", "_law_cell", "_law_mixed"]
theorem ck_4 : kDef tb0 N_4 fn__law_draw (defScope (top 9)) (defBody (top 9)) = true := by kernel_rfl
def N_5 : List Str := ["_law_stand", "_law_hand"]
theorem ck_5 : kDef tb0 N_5 fn__law_moves (defScope (top 10)) (defBody (top 10)) = true := by kernel_rfl
def N_6 : List Str := ["_law_stand", "_law_came", "_law_word"]
theorem ck_6 : kDef tb0 N_6 fn__law_fits (defScope (top 11)) (defBody (top 11)) = true := by kernel_rfl
def N_7 : List Str := ["_law_feed_here", "_law_many", "_law_limits", "_law_stand", "_law_done", "_law_turn", "_law_hand", "_law_behind"]
theorem ck_7 : kDef tb0 N_7 fn__law_woven (defScope (top 12)) (defBody (top 12)) = true := by kernel_rfl
def N_8 : List Str := ["_law_script", "_law_feed_here", "_law_k", "_law_many", "_law_limits", "_law_stand", "_law_hand", "_law_alone", "_law_turn", "_law_behind"]
theorem ck_8 : kDef tb0 N_8 fn_law_k03 (defScope (top 13)) (defBody (top 13)) = true := by kernel_rfl
def fa0 : List He.Fa := bltFa ++ [(.glo "first_decider" : He.Fa), (.glo "behind_word" : He.Fa), (.glo "step_decider" : He.Fa), (.glo "_law_feed" : He.Fa), (.glo "_law_draw" : He.Fa), (.glo "_law_moves" : He.Fa), (.glo "_law_fits" : He.Fa), (.glo "_law_woven" : He.Fa), (.glo "law" : He.Fa)]
def dd0 : List He.DefD := [dat "first_decider" (top 4), dat "behind_word" (top 5), dat "step_decider" (top 6), dat "_law_feed" (top 8), dat "_law_draw" (top 9), dat "_law_moves" (top 10), dat "_law_fits" (top 11), dat "_law_woven" (top 12), dat "law" (top 13), datI "NoStep" "NoStep.__init__" (top 2)]
def xs0 : List Cl := [.handError, .noStep]
def rs0 : List Cl := [.noStep]
theorem ki_NoStep : kIn1 "hand" (defScope (cIni (top 2))) (defBody (cIni (top 2))) = true := by kernel_rfl
def parsT : List (Nat × List Str) := [(2, (["many"] : List Str)), (13, (["mark", "closed", "word", "hand"] : List Str)), (14, (["stand", "hand"] : List Str)), (4, (["_law_script"] : List Str)), (5, (["_law_feed_here", "_law_many"] : List Str)), (18, (["_law_stand", "_law_hand"] : List Str)), (19, (["_law_stand"] : List Str)), (20, (["_law_feed_here", "_law_many", "_law_limits"] : List Str)), (21, (["_law_script"] : List Str))]
def pars0 (f : Nat) : List Str := (lookN parsT f).getD []
def cn0 : List (Str × D) := cnT.map (·.2)
theorem known0 {K : PySem.W.Frag} {h : Heap} {gm : Str → Option Value} (inK : K.In h) (g : h.Ns mainGlobals gm) (c : He.SaysD fa0 dd0 K) (c2 : CnOk K cn0) (c3 : kXc K xs0 rs0 = true) : Known K gm tb0 prog pars0 where
  blt := fun s hs => He.free_ok inK g (fact_mem c (List.mem_append_left _ (List.mem_map_of_mem hs)))
  gl := fun i x e => gl_more (CnOk.gl inK g c2 i x e)
  xs := fun cl hc e => let q := kXc_at inK g c3 (kXc_in (tb := tb0) (xs := xs0) (by kernel_rfl) hc e); ⟨q.1, q.2.1⟩
  ra := fun cl e hf => by
    have h0 := (kXc_at inK g c3 (c := .handError) (by decide)).1
    match cl, e, hf with
    | .noStep, _, _ =>
      obtain ⟨fd, D⟩ := c.def_ 9 (d := datI "NoStep" "NoStep.__init__" (top 2)) rfl
      have q := kXc_at inK g c3 (c := .noStep) (by decide)
      exact fun P w base => ra1_ok rfl D (D.bindsA (ps := ["self", "hand"]) fun _ _ _ _ _ _ us hl => match us, hl with | [_, _], _ => rfl) ki_NoStep c3 (by decide) q.2.2 h0 q.1 (by decide) P w base
    | .handError, _, hf => exact absurd rfl hf
    | .noPaper, e, _ => exact nomatch (show false = true from e)
    | .noStand, e, _ => exact nomatch (show false = true from e)
    | .tooMany, e, _ => exact nomatch (show false = true from e)
    | .noType, e, _ => exact nomatch (show false = true from e)
    | .noRow, _, hf => exact absurd rfl hf
    | .valueError, _, hf => exact absurd rfl hf
  fns := fnsT (l := tbL) ((all_cons
    (by
      obtain ⟨fd, D⟩ := c.def_ 0 (d := dat "first_decider" (top 4)) rfl
      exact ⟨fn_first_decider, N_0, _, _, _, _, _, fd, rfl, rfl, D, He.glo_ok inK g (c.fact 20 (f := .glo "first_decider") rfl), rfl, D.bindsA (ps := pars0 2) fun _ _ _ _ _ _ us hl => match us, hl with | [_], _ => rfl, ck_0⟩) (all_cons
    (by
      obtain ⟨fd, D⟩ := c.def_ 1 (d := dat "behind_word" (top 5)) rfl
      exact ⟨fn_behind_word, N_1, _, _, _, _, _, fd, rfl, rfl, D, He.glo_ok inK g (c.fact 21 (f := .glo "behind_word") rfl), rfl, D.bindsA (ps := pars0 13) fun _ _ _ _ _ _ us hl => match us, hl with | [_, _, _, _], _ => rfl, ck_1⟩) (all_cons
    (by
      obtain ⟨fd, D⟩ := c.def_ 2 (d := dat "step_decider" (top 6)) rfl
      exact ⟨fn_step_decider, N_2, _, _, _, _, _, fd, rfl, rfl, D, He.glo_ok inK g (c.fact 22 (f := .glo "step_decider") rfl), rfl, D.bindsA (ps := pars0 14) fun _ _ _ _ _ _ us hl => match us, hl with | [_, _], _ => rfl, ck_2⟩) (all_cons
    (by
      obtain ⟨fd, D⟩ := c.def_ 3 (d := dat "_law_feed" (top 8)) rfl
      exact ⟨fn__law_feed, N_3, _, _, _, _, _, fd, rfl, rfl, D, He.glo_ok inK g (c.fact 23 (f := .glo "_law_feed") rfl), rfl, D.bindsA (ps := pars0 4) fun _ _ _ _ _ _ us hl => match us, hl with | [_], _ => rfl, ck_3⟩) (all_cons
    (by
      obtain ⟨fd, D⟩ := c.def_ 4 (d := dat "_law_draw" (top 9)) rfl
      exact ⟨fn__law_draw, N_4, _, _, _, _, _, fd, rfl, rfl, D, He.glo_ok inK g (c.fact 24 (f := .glo "_law_draw") rfl), rfl, D.bindsA (ps := pars0 5) fun _ _ _ _ _ _ us hl => match us, hl with | [_, _], _ => rfl, ck_4⟩) (all_cons
    (by
      obtain ⟨fd, D⟩ := c.def_ 5 (d := dat "_law_moves" (top 10)) rfl
      exact ⟨fn__law_moves, N_5, _, _, _, _, _, fd, rfl, rfl, D, He.glo_ok inK g (c.fact 25 (f := .glo "_law_moves") rfl), rfl, D.bindsA (ps := pars0 18) fun _ _ _ _ _ _ us hl => match us, hl with | [_, _], _ => rfl, ck_5⟩) (all_cons
    (by
      obtain ⟨fd, D⟩ := c.def_ 6 (d := dat "_law_fits" (top 11)) rfl
      exact ⟨fn__law_fits, N_6, _, _, _, _, _, fd, rfl, rfl, D, He.glo_ok inK g (c.fact 26 (f := .glo "_law_fits") rfl), rfl, D.bindsA (ps := pars0 19) fun _ _ _ _ _ _ us hl => match us, hl with | [_], _ => rfl, ck_6⟩) (all_cons
    (by
      obtain ⟨fd, D⟩ := c.def_ 7 (d := dat "_law_woven" (top 12)) rfl
      exact ⟨fn__law_woven, N_7, _, _, _, _, _, fd, rfl, rfl, D, He.glo_ok inK g (c.fact 27 (f := .glo "_law_woven") rfl), rfl, D.bindsA (ps := pars0 20) fun _ _ _ _ _ _ us hl => match us, hl with | [_, _, _], _ => rfl, ck_7⟩) (all_cons
    (by
      obtain ⟨fd, D⟩ := c.def_ 8 (d := dat "law" (top 13)) rfl
      exact ⟨fn_law_k03, N_8, _, _, _, _, _, fd, rfl, rfl, D, He.glo_ok inK g (c.fact 28 (f := .glo "law") rfl), rfl, D.bindsA (ps := pars0 21) fun _ _ _ _ _ _ us hl => match us, hl with | [_], _ => rfl, ck_8⟩) all_nil))))))))))
abbrev R0 : PySem.W.OpenRow := PySem.W.OpenLaw.row rw0
abbrev hk0 : PySem.W.Hook := hookX 5 fa0 dd0 cn0 xs0 rs0
def ob0 (s : PySem.W.SharedT) : (He.AlD × Bool) × Bool := obsX 5 fa0 dd0 cn0 xs0 rs0 (HandSHeadRun.getT s)
theorem ob0_eq (s : PySem.W.SharedT) : ob0 s = hk0.obs s.abs := obsX_eq (HandSHeadRun.getT_eq s)
theorem run0 (w : World) : HandSHeadRun.RunEq R0 (PySem.W.view R0.prog [13]) hk0 ob0 3000 ["HandError", "NoStep", "first_decider", "behind_word", "step_decider", "_law_feed", "_law_draw", "_law_moves", "_law_fits", "_law_woven"] w := by
  intro os
  kernel_rfl
end MI
open PySem PyProof.Rows PySem.Calls PySem.W
theorem PySem.Challenge.cw_handnames_k03_whole_weavings_of_deciders_holds : PySem.Challenge.rw_handnames_k03_whole_weavings_of_deciders.Holds := by
  w_on; o_law
  refine HandSHeadRun.head_any (r := OpenLaw.row PySem.Challenge.rw_handnames_k03_whole_weavings_of_deciders) (q := view (OpenLaw.row PySem.Challenge.rw_handnames_k03_whole_weavings_of_deciders).prog [13]) (H := MI.hk0) (ob := MI.ob0) (M := 3000) (loose := ["HandError", "NoStep", "first_decider", "behind_word", "step_decider", "_law_feed", "_law_draw", "_law_moves", "_law_fits", "_law_woven"]) (d := HandSHeadRun.topDef (OpenLaw.row PySem.Challenge.rw_handnames_k03_whole_weavings_of_deciders).prog 13) (kwd := []) MI.ob0_eq
    (by kernel_rfl) (fun s => by kernel_rfl) MI.run0 (by kernel_rfl) (by kernel_rfl) (by kernel_rfl) (by rfl) (by first | assumption | decide +kernel) (by decide +kernel) ⟨rfl, rfl, rfl, rfl, rfl, by decide +kernel⟩ ?hw ?hc
  case hw => w_witness2
  case hc => exact MI.walk_miniX (n := 63) (k := 100) (fu := 100000) (f := 21) (x := "_law_script") 5 rfl (by decide) (by kernel_rfl) ⟨rfl, by decide, by decide⟩ MI.known0 (by kernel_rfl) (by rfl) MI.mini_law

