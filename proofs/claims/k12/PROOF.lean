import PyProof.Rows.All
import Wide.All
import OpenK.AllK
import Wide.FinOn
import HandS.ForMost
import HandS.ForExc
import HandS.ExcCtx
import HandS.HotCalls
import HandS.Zip
import HandS.IsInst
import KE.DataMinMax
import KE.GoesNew
import KE.GoesMore
import HandS.Style
import HandS.Text
import KE.SortData
import HandS.Strs
import HandS.RaiseMore
import HandS.SetFor
import HandS.Codes
import HandS.OwnEq
import KE.KCallOwn
import OpenK.KOps
import HandS.ExcIs
import PyProof.Rows.CountFlat
import HandS.Defaults
import HandS.Words
import HandS.HeadHook4
import KE.KStateDown
import HandS.Ends
import HandS.HeadEnd
import HandS.HeadWalk
import HandS.Head0
import HandS.Head1
import HandS.Head2
import PyProof.TableCode
import PySem.Challenge.RW_signwaves_k12_whole_tuners_undone
set_option Elab.async false
set_option linter.all false
set_option maxRecDepth 100000
set_option maxHeartbeats 0
section
/-! SwCore: the mini language: values, store, syntax, interpreter. -/
namespace Sw
open PySem (Str)

/-- the defs: those of the package, the laws' shared helpers, a law's own ones -/
inductive Fn where
  | is_integer | is_function | check_function | check_mask | bit_count | bits_of | common | exclusive | straight | sum_for | check_two | apart | distance | alike | likeness
  | spread | wave_of | wave | from_wave | height | gap_of | gap | straight_functions | nearest | even | is_even | partner | functions_of | even_functions
  | moved | echo
  | folded | term_list | terms | from_terms | degree
  | quiet_for | keeps_quiet | quiet | fixed
  | leaned | opposite | shifted | tilted | turned | join
  | text_of | format_function | parse_function
  | t_init | t_flip | t_shift | t_tilt | t_turn | t_function | t_path | t_undo | t_duplicate | t_eq | t_len | t_str
  | l_cell_at | l_mixed | l_draw | l_pick | l_same_number | l_same_truth | l_bits_in | l_odd | l_cross | l_inside | l_some_values | l_like | l_likes | l_tuned
  | own (i : Nat)
  deriving DecidableEq

/-- a value: tuples and lists that nobody changes are values; box n: the cell n of the store; slst: the script -/
inductive Val where
  | non | bl (b : Bool) | int (i : Int) | str (s : Str)
  | tup (xs : List Val) | lst (xs : List Val) | slst (xs : List Val)
  | fn (f : Fn) | box (n : Nat)

inductive Cell where
  | list (xs : List Val)
  | tun (path : Option (List Val)) (kept : Option Int) (gen : Nat)
abbrev Store := List Cell
abbrev Env := List (Option Val)

inductive Res (α : Type) where
  | ok (a : α) (st : Store)
  | exc (c : Nat) (st : Store)
  | bad
def Res.bind {α β : Type} : Res α → (α → Store → Res β) → Res β
  | .ok a st, f => f a st
  | .exc c st, _ => .exc c st
  | .bad, _ => .bad
@[simp] theorem Res.bind_ok {α β : Type} (a : α) (st : Store) (f : α → Store → Res β) : (Res.ok a st).bind f = f a st := rfl
@[simp] theorem Res.bind_exc {α β : Type} (c : Nat) (st : Store) (f : α → Store → Res β) : (Res.exc c st : Res α).bind f = .exc c st := rfl
@[simp] theorem Res.bind_bad {α β : Type} (f : α → Store → Res β) : (Res.bad : Res α).bind f = .bad := rfl
/-- an answer that may be missing -/
def lift {α : Type} : Option α → Store → Res α
  | some a, st => .ok a st
  | none, _ => .bad
@[simp] theorem lift_some {α : Type} (a : α) (st : Store) : lift (some a) st = .ok a st := rfl
@[simp] theorem lift_none {α : Type} (st : Store) : lift (none : Option α) st = .bad := rfl

abbrev Orc := Fn → List Val → Store → Res Val

inductive Bop where | add | sub | mul | fdiv | mod | pow
  deriving DecidableEq
inductive Cop where | eq | ne | lt | le | gt | ge | isin | notin | is | isnot
  deriving DecidableEq
inductive Ty where | int | bool | tuple | list | str | tuner
  deriving DecidableEq
inductive B1 where | len | sum | max | min | all | sorted | tuple | list | str | int | lenset
  deriving DecidableEq
inductive B2 where | max | min
  deriving DecidableEq
inductive M1 where | index | tix | count | join
  deriving DecidableEq

mutual
inductive Ex where
  | var (i : Nat) | ci (i : Int) | cb (b : Bool) | cn | cs (s : Str) | sizes | fv (f : Fn)
  | bin (o : Bop) (a b : Ex) | neg (a : Ex)
  | cmp (o : Cop) (a b : Ex) | chain (o p : Cop) (a b c : Ex)
  | not (a : Ex) | and (a b : Ex) | or (a b : Ex) | ife (c a b : Ex)
  | call (f : Fn) (as : Exs) | callv (g : Ex) (as : Exs) | meth (o : Ex) (m : Fn) (as : Exs) | mk (a : Ex)
  | b1 (f : B1) (a : Ex) | b2 (f : B2) (a b : Ex) | m1 (f : M1) (o a : Ex)
  | isi (a : Ex) (t : Ty)
  | tup (es : Exs) | lst (es : Exs)
  | idx (a i : Ex) | sl (a : Ex) (lo hi : OEx) | rev (a : Ex)
  | lc (elt : Ex) (tg : List Nat) (it : It) (cond : OEx)
  | fidx (o : Ex) (i : Int) | fsl (o : Ex) (lo hi : Option Int) | flen (o : Ex) | flist (o : Ex) | feq (o p : Ex) | kept (o : Ex)
  | tlen (o : Ex) | tstr (o : Ex) | teq (o p : Ex) | tne (o p : Ex) | tis (o : Ex)
inductive Exs where
  | nil | cons (e : Ex) (es : Exs)
inductive OEx where
  | none | some (e : Ex)
inductive It where
  | over (a : Ex) | range (a : Ex) | zip (a b : Ex) | enum (a : Ex)
end

mutual
inductive St where
  | set (i : Nat) (e : Ex) | boxset (i : Nat) (e : Ex) | par (is : List Nat) (es : Exs) | aug (i : Nat) (o : Bop) (e : Ex)
  | setidx (o i e : Ex) | app (o e : Ex) | ext (o e : Ex)
  | expr (e : Ex) | ret (e : Ex) | ife (c : Ex) (a b : Sts) | for_ (tg : List Nat) (it : It) (body : Sts) | while_ (c : Ex) (body : Sts)
  | raise (c : Nat) | tryw (i : Nat) (body : Sts)
  | fset (o e : Ex) | kset (o e : Ex) | fapp (o e : Ex)
inductive Sts where
  | nil | cons (s : St) (ss : Sts)
end

/-! ### operations on values -/
/-- no list may be longer -/
def lim : Nat := 1000000
/-- what a builtin sees of a value: a cell's list -/
def deref (st : Store) : Val → Val
  | .box n => (match st[n]? with
    | some (.list xs) => .lst xs
    | _ => .box n)
  | v => v
/-- may stand inside a tuple or a list -/
def Val.pure : Val → Bool
  | .box _ => false
  | .slst _ => false
  | _ => true
def seqOf : Val → Option (List Val)
  | .tup xs => some xs
  | .lst xs => some xs
  | .slst xs => some xs
  | _ => none
def intsOf : List Val → Option (List Int)
  | [] => some []
  | .int i :: r => (intsOf r).map (i :: ·)
  | _ :: _ => none
def boolsOf : List Val → Option (List Bool)
  | [] => some []
  | .bl b :: r => (boolsOf r).map (b :: ·)
  | _ :: _ => none
def strsOf : List Val → Option (List Str)
  | [] => some []
  | .str s :: r => (strsOf r).map (s :: ·)
  | _ :: _ => none
/-- tuples of intsOf -/
def tupsOf : List Val → Option (List (List Int))
  | [] => some []
  | .tup xs :: r => (match intsOf xs, tupsOf r with
    | some a, some b => some (a :: b)
    | _, _ => none)
  | _ :: _ => none
mutual
def veq : Val → Val → Bool
  | .non, .non => true
  | .bl a, .bl b => a == b
  | .bl a, .int j => (if a then 1 else 0) == j
  | .int i, .bl b => i == (if b then 1 else 0)
  | .int i, .int j => i == j
  | .str x, .str y => x == y
  | .lst xs, .lst ys => veqs xs ys
  | .tup xs, .tup ys => veqs xs ys
  | _, _ => false
def veqs : List Val → List Val → Bool
  | [], [] => true
  | x :: xs, y :: ys => veq x y && veqs xs ys
  | [], _ :: _ => false
  | _ :: _, [] => false
end
/-- data, nested at most that deep -/
def dat : Nat → Val → Bool
  | _, .non => true
  | _, .bl _ => true
  | _, .int _ => true
  | _, .str x => x.cps.toList.all (· < 128)
  | n + 1, .tup xs => xs.all (dat n)
  | n + 1, .lst xs => xs.all (dat n)
  | _, _ => false
/-- the script beside other lists -/
def unS : Val → Val
  | .slst xs => .lst xs
  | v => v
def flat : Val → Bool
  | .non => true
  | .bl _ => true
  | .int _ => true
  | .str _ => true
  | _ => false
def rep {α : Type} (n : Nat) (xs : List α) : List α := (List.replicate n xs).flatten
def binop : Bop → Val → Val → Option Val
  | .add, .int i, .int j => some (.int (i + j))
  | .add, .str x, .str y => if x.length + y.length ≤ lim then some (.str (x ++ y)) else none
  | .add, .tup xs, .tup ys => if xs.length + ys.length ≤ lim then some (.tup (xs ++ ys)) else none
  | .add, .lst xs, .lst ys => if xs.length + ys.length ≤ lim then some (.lst (xs ++ ys)) else none
  | .sub, .int i, .int j => some (.int (i - j))
  | .mul, .int i, .int j => if (-18446744073709551616 < i && i < 18446744073709551616) || (-18446744073709551616 < j && j < 18446744073709551616) then some (.int (i * j)) else none
  | .mul, .tup xs, .int k => if 1 ≤ k && k ≤ 64 && xs.length ≤ 64 && !xs.isEmpty then some (.tup (rep k.toNat xs)) else none
  | .mul, .lst xs, .int k => if 0 ≤ k && k ≤ 64 && xs.length ≤ 64 then some (.lst (rep k.toNat xs)) else none
  | .mul, .str x, .int k => if 1 < k && k ≤ 64 && 0 < x.length && x.length ≤ 64 then some (.str ⟨(rep k.toNat x.cps.toList).toArray⟩) else none
  | .fdiv, .int i, .int j => if 0 < j && j < 1073741824 then some (.int (i / j)) else none
  | .mod, .int i, .int j => if 0 < j then some (.int (i % j)) else none
  | .pow, .int i, .int j => if 0 ≤ j && j ≤ 1000 && (-18446744073709551616 < i && i < 18446744073709551616) then some (.int (i ^ j.toNat)) else none
  | _, _, _ => none
def isIn (x : Val) : Val → Option Bool
  | .tup ys => if flat x && ys.all flat then some (ys.any fun y => veq y x) else none
  | .lst ys => if flat x && ys.all flat then some (ys.any fun y => veq y x) else none
  | .str z => (match x with
    | .str y => (match y.cps.toList with
      | [c] => some (decide (c ∈ z.cps.toList))
      | _ => none)
    | _ => none)
  | _ => none
def isSame : Val → Val → Option Bool
  | .bl a, .bl b => some (a == b)
  | .non, .non => some true
  | .bl _, .non => some false
  | .int _, .non => some false
  | .lst _, .non => some false
  | .tup _, .non => some false
  | _, _ => none
def cmpop : Cop → Val → Val → Option Bool
  | .eq, x, y => if dat 8 (unS x) && dat 8 y then some (veq (unS x) y) else none
  | .ne, x, y => if dat 8 (unS x) && dat 8 y then some (!veq (unS x) y) else none
  | .lt, .int i, .int j => some (decide (i < j))
  | .le, .int i, .int j => some (decide (i ≤ j))
  | .gt, .int i, .int j => some (decide (j < i))
  | .ge, .int i, .int j => some (decide (j ≤ i))
  | .isin, x, y => isIn x y
  | .notin, x, y => (isIn x y).map (!·)
  | .is, x, y => isSame x y
  | .isnot, x, y => (isSame x y).map (!·)
  | _, _, _ => none
/-- the greatest, the least -/
def maxI : Int → List Int → Int
  | m, [] => m
  | m, x :: r => maxI (if x > m then x else m) r
def minI : Int → List Int → Int
  | m, [] => m
  | m, x :: r => minI (if x < m then x else m) r
/-- t ≤ u of lists of intsOf, by the first difference -/
def lexLe : List Int → List Int → Bool
  | [], _ => true
  | _ :: _, [] => false
  | x :: xs, y :: ys => if x = y then lexLe xs ys else decide (x < y)
def insL (x : List Int) : List (List Int) → List (List Int)
  | [] => [x]
  | y :: r => if lexLe x y then x :: y :: r else y :: insL x r
/-- sorted -/
def sortL : List (List Int) → List (List Int)
  | [] => []
  | x :: r => insL x (sortL r)
/-- the different ones, as they are first met -/
def metL {α : Type} [DecidableEq α] (acc : List α) : List α → List α
  | [] => acc
  | x :: r => metL (if x ∈ acc then acc else acc ++ [x]) r
def digit? (s : Str) : Option Int := match s.cps.toList with
  | [c] => if 48 ≤ c && c ≤ 57 then some ((c : Int) - 48) else none
  | _ => none
def vstr (i : Int) : Str := (toString i : String)
def op1 : B1 → Val → Option Val
  | .len, .str x => if x.length ≤ lim then some (.int x.length) else none
  | .len, v => (seqOf v).map fun xs => .int (xs.length : Nat)
  | .sum, v => (seqOf v).bind fun xs => (intsOf xs).map fun ns => .int ns.sum
  | .max, v => (seqOf v).bind fun xs => (match intsOf xs with
    | some (x :: r) => some (.int (maxI x r))
    | _ => none)
  | .min, v => (seqOf v).bind fun xs => (match intsOf xs with
    | some (x :: r) => some (.int (minI x r))
    | _ => none)
  | .all, .lst xs => (boolsOf xs).map fun bs => .bl (bs.all id)
  | .sorted, .lst xs => (tupsOf xs).bind fun ts => if ts.length ≤ 1000 && ts.all (fun t => !t.isEmpty) then some (.lst ((sortL ts).map fun t => .tup (t.map .int))) else none
  | .tuple, .lst xs => some (.tup xs)
  | .tuple, .tup xs => some (.tup xs)
  | .list, .lst xs => some (.lst xs)
  | .list, .tup xs => some (.lst xs)
  | .str, .int i => if 0 ≤ i && i ≤ 9 then some (.str (vstr i)) else none
  | .str, .str x => some (.str x)
  | .int, .str x => (digit? x).map .int
  | .lenset, .lst xs => (match intsOf xs with
    | some ns => if ns.length ≤ 1000 then some (.int ((metL [] ns).length : Nat)) else none
    | none => none)
  | _, _ => none
def op2 : B2 → Val → Val → Option Val
  | .max, .int i, .int j => some (.int (if j > i then j else i))
  | .min, .int i, .int j => some (.int (if j < i then j else i))
  | _, _, _ => none
def firstIx (x : Val) : Nat → List Val → Option Nat
  | _, [] => none
  | n, y :: r => if veq y x then some n else firstIx x (n + 1) r
def opM : M1 → Val → Val → Option Val
  | .tix, .tup ys, .int i => (intsOf ys).bind fun _ => (firstIx (.int i) 0 ys).map fun n => .int (n : Nat)
  | .index, .lst ys, x => if flat x && ys.all flat then (firstIx x 0 ys).map fun n => .int (n : Nat) else none
  | .count, .lst ys, .int i => (intsOf ys).map fun ns => .int (ns.count i : Nat)
  | .join, .str x, .lst ys => if x.length = 0 then (strsOf ys).bind fun zs => if zs.length ≤ 64 && zs.all (fun z => decide (z.length ≤ 64)) then some (.str ⟨(zs.flatMap fun z => z.cps.toList).toArray⟩) else none else none
  | _, _, _ => none
def recvOk : M1 → Val → Bool
  | .index, .lst _ => true
  | .count, .lst _ => true
  | .tix, .tup _ => true
  | .join, .str _ => true
  | _, _ => false
def isTy (st : Store) : Val → Ty → Option Bool
  | .non, _ => some false
  | .bl _, .bool => some true
  | .bl _, .int => some true
  | .bl _, _ => some false
  | .int _, .int => some true
  | .int _, _ => some false
  | .str _, .str => some true
  | .str _, _ => some false
  | .tup _, .tuple => some true
  | .tup _, _ => some false
  | .lst _, .list => some true
  | .lst _, _ => some false
  | .box n, t => (match st[n]? with
    | some (.list _) => some (decide (t = .list))
    | some (.tun _ _ _) => if t = .tuner then some true else none
    | none => none)
  | _, _ => none
/-- the place that an index means -/
def ixOf (n : Nat) (i : Int) : Option Nat := if 0 ≤ i then (if i < n then some i.toNat else none) else if -(n : Int) ≤ i then some (i + n).toNat else none
def opIx : Val → Val → Option Val
  | v, .int i => (seqOf v).bind fun xs => (ixOf xs.length i).bind fun j => xs[j]?
  | _, _ => none
/-- a slice's bound -/
def sIx (n d : Nat) : Option Int → Nat
  | none => d
  | some v => if v < 0 then (v + (n : Int)).toNat else min v.toNat n
def cut {α : Type} (xs : List α) (lo hi : Option Int) : List α := (xs.drop (sIx xs.length 0 lo)).take (sIx xs.length xs.length hi - sIx xs.length 0 lo)
def whole (n : Nat) (lo hi : Option Int) : Bool := sIx n 0 lo == 0 && sIx n n hi == n
def opSl (lo hi : Option Int) : Val → Option Val
  | .lst xs => some (.lst (cut xs lo hi))
  | .tup xs => if whole xs.length lo hi then none else some (.tup (cut xs lo hi))
  | .str x => if x.length ≤ lim then some (.str ⟨(cut x.cps.toList lo hi).toArray⟩) else none
  | _ => none
def intV : Val → Option Int
  | .int i => some i
  | _ => none
def boolV : Val → Option Bool
  | .bl b => some b
  | _ => none
/-- a tuner that is made -/
def tunB (st : Store) : Val → Bool
  | .box n => (match st[n]? with
    | some (.tun (some _) _ _) => true
    | _ => false)
  | _ => false
def lenV : Val → Option Val
  | .int i => if 0 ≤ i && i < 1000000 then some (.int i) else none
  | _ => none
def strV : Val → Option Val
  | .str s => some (.str s)
  | _ => none
/-- the last cell, a list -/
def splitLast (st : Store) : Option (Store × List Val) := match st.getLast? with
  | some (.list xs) => some (st.dropLast, xs)
  | _ => none
@[simp] theorem splitLast_snoc (st : Store) (xs : List Val) : splitLast (st ++ [.list xs]) = some (st, xs) := by
  simp [splitLast]
mutual
def vbeq : Val → Val → Bool
  | .non, .non => true
  | .bl a, .bl b => a == b
  | .int a, .int b => a == b
  | .str a, .str b => a == b
  | .tup a, .tup b => vbeqs a b
  | .lst a, .lst b => vbeqs a b
  | .slst a, .slst b => vbeqs a b
  | .fn a, .fn b => decide (a = b)
  | .box a, .box b => a == b
  | _, _ => false
def vbeqs : List Val → List Val → Bool
  | [], [] => true
  | x :: xs, y :: ys => vbeq x y && vbeqs xs ys
  | _, _ => false
end
mutual
theorem vbeq_refl : ∀ v : Val, vbeq v v = true
  | .non => rfl
  | .bl _ => by simp [vbeq]
  | .int _ => by simp [vbeq]
  | .str _ => by simp [vbeq]
  | .tup a => by simp [vbeq, vbeqs_refl a]
  | .lst a => by simp [vbeq, vbeqs_refl a]
  | .slst a => by simp [vbeq, vbeqs_refl a]
  | .fn _ => by simp [vbeq]
  | .box _ => by simp [vbeq]
theorem vbeqs_refl : ∀ v : List Val, vbeqs v v = true
  | [] => rfl
  | x :: xs => by simp [vbeqs, vbeq_refl x, vbeqs_refl xs]
end
mutual
theorem vbeq_eq : ∀ (v w : Val), vbeq v w = true → v = w
  | .non, w, h => by cases w <;> simp [vbeq] at h ⊢
  | .bl _, w, h => by cases w <;> simp [vbeq] at h ⊢; exact h
  | .int _, w, h => by cases w <;> simp [vbeq] at h ⊢; exact h
  | .str _, w, h => by cases w <;> simp [vbeq] at h ⊢; exact h
  | .tup a, w, h => by cases w <;> simp [vbeq] at h ⊢; exact vbeqs_eq _ _ h
  | .lst a, w, h => by cases w <;> simp [vbeq] at h ⊢; exact vbeqs_eq _ _ h
  | .slst a, w, h => by cases w <;> simp [vbeq] at h ⊢; exact vbeqs_eq _ _ h
  | .fn _, w, h => by cases w <;> simp [vbeq] at h ⊢; exact h
  | .box _, w, h => by cases w <;> simp [vbeq] at h ⊢; exact h
theorem vbeqs_eq : ∀ (v w : List Val), vbeqs v w = true → v = w
  | [], w, h => by cases w <;> simp [vbeqs] at h ⊢
  | x :: xs, w, h => by
    cases w with
    | nil => simp [vbeqs] at h
    | cons y ys =>
      simp [vbeqs] at h
      rw [vbeq_eq x y h.1, vbeqs_eq xs ys h.2]
end
/-- a loop over the cell bx: its list is still what it was -/
def bxOk (st : Store) : Option (Nat × List Val) → Bool
  | none => true
  | some (n, xs) => (match st[n]? with
    | some (.list ys) => vbeqs xs ys
    | _ => false)
/-- the targets' slots -/
def setAll (ρ : Env) : List Nat → List Val → Env
  | i :: is, v :: vs => setAll (ρ.set i (some v)) is vs
  | _, _ => ρ
def wipeAll (ρ : Env) : List Nat → Env
  | [] => ρ
  | i :: is => (wipeAll ρ is).set i none
/-- a comprehension's loop; the list that grows is the last cell -/
def compLoop (bx : Option (Nat × List Val)) (f : List Val → Store → Res (Option Val)) : List (List Val) → Store → List Val → Res (List Val)
  | [], st, acc => if bxOk st bx then .ok acc st else .bad
  | it :: rest, st, acc => if bxOk st bx then (match f it (st ++ [.list acc]) with
    | .ok r stx => if stx.length = st.length + 1 then (match splitLast stx with
      | some (st', acc') => (match r with
        | some v => if v.pure && acc'.length < lim then compLoop bx f rest st' (acc' ++ [v]) else .bad
        | none => compLoop bx f rest st' acc')
      | none => .bad) else .bad
    | _ => .bad) else .bad
def zipV : List Val → List Val → List (List Val)
  | x :: xs, y :: ys => [x, y] :: zipV xs ys
  | _, _ => []
def enumV : Nat → List Val → List (List Val)
  | _, [] => []
  | n, x :: r => [.int (n : Nat), x] :: enumV (n + 1) r
def signs (x : Str) : List Val := x.cps.toList.map fun c => .str ⟨#[c]⟩
abbrev Items := List (List Val) × Option (Nat × List Val)
/-- what a loop over a value walks -/
def overV (st : Store) : Val → Option Items
  | .tup xs => some (xs.map ([·]), none)
  | .lst xs => some (xs.map ([·]), none)
  | .str x => some ((signs x).map ([·]), none)
  | .box n => (match st[n]? with
    | some (.list xs) => some (xs.map ([·]), some (n, xs))
    | _ => none)
  | _ => none
def rangeV : Val → Option Items
  | .int n => if n ≤ 1000000 && -1000000 ≤ n then some ((List.range n.toNat).map (fun i => [.int (i : Nat)]), none) else none
  | _ => none
def zipOf : Val → Val → Option Items
  | .tup xs, .tup ys => some (zipV xs ys, none)
  | .tup xs, .lst ys => some (zipV xs ys, none)
  | .lst xs, .lst ys => some (zipV xs ys, none)
  | _, _ => none
/-- the first may be a cell -/
def zipB (st : Store) (v w : Val) : Option Items := match v, w with
  | .box n, .lst ys => (match st[n]? with
    | some (.list xs) => some (zipV xs ys, some (n, xs))
    | _ => none)
  | v, w => zipOf v w
def enumOf (st : Store) : Val → Option Items
  | .tup xs => some (enumV 0 xs, none)
  | .lst xs => some (enumV 0 xs, none)
  | .box n => (match st[n]? with
    | some (.list xs) => some (enumV 0 xs, some (n, xs))
    | _ => none)
  | _ => none
/-- an argument of a call -/
def argOk : Val → Bool := fun _ => true

/-! ### expressions -/
mutual
def ev (C : Orc) : Ex → Env → Store → Res Val
  | .var i, ρ, st => (match ρ[i]? with
    | some (some v) => .ok v st
    | _ => .bad)
  | .ci i, _, st => .ok (.int i) st
  | .cb b, _, st => .ok (.bl b) st
  | .cn, _, st => .ok .non st
  | .cs s, _, st => .ok (.str s) st
  | .sizes, _, st => .ok (.tup [.int 2, .int 4, .int 8, .int 16]) st
  | .fv f, _, st => .ok (.fn f) st
  | .bin o a b, ρ, st => (ev C a ρ st).bind fun x st1 => (ev C b ρ st1).bind fun y st2 => lift (binop o (deref st2 x) (deref st2 y)) st2
  | .neg a, ρ, st => (ev C a ρ st).bind fun x st1 => lift ((intV x).map fun i => .int (-i)) st1
  | .cmp o a b, ρ, st => (ev C a ρ st).bind fun x st1 => (ev C b ρ st1).bind fun y st2 => lift ((cmpop o (deref st2 x) (deref st2 y)).map .bl) st2
  | .chain o p a b c, ρ, st => (ev C a ρ st).bind fun x st1 => (ev C b ρ st1).bind fun y st2 => (match cmpop o (deref st2 x) (deref st2 y) with
    | some true => (ev C c ρ st2).bind fun z st3 => lift ((cmpop p (deref st3 y) (deref st3 z)).map .bl) st3
    | some false => .ok (.bl false) st2
    | none => .bad)
  | .not a, ρ, st => (ev C a ρ st).bind fun x st1 => lift ((boolV x).map fun b => .bl (!b)) st1
  | .and a b, ρ, st => (ev C a ρ st).bind fun x st1 => (match x with
    | .bl true => ev C b ρ st1
    | .bl false => .ok (.bl false) st1
    | _ => .bad)
  | .or a b, ρ, st => (ev C a ρ st).bind fun x st1 => (match x with
    | .bl true => .ok (.bl true) st1
    | .bl false => ev C b ρ st1
    | _ => .bad)
  | .ife c a b, ρ, st => (ev C c ρ st).bind fun x st1 => (match x with
    | .bl true => ev C a ρ st1
    | .bl false => ev C b ρ st1
    | _ => .bad)
  | .call f as, ρ, st => (evs C as ρ st).bind fun vs st1 => C f vs st1
  | .callv g as, ρ, st => (ev C g ρ st).bind fun x st1 => (match x with
    | .fn f => (evs C as ρ st1).bind fun vs st2 => C f vs st2
    | _ => .bad)
  | .meth o m as, ρ, st => (ev C o ρ st).bind fun x st1 => if tunB st1 x then (evs C as ρ st1).bind fun vs st2 => C m (x :: vs) st2 else .bad
  | .mk a, ρ, st => (ev C a ρ st).bind fun v st1 => (match C .t_init [.box st1.length, v] (st1 ++ [.tun none none 0]) with
    | .ok .non st2 => .ok (.box st1.length) st2
    | .ok _ _ => .bad
    | .exc c st2 => .exc c (st2.take st1.length)
    | .bad => .bad)
  | .b1 f a, ρ, st => (ev C a ρ st).bind fun x st1 => lift (op1 f (deref st1 x)) st1
  | .b2 f a b, ρ, st => (ev C a ρ st).bind fun x st1 => (ev C b ρ st1).bind fun y st2 => lift (op2 f x y) st2
  | .m1 f o a, ρ, st => (ev C o ρ st).bind fun x st1 => if recvOk f (deref st1 x) then (ev C a ρ st1).bind fun y st2 => lift (opM f (deref st2 x) y) st2 else .bad
  | .isi a t, ρ, st => (ev C a ρ st).bind fun x st1 => lift ((isTy st1 x t).map .bl) st1
  | .tup es, ρ, st => (evs C es ρ st).bind fun vs st1 => if vs.all Val.pure && vs.length ≤ lim then .ok (.tup vs) st1 else .bad
  | .lst es, ρ, st => (evs C es ρ st).bind fun vs st1 => if vs.all Val.pure && vs.length ≤ lim then .ok (.lst vs) st1 else .bad
  | .idx a i, ρ, st => (ev C a ρ st).bind fun x st1 => (ev C i ρ st1).bind fun y st2 => lift (opIx (deref st2 x) y) st2
  | .sl a lo hi, ρ, st => (ev C a ρ st).bind fun x st1 => (evo C lo ρ st1).bind fun l st2 => (evo C hi ρ st2).bind fun u st3 => lift (opSl l u (deref st3 x)) st3
  | .rev a, ρ, st => (ev C a ρ st).bind fun x st1 => (match deref st1 x with
    | .lst xs => .ok (.lst xs.reverse) st1
    | _ => .bad)
  | .lc elt tg it cond, ρ, st => (evi C it ρ st).bind fun is st1 => if is.1.length ≤ lim then
      (compLoop is.2 (fun vs s => (evc C cond (setAll (wipeAll ρ tg) tg vs) s).bind fun b s1 =>
        if b then (ev C elt (setAll (wipeAll ρ tg) tg vs) s1).bind fun v s2 => .ok (some v) s2 else .ok none s1) is.1 st1 []).bind fun xs st2 => .ok (.lst xs) st2
    else .bad
  | .fidx o i, ρ, st => (ev C o ρ st).bind fun x st1 => (match x with
    | .box n => (match st1[n]? with
      | some (.tun (some p) _ _) => lift (opIx (.lst p) (.int i)) st1
      | _ => .bad)
    | _ => .bad)
  | .fsl o lo hi, ρ, st => (ev C o ρ st).bind fun x st1 => (match x with
    | .box n => (match st1[n]? with
      | some (.tun (some p) _ _) => .ok (.lst (cut p lo hi)) st1
      | _ => .bad)
    | _ => .bad)
  | .flen o, ρ, st => (ev C o ρ st).bind fun x st1 => (match x with
    | .box n => (match st1[n]? with
      | some (.tun (some p) _ _) => .ok (.int (p.length : Nat)) st1
      | _ => .bad)
    | _ => .bad)
  | .flist o, ρ, st => (ev C o ρ st).bind fun x st1 => (match x with
    | .box n => (match st1[n]? with
      | some (.tun (some p) _ _) => .ok (.lst p) st1
      | _ => .bad)
    | _ => .bad)
  | .feq o q, ρ, st => (ev C o ρ st).bind fun x st1 => (ev C q ρ st1).bind fun y st2 => (match x, y with
    | .box n, .box m => (match st2[n]?, st2[m]? with
      | some (.tun (some p) _ _), some (.tun (some r) _ _) => if dat 8 (.lst p) && dat 8 (.lst r) then .ok (.bl (veqs p r)) st2 else .bad
      | _, _ => .bad)
    | _, _ => .bad)
  | .kept o, ρ, st => (ev C o ρ st).bind fun x st1 => (match x with
    | .box n => (match st1[n]? with
      | some (.tun _ (some k) _) => .ok (.int k) st1
      | _ => .bad)
    | _ => .bad)
  | .tlen o, ρ, st => (ev C o ρ st).bind fun x st1 => if tunB st1 x then (C .t_len [x] st1).bind fun v st2 => lift (lenV v) st2 else .bad
  | .tstr o, ρ, st => (ev C o ρ st).bind fun x st1 => if tunB st1 x then (C .t_str [x] st1).bind fun v st2 => lift (strV v) st2 else .bad
  | .teq o q, ρ, st => (ev C o ρ st).bind fun x st1 => (ev C q ρ st1).bind fun y st2 => if tunB st2 x && tunB st2 y then (C .t_eq [x, y] st2).bind fun v st3 => lift ((boolV v).map .bl) st3 else .bad
  | .tne o q, ρ, st => .bad
  | .tis o, ρ, st => (ev C o ρ st).bind fun x st1 => if tunB st1 x then .ok (.bl true) st1 else .bad
def evs (C : Orc) : Exs → Env → Store → Res (List Val)
  | .nil, _, st => .ok [] st
  | .cons e es, ρ, st => (ev C e ρ st).bind fun v st1 => (evs C es ρ st1).bind fun vs st2 => .ok (v :: vs) st2
/-- a slice's part -/
def evo (C : Orc) : OEx → Env → Store → Res (Option Int)
  | .none, _, st => .ok none st
  | .some e, ρ, st => (ev C e ρ st).bind fun v st1 => lift ((intV v).map some) st1
/-- a comprehension's test -/
def evc (C : Orc) : OEx → Env → Store → Res Bool
  | .none, _, st => .ok true st
  | .some e, ρ, st => (ev C e ρ st).bind fun v st1 => lift (boolV v) st1
/-- what is walked -/
def evi (C : Orc) : It → Env → Store → Res Items
  | .over a, ρ, st => (ev C a ρ st).bind fun v st1 => lift (overV st1 v) st1
  | .range a, ρ, st => (ev C a ρ st).bind fun v st1 => lift (rangeV v) st1
  | .zip a b, ρ, st => (ev C a ρ st).bind fun v st1 => (ev C b ρ st1).bind fun w st2 => lift (zipB st2 v w) st2
  | .enum a, ρ, st => (ev C a ρ st).bind fun v st1 => lift (enumOf st1 v) st1
end

/-! ### statements -/
inductive SRes where
  | next (ρ : Env) (st : Store)
  | ret (v : Val) (st : Store)
  | exc (c : Nat) (st : Store)
  | bad
def SRes.bind : SRes → (Env → Store → SRes) → SRes
  | .next ρ st, f => f ρ st
  | .ret v st, _ => .ret v st
  | .exc c st, _ => .exc c st
  | .bad, _ => .bad
@[simp] theorem SRes.bind_next (ρ : Env) (st : Store) (f : Env → Store → SRes) : (SRes.next ρ st).bind f = f ρ st := rfl
@[simp] theorem SRes.bind_ret (v : Val) (st : Store) (f : Env → Store → SRes) : (SRes.ret v st).bind f = .ret v st := rfl
@[simp] theorem SRes.bind_exc (c : Nat) (st : Store) (f : Env → Store → SRes) : (SRes.exc c st).bind f = .exc c st := rfl
@[simp] theorem SRes.bind_bad (f : Env → Store → SRes) : SRes.bad.bind f = .bad := rfl
def Res.sbind {α : Type} : Res α → (α → Store → SRes) → SRes
  | .ok a st, f => f a st
  | .exc c st, _ => .exc c st
  | .bad, _ => .bad
@[simp] theorem Res.sbind_ok {α : Type} (a : α) (st : Store) (f : α → Store → SRes) : (Res.ok a st).sbind f = f a st := rfl
@[simp] theorem Res.sbind_exc {α : Type} (c : Nat) (st : Store) (f : α → Store → SRes) : (Res.exc c st : Res α).sbind f = .exc c st := rfl
@[simp] theorem Res.sbind_bad {α : Type} (f : α → Store → SRes) : (Res.bad : Res α).sbind f = .bad := rfl
def forLoop (bx : Option (Nat × List Val)) (f : List Val → Env → Store → SRes) : List (List Val) → Env → Store → SRes
  | [], ρ, st => if bxOk st bx then .next ρ st else .bad
  | it :: rest, ρ, st => if bxOk st bx then (f it ρ st).bind (forLoop bx f rest) else .bad
def whileLoop (c : Env → Store → Res Val) (f : Env → Store → SRes) : Nat → Env → Store → SRes
  | 0, _, _ => .bad
  | n + 1, ρ, st => (c ρ st).sbind fun v st1 => (match v with
    | .bl true => (f ρ st1).bind (whileLoop c f n)
    | .bl false => .next ρ st1
    | _ => .bad)
def augV : Bop → Int → Int → Option Int
  | .add, a, b => some (a + b)
  | .sub, a, b => some (a - b)
  | _, _, _ => none
/-- the exception as the law's handler tells it -/
def raised (c : Nat) : Val := .tup [.str "raised", .int (c : Nat)]
mutual
def exec (C : Orc) : St → Env → Store → SRes
  | .set i e, ρ, st => (ev C e ρ st).sbind fun v st1 => .next (ρ.set i (some v)) st1
  | .boxset i e, ρ, st => (ev C e ρ st).sbind fun v st1 => (match v with
    | .lst xs => .next (ρ.set i (some (.box st1.length))) (st1 ++ [.list xs])
    | _ => .bad)
  | .par is es, ρ, st => (evs C es ρ st).sbind fun vs st1 => if is.length = vs.length then .next (setAll ρ is vs) st1 else .bad
  | .aug i o e, ρ, st => (match ρ[i]? with
    | some (some x) => (ev C e ρ st).sbind fun y st1 => (match x, y with
      | .int a, .int b => (match augV o a b with
        | some z => .next (ρ.set i (some (.int z))) st1
        | none => .bad)
      | _, _ => .bad)
    | _ => .bad)
  | .setidx o i e, ρ, st => (ev C e ρ st).sbind fun v st1 => (ev C o ρ st1).sbind fun x st2 => (ev C i ρ st2).sbind fun y st3 => (match x, y with
    | .box n, .int k => (match st3[n]? with
      | some (.list xs) => (match ixOf xs.length k with
        | some j => if v.pure then .next ρ (st3.set n (.list (xs.set j v))) else .bad
        | none => .bad)
      | _ => .bad)
    | _, _ => .bad)
  | .app o e, ρ, st => (ev C o ρ st).sbind fun x st1 => (match deref st1 x with
    | .lst _ => (ev C e ρ st1).sbind fun v st2 => (match x with
      | .box n => (match st2[n]? with
        | some (.list xs) => if v.pure && xs.length < lim then .next ρ (st2.set n (.list (xs ++ [v]))) else .bad
        | _ => .bad)
      | _ => .bad)
    | _ => .bad)
  | .ext o e, ρ, st => (ev C o ρ st).sbind fun x st1 => (match deref st1 x with
    | .lst _ => (ev C e ρ st1).sbind fun v st2 => (match x, v with
      | .box n, .lst ys => (match st2[n]? with
        | some (.list xs) => if xs.length + ys.length ≤ lim then .next ρ (st2.set n (.list (xs ++ ys))) else .bad
        | _ => .bad)
      | _, _ => .bad)
    | _ => .bad)
  | .expr e, ρ, st => (ev C e ρ st).sbind fun _ st1 => .next ρ st1
  | .ret e, ρ, st => (ev C e ρ st).sbind fun v st1 => .ret v st1
  | .ife c a b, ρ, st => (ev C c ρ st).sbind fun v st1 => (match v with
    | .bl true => execs C a ρ st1
    | .bl false => execs C b ρ st1
    | _ => .bad)
  | .for_ tg it body, ρ, st => (evi C it ρ st).sbind fun is st1 => forLoop is.2 (fun vs ρ1 s => execs C body (setAll ρ1 tg vs) s) is.1 ρ st1
  | .while_ c body, ρ, st => whileLoop (ev C c) (execs C body) 100 ρ st
  | .raise c, _, st => .exc c st
  | .tryw _ body, ρ, st => (match execs C body ρ st with
    | .ret v st1 => .ret v st1
    | .exc c st1 => if c < 9 then .ret (raised c) st1 else .bad
    | _ => .bad)
  | .fset o e, ρ, st => (ev C e ρ st).sbind fun v st1 => (ev C o ρ st1).sbind fun x st2 => (match x, v with
    | .box n, .lst xs => (match st2[n]? with
      | some (.tun _ k g) => .next ρ (st2.set n (.tun (some xs) k (g + 1)))
      | _ => .bad)
    | _, _ => .bad)
  | .kset o e, ρ, st => (ev C e ρ st).sbind fun v st1 => (ev C o ρ st1).sbind fun x st2 => (match x, v with
    | .box n, .int k => (match st2[n]? with
      | some (.tun (some p) _ g) => .next ρ (st2.set n (.tun (some p) (some k) g))
      | _ => .bad)
    | _, _ => .bad)
  | .fapp o e, ρ, st => (ev C o ρ st).sbind fun x st1 => (match x with
    | .box n => (match st1[n]? with
      | some (.tun (some _) _ g) => (ev C e ρ st1).sbind fun v st2 => (match st2[n]? with
        | some (.tun (some p) k g') => if v.pure && p.length < lim && g' == g then .next ρ (st2.set n (.tun (some (p ++ [v])) k g)) else .bad
        | _ => .bad)
      | _ => .bad)
    | _ => .bad)
def execs (C : Orc) : Sts → Env → Store → SRes
  | .nil, ρ, st => .next ρ st
  | .cons s ss, ρ, st => (exec C s ρ st).bind (execs C ss)
end

/-! ### defs -/
/-- np parameters, ns slots in all (parameters first); keep: the cells that it has made stay -/
structure FDef where
  np : Nat
  ns : Nat
  keep : Bool
  body : Sts
/-- what a call leaves: the def's own cells go, a list of its own is told as a value -/
def fin (keep : Bool) (n0 : Nat) (v : Val) (st : Store) : Res Val :=
  if keep then .ok v st else (match v with
    | .box n => if n < n0 then .ok (.box n) (st.take n0) else (match st[n]? with
      | some (.list xs) => .ok (.lst xs) (st.take n0)
      | _ => .bad)
    | v => .ok v (st.take n0))
def callD (C : Orc) (d : FDef) (vs : List Val) (st : Store) : Res Val :=
  if vs.length = d.np then (match execs C d.body (vs.map some ++ List.replicate (d.ns - d.np) none) st with
    | .ret v st1 => fin d.keep st.length v st1
    | .next _ st1 => fin d.keep st.length .non st1
    | .exc c st1 => .exc c (st1.take st.length)
    | .bad => .bad) else .bad
def callN (T : Fn → Option FDef) : Nat → Orc
  | 0, _, _, _ => .bad
  | k + 1, f, vs, st => (match T f with
    | some d => callD (callN T k) d vs st
    | none => .bad)
end Sw
end

section
/-! SwRel: how the mini language's states stand in the abstract heap. -/
namespace Sw
open PySem L2
abbrev Mu := List (Addr × Addr)
/-- where the text's things stand -/
structure Gx where
  K : PySem.W.Frag
  fa : Fn → Addr
  sz : Addr
  ex : Nat → Addr
  tc : Addr
  av : Fn → Bool
def Own (μ : Mu) (a : Addr) : Prop := ∃ p ∈ μ, a = p.1 ∨ a = p.2
mutual
def RvP (G : Gx) (μ : Mu) (H : Hp) : Val → V → Prop
  | .non, x => x = .non
  | .bl b, x => x = .bl b
  | .int i, x => x = .int i
  | .str s, x => x = .str s
  | .tup xs, x => ∃ a ys, x = .ref a ∧ SqT G.K H a ys ∧ RvPs G μ H xs ys
  | .lst xs, x => ∃ a ys, x = .ref a ∧ H a = some (.lst ys) ∧ ¬ Own μ a ∧ RvPs G μ H xs ys
  | .slst _, _ => False
  | .fn f, x => x = .ref (G.fa f) ∧ G.av f = true
  | .box _, _ => False
def RvPs (G : Gx) (μ : Mu) (H : Hp) : List Val → List V → Prop
  | [], ys => ys = []
  | x :: xs, ys => ∃ y r, ys = y :: r ∧ RvP G μ H x y ∧ RvPs G μ H xs r
end
/-- a list that never changes: the script -/
def SqF (K : PySem.W.Frag) (H : Hp) (a : Addr) (xs : List V) : Prop :=
  (∃ o, H a = some (.frz o (.lst xs))) ∨ ∃ (o : Obj) (its : Array Value) (n : Nat), K.lookup a = some o ∧ o.cls = .type "list" ∧ o.dict = none ∧ o.data = .seq its n ∧ its.size ≤ sizeLine ∧ Vals xs its.toList
theorem SqF.sq {K : PySem.W.Frag} {H : Hp} {a : Addr} {xs : List V} (h : SqF K H a xs) : SqL K H a xs := by
  rcases h with ⟨o, h⟩ | h
  · exact .inl (.inr ⟨o, h⟩)
  · exact .inr h
def Rv (G : Gx) (μ : Mu) (H : Hp) : Val → V → Prop
  | .box n, x => ∃ p, μ[n]? = some p ∧ x = .ref p.1
  | .slst xs, x => ∃ a ys, x = .ref a ∧ SqF G.K H a ys ∧ RvPs G μ H xs ys
  | v, x => RvP G μ H v x
inductive Rvs (G : Gx) (μ : Mu) (H : Hp) : List Val → List V → Prop
  | nil : Rvs G μ H [] []
  | cons {v : Val} {x : V} {vs : List Val} {xs : List V} : Rv G μ H v x → Rvs G μ H vs xs → Rvs G μ H (v :: vs) (x :: xs)
def Cell.gen : Cell → Nat
  | .list _ => 0
  | .tun _ _ g => g
def fldsOf (l : Addr) : Option (List Val) → Option Int → List (Str × V)
  | none, _ => []
  | some _, none => [("functions", .ref l)]
  | some _, some k => [("functions", .ref l), ("kept", .int k)]
def CellOk (G : Gx) (μ : Mu) (H : Hp) (p : Addr × Addr) : Cell → Prop
  | .list xs => p.2 = p.1 ∧ ∃ ys, H p.1 = some (.lst ys) ∧ RvPs G μ H xs ys
  | .tun path kept _ => ∃ dx, H p.1 = some (.ins G.tc dx (fldsOf p.2 path kept)) ∧ (match path with
    | none => p.2 = p.1 ∧ kept = none
    | some xs => ∃ ys, H p.2 = some (.lst ys) ∧ RvPs G μ H xs ys)
structure StOk (G : Gx) (μ : Mu) (st : Store) (H : Hp) : Prop where
  len : μ.length = st.length
  cell : ∀ (n : Nat) p c, μ[n]? = some p → st[n]? = some c → CellOk G μ H p c
  sep : ∀ (n m : Nat) p q, μ[n]? = some p → μ[m]? = some q → n ≠ m → p.1 ≠ q.1 ∧ p.1 ≠ q.2 ∧ p.2 ≠ q.1 ∧ p.2 ≠ q.2
structure Step (μ : Mu) (st : Store) (H : Hp) (μ' : Mu) (st' : Store) (H' : Hp) : Prop where
  len : μ.length ≤ μ'.length
  fst : ∀ (n : Nat) p, μ[n]? = some p → ∃ p', μ'[n]? = some p' ∧ p'.1 = p.1
  frame : ∀ a o, H a = some o → ¬ Own μ a → H' a = some o ∧ ¬ Own μ' a
  gen : ∀ (n : Nat) c p, st[n]? = some c → μ[n]? = some p → ∃ c' p', st'[n]? = some c' ∧ μ'[n]? = some p' ∧ c.gen ≤ c'.gen ∧ (c'.gen = c.gen → p' = p)
section
variable {G : Gx} {μ μ' μ1 μ2 : Mu} {st st' st1 st2 : Store} {H H' H1 H2 : Hp}
theorem Step.refl : Step μ st H μ st H := ⟨Nat.le_refl _, fun _ p h => ⟨p, h, rfl⟩, fun _ _ h n => ⟨h, n⟩, fun _ c p h q => ⟨c, p, h, q, Nat.le_refl _, fun _ => rfl⟩⟩
theorem Step.trans (a : Step μ st H μ1 st1 H1) (b : Step μ1 st1 H1 μ2 st2 H2) : Step μ st H μ2 st2 H2 where
  len := Nat.le_trans a.len b.len
  fst := fun n p h => by
    obtain ⟨p1, h1, e1⟩ := a.fst n p h
    obtain ⟨p2, h2, e2⟩ := b.fst n p1 h1
    exact ⟨p2, h2, e2.trans e1⟩
  frame := fun x o h n => by
    obtain ⟨h1, n1⟩ := a.frame x o h n
    exact b.frame x o h1 n1
  gen := fun n c p h q => by
    obtain ⟨c1, p1, h1, q1, l1, e1⟩ := a.gen n c p h q
    obtain ⟨c2, p2, h2, q2, l2, e2⟩ := b.gen n c1 p1 h1 q1
    refine ⟨c2, p2, h2, q2, Nat.le_trans l1 l2, fun e => ?_⟩
    have e3 : c1.gen = c.gen := by omega
    rw [e2 (by omega), e1 e3]
theorem StOk.owned (S : StOk G μ st H) {a : Addr} (o : Own μ a) : (∃ ys, H a = some (.lst ys)) ∨ ∃ dx fs, H a = some (.ins G.tc dx fs) := by
  obtain ⟨p, hp, e⟩ := o
  obtain ⟨n, hn⟩ := List.getElem?_of_mem hp
  have hl : n < st.length := by
    rw [← S.len]
    exact (List.getElem?_eq_some_iff.mp hn).1
  have hc := S.cell n p _ hn (List.getElem?_eq_getElem hl)
  cases hs : st[n] with
  | list xs =>
    rw [hs] at hc
    obtain ⟨e2, ys, h, _⟩ := hc
    rcases e with rfl | rfl
    · exact .inl ⟨ys, h⟩
    · exact .inl ⟨ys, e2 ▸ h⟩
  | tun path kept g =>
    rw [hs] at hc
    obtain ⟨dx, h, r⟩ := hc
    rcases e with rfl | rfl
    · exact .inr ⟨_, _, h⟩
    · cases path with
      | none => rw [← r.1] at h; exact .inr ⟨dx, _, h⟩
      | some xs => obtain ⟨ys, h2, _⟩ := r; exact .inl ⟨ys, h2⟩
theorem StOk.notOwn (S : StOk G μ st H) {a : Addr} {o : HO} (h : H a = some o) (h1 : ∀ ys, o ≠ .lst ys) (h2 : ∀ C dx fs, o ≠ .ins C dx fs) : ¬ Own μ a := fun w => by
  rcases S.owned w with ⟨ys, e⟩ | ⟨dx, fs, e⟩
  · rw [h] at e; exact h1 ys (Option.some.inj e)
  · rw [h] at e; exact h2 _ dx fs (Option.some.inj e)
theorem StOk.notOwn0 (S : StOk G μ st H) {a : Addr} (h : H a = none) : ¬ Own μ a := fun w => by
  rcases S.owned w with ⟨ys, e⟩ | ⟨dx, fs, e⟩ <;> (rw [h] at e; cases e)
theorem StOk.rd (S : StOk G μ st H) (t : Step μ st H μ' st' H') {a : Addr} {u : HO} (h : Rd H a u) (h1 : ∀ ys, u ≠ .lst ys) (h2 : ∀ C dx fs, u ≠ .ins C dx fs) : Rd H' a u := by
  rcases h with h | ⟨o, h⟩
  · exact .inl (t.frame a _ h (S.notOwn h h1 h2)).1
  · exact .inr ⟨o, (t.frame a _ h (S.notOwn h (fun _ z => by cases z) fun _ _ _ z => by cases z)).1⟩
theorem StOk.sqT (S : StOk G μ st H) (t : Step μ st H μ' st' H') {a : Addr} {xs : List V} (h : SqT G.K H a xs) : SqT G.K H' a xs := by
  rcases h with h | h
  · exact .inl (S.rd t h (fun _ z => by cases z) fun _ _ _ z => by cases z)
  · exact .inr h
theorem StOk.sqF (S : StOk G μ st H) (t : Step μ st H μ' st' H') {a : Addr} {xs : List V} (h : SqF G.K H a xs) : SqF G.K H' a xs := by
  rcases h with ⟨o, h⟩ | h
  · exact .inl ⟨o, (t.frame a _ h (S.notOwn h (fun _ z => by cases z) fun _ _ _ z => by cases z)).1⟩
  · exact .inr h
mutual
theorem RvP.step (S : StOk G μ st H) (t : Step μ st H μ' st' H') : ∀ (v : Val) (x : V), RvP G μ H v x → RvP G μ' H' v x
  | .non, x, h => by simpa only [RvP] using h
  | .bl _, x, h => by simpa only [RvP] using h
  | .int _, x, h => by simpa only [RvP] using h
  | .str _, x, h => by simpa only [RvP] using h
  | .tup xs, x, h => by
    simp only [RvP] at h ⊢
    obtain ⟨a, ys, e, h1, h2⟩ := h
    exact ⟨a, ys, e, S.sqT t h1, RvPs.step S t xs ys h2⟩
  | .lst xs, x, h => by
    simp only [RvP] at h ⊢
    obtain ⟨a, ys, e, h1, n, h2⟩ := h
    obtain ⟨h3, n3⟩ := t.frame a _ h1 n
    exact ⟨a, ys, e, h3, n3, RvPs.step S t xs ys h2⟩
  | .slst _, x, h => by simp only [RvP] at h
  | .fn _, x, h => by simpa only [RvP] using h
  | .box _, x, h => by simp only [RvP] at h
theorem RvPs.step (S : StOk G μ st H) (t : Step μ st H μ' st' H') : ∀ (vs : List Val) (xs : List V), RvPs G μ H vs xs → RvPs G μ' H' vs xs
  | [], xs, h => by simpa only [RvPs] using h
  | v :: vs, xs, h => by
    simp only [RvPs] at h ⊢
    obtain ⟨y, r, e, h1, h2⟩ := h
    exact ⟨y, r, e, RvP.step S t v y h1, RvPs.step S t vs r h2⟩
end
theorem Rv.step (S : StOk G μ st H) (t : Step μ st H μ' st' H') {v : Val} {x : V} (h : Rv G μ H v x) : Rv G μ' H' v x := by
  cases v with
  | box n =>
    obtain ⟨p, h1, e⟩ := h
    obtain ⟨p', h2, e2⟩ := t.fst n p h1
    exact ⟨p', h2, by rw [e, e2]⟩
  | slst xs =>
    obtain ⟨a, ys, e, h1, h2⟩ := h
    exact ⟨a, ys, e, S.sqF t h1, RvPs.step S t xs ys h2⟩
  | non => exact RvP.step S t _ x h
  | bl _ => exact RvP.step S t _ x h
  | int _ => exact RvP.step S t _ x h
  | str _ => exact RvP.step S t _ x h
  | tup _ => exact RvP.step S t _ x h
  | lst _ => exact RvP.step S t _ x h
  | fn _ => exact RvP.step S t _ x h
theorem Rvs.step (S : StOk G μ st H) (t : Step μ st H μ' st' H') : ∀ {vs : List Val} {xs : List V}, Rvs G μ H vs xs → Rvs G μ' H' vs xs
  | _, _, .nil => .nil
  | _, _, .cons h r => .cons (h.step S t) (Rvs.step S t r)
theorem Rvs.length : ∀ {vs : List Val} {xs : List V}, Rvs G μ H vs xs → vs.length = xs.length
  | _, _, .nil => rfl
  | _, _, .cons _ r => by simp [Rvs.length r]
theorem RvPs.length : ∀ {vs : List Val} {xs : List V}, RvPs G μ H vs xs → vs.length = xs.length
  | [], xs, h => by simp only [RvPs] at h; simp [h]
  | v :: vs, xs, h => by
    simp only [RvPs] at h
    obtain ⟨y, r, e, _, h2⟩ := h
    simp [e, RvPs.length h2]
theorem RvPs.get : ∀ {vs : List Val} {xs : List V} {i : Nat} {v : Val}, RvPs G μ H vs xs → vs[i]? = some v → ∃ x, xs[i]? = some x ∧ RvP G μ H v x
  | [], xs, i, v, h, e => by simp at e
  | w :: vs, xs, 0, v, h, e => by
    simp only [RvPs] at h
    obtain ⟨y, r, rfl, h1, _⟩ := h
    simp at e; subst e
    exact ⟨y, rfl, h1⟩
  | w :: vs, xs, i + 1, v, h, e => by
    simp only [RvPs] at h
    obtain ⟨y, r, rfl, _, h2⟩ := h
    obtain ⟨x, h3, h4⟩ := RvPs.get (i := i) h2 (by simpa using e)
    exact ⟨x, by simpa using h3, h4⟩
theorem RvP.rv {v : Val} {x : V} (h : RvP G μ H v x) : Rv G μ H v x := by
  cases v <;> first | exact h | (simp only [RvP] at h)
theorem Rv.p {v : Val} {x : V} (hp : v.pure = true) (h : Rv G μ H v x) : RvP G μ H v x := by
  cases v <;> first | exact h | (simp [Val.pure] at hp)
theorem Rvs.p : ∀ {vs : List Val} {xs : List V}, vs.all Val.pure = true → Rvs G μ H vs xs → RvPs G μ H vs xs
  | _, _, _, .nil => by simp only [RvPs]
  | _, _, hp, .cons h r => by
    simp only [List.all_cons, Bool.and_eq_true] at hp
    simp only [RvPs]
    exact ⟨_, _, rfl, h.p hp.1, Rvs.p hp.2 r⟩
theorem RvPs.append : ∀ {vs ws : List Val} {xs ys : List V}, RvPs G μ H vs xs → RvPs G μ H ws ys → RvPs G μ H (vs ++ ws) (xs ++ ys)
  | [], ws, xs, ys, h, q => by
    simp only [RvPs] at h
    subst h; simpa using q
  | v :: vs, ws, xs, ys, h, q => by
    simp only [RvPs] at h
    obtain ⟨y, r, rfl, h1, h2⟩ := h
    show RvPs G μ H (v :: (vs ++ ws)) _
    simp only [RvPs]
    exact ⟨y, r ++ ys, rfl, h1, RvPs.append h2 q⟩
theorem RvPs.one {v : Val} {x : V} (h : RvP G μ H v x) : RvPs G μ H [v] [x] := by
  simp only [RvPs]
  exact ⟨x, [], rfl, h, rfl⟩
theorem RvPs.drop : ∀ {vs : List Val} {xs : List V} (n : Nat), RvPs G μ H vs xs → RvPs G μ H (vs.drop n) (xs.drop n)
  | vs, xs, 0, h => by simpa using h
  | [], xs, n + 1, h => by
    simp only [RvPs] at h
    subst h; simp [RvPs]
  | v :: vs, xs, n + 1, h => by
    simp only [RvPs] at h
    obtain ⟨y, r, rfl, _, h2⟩ := h
    simpa using RvPs.drop n h2
theorem RvPs.take : ∀ {vs : List Val} {xs : List V} (n : Nat), RvPs G μ H vs xs → RvPs G μ H (vs.take n) (xs.take n)
  | vs, xs, 0, h => by simp [RvPs]
  | [], xs, n + 1, h => by
    simp only [RvPs] at h
    subst h; simp [RvPs]
  | v :: vs, xs, n + 1, h => by
    simp only [RvPs] at h
    obtain ⟨y, r, rfl, h1, h2⟩ := h
    simp only [List.take_succ_cons, RvPs]
    exact ⟨y, _, rfl, h1, RvPs.take n h2⟩
theorem RvPs.set : ∀ {vs : List Val} {xs : List V} (j : Nat) {v : Val} {x : V}, RvPs G μ H vs xs → RvP G μ H v x → RvPs G μ H (vs.set j v) (xs.set j x)
  | [], xs, j, v, x, h, q => by
    simp only [RvPs] at h
    subst h; simp [RvPs]
  | w :: vs, xs, 0, v, x, h, q => by
    simp only [RvPs] at h
    obtain ⟨y, r, rfl, h1, h2⟩ := h
    simp only [List.set_cons_zero, RvPs]
    exact ⟨x, r, rfl, q, h2⟩
  | w :: vs, xs, j + 1, v, x, h, q => by
    simp only [RvPs] at h
    obtain ⟨y, r, rfl, h1, h2⟩ := h
    simp only [List.set_cons_succ, RvPs]
    exact ⟨y, _, rfl, h1, RvPs.set j h2 q⟩
theorem RvPs.reverse {vs : List Val} : ∀ {xs : List V}, RvPs G μ H vs xs → RvPs G μ H vs.reverse xs.reverse := by
  induction vs with
  | nil => intro xs h; simp only [RvPs] at h; subst h; simp [RvPs]
  | cons v vs ih =>
    intro xs h
    simp only [RvPs] at h
    obtain ⟨y, r, rfl, h1, h2⟩ := h
    simp only [List.reverse_cons]
    exact (ih h2).append (RvPs.one h1)
theorem RvPs.rep (n : Nat) {vs : List Val} {xs : List V} (h : RvPs G μ H vs xs) : RvPs G μ H (rep n vs) (List.replicate n xs).flatten := by
  induction n with
  | zero => simp [Sw.rep, RvPs]
  | succ n ih =>
    simp only [Sw.rep, List.replicate_succ, List.flatten_cons] at ih ⊢
    exact h.append ih
theorem RvPs.intsOf : ∀ {vs : List Val} {xs : List V} {ns : List Int}, RvPs G μ H vs xs → intsOf vs = some ns → xs = ns.map V.int ∧ vs = ns.map Val.int
  | [], xs, ns, h, e => by
    simp only [RvPs] at h
    simp only [Sw.intsOf, Option.some.injEq] at e
    subst h; subst e; exact ⟨rfl, rfl⟩
  | v :: vs, xs, ns, h, e => by
    simp only [RvPs] at h
    obtain ⟨y, r, rfl, h1, h2⟩ := h
    cases v <;> simp only [Sw.intsOf, reduceCtorEq] at e
    rename_i i
    obtain ⟨ms, e1, rfl⟩ := Option.map_eq_some_iff.mp e
    simp only [RvP] at h1
    obtain ⟨q1, q2⟩ := RvPs.intsOf h2 e1
    subst h1; subst q1; subst q2
    exact ⟨rfl, rfl⟩
theorem RvPs.boolsOf : ∀ {vs : List Val} {xs : List V} {ns : List Bool}, RvPs G μ H vs xs → boolsOf vs = some ns → xs = ns.map V.bl
  | [], xs, ns, h, e => by
    simp only [RvPs] at h
    simp only [Sw.boolsOf, Option.some.injEq] at e
    subst h; subst e; rfl
  | v :: vs, xs, ns, h, e => by
    simp only [RvPs] at h
    obtain ⟨y, r, rfl, h1, h2⟩ := h
    cases v <;> simp only [Sw.boolsOf, reduceCtorEq] at e
    obtain ⟨ms, e1, rfl⟩ := Option.map_eq_some_iff.mp e
    simp only [RvP] at h1
    have q1 := RvPs.boolsOf h2 e1
    subst h1; subst q1; rfl
theorem RvPs.strsOf : ∀ {vs : List Val} {xs : List V} {ns : List Str}, RvPs G μ H vs xs → strsOf vs = some ns → xs = ns.map V.str
  | [], xs, ns, h, e => by
    simp only [RvPs] at h
    simp only [Sw.strsOf, Option.some.injEq] at e
    subst h; subst e; rfl
  | v :: vs, xs, ns, h, e => by
    simp only [RvPs] at h
    obtain ⟨y, r, rfl, h1, h2⟩ := h
    cases v <;> simp only [Sw.strsOf, reduceCtorEq] at e
    obtain ⟨ms, e1, rfl⟩ := Option.map_eq_some_iff.mp e
    simp only [RvP] at h1
    have q1 := RvPs.strsOf h2 e1
    subst h1; subst q1; rfl
/-! ### new objects, written cells -/
theorem own_append {p : Addr × Addr} {a : Addr} : Own (μ ++ [p]) a ↔ Own μ a ∨ a = p.1 ∨ a = p.2 := by
  unfold Own
  constructor
  · rintro ⟨q, hq, e⟩
    rcases List.mem_append.mp hq with hq | hq
    · exact .inl ⟨q, hq, e⟩
    · rw [List.mem_singleton] at hq; subst hq; exact .inr e
  · rintro (⟨q, hq, e⟩ | e)
    · exact ⟨q, List.mem_append_left _ hq, e⟩
    · exact ⟨p, List.mem_append_right _ (List.mem_singleton.mpr rfl), e⟩
theorem Step.alloc {p : Addr} {o : HO} (n : H p = none) : Step μ st H μ st (upd H p o) :=
  ⟨Nat.le_refl _, fun _ q h => ⟨q, h, rfl⟩, fun a u h w => ⟨by rw [upd_ne (ne_of_none h n)]; exact h, w⟩, fun _ c q h r => ⟨c, q, h, r, Nat.le_refl _, fun _ => rfl⟩⟩
theorem CellOk.step (S : StOk G μ st H) (t : Step μ st H μ' st' H') {p : Addr × Addr} {c : Cell} (h : CellOk G μ H p c) (k : ∀ a o, (a = p.1 ∨ a = p.2) → H a = some o → H' a = some o) : CellOk G μ' H' p c := by
  cases c with
  | list xs =>
    obtain ⟨e, ys, h1, h2⟩ := h
    exact ⟨e, ys, k _ _ (.inl rfl) h1, RvPs.step S t xs ys h2⟩
  | tun path kept g =>
    obtain ⟨dx, h1, r⟩ := h
    refine ⟨dx, k _ _ (.inl rfl) h1, ?_⟩
    cases path with
    | none => exact r
    | some xs =>
      obtain ⟨ys, h2, h3⟩ := r
      exact ⟨ys, k _ _ (.inr rfl) h2, RvPs.step S t xs ys h3⟩
theorem StOk.alloc (S : StOk G μ st H) {p : Addr} {o : HO} (n : H p = none) : StOk G μ st (upd H p o) :=
  ⟨S.len, fun i q c h1 h2 => (S.cell i q c h1 h2).step S (Step.alloc n) fun a u _ h => by rw [upd_ne (ne_of_none h n)]; exact h, S.sep⟩
/-- a new list becomes a cell -/
theorem get_snoc {α : Type} {l : List α} {x y : α} {n : Nat} (h : (l ++ [x])[n]? = some y) : l[n]? = some y ∧ n < l.length ∨ n = l.length ∧ y = x := by
  by_cases hn : n < l.length
  · rw [List.getElem?_append_left hn] at h
    exact .inl ⟨h, hn⟩
  · have hn' : l.length ≤ n := Nat.le_of_not_lt hn
    rw [List.getElem?_append_right hn'] at h
    have : n - l.length = 0 := by
      cases q : n - l.length with
      | zero => rfl
      | succ k => rw [q] at h; simp at h
    rw [this] at h
    simp at h
    exact .inr ⟨by omega, h.symm⟩
theorem get_snoc_self {α : Type} (l : List α) (x : α) : (l ++ [x])[l.length]? = some x := by simp
theorem get_snoc_of {α : Type} {l : List α} {x y : α} {n : Nat} (h : l[n]? = some y) : (l ++ [x])[n]? = some y := by
  rw [List.getElem?_append_left (List.getElem?_eq_some_iff.mp h).1]
  exact h
theorem Step.box {p : Addr} {ys : List V} {c : Cell} (S : StOk G μ st H) (n : H p = none) : Step μ st H (μ ++ [(p, p)]) (st ++ [c]) (upd H p (.lst ys)) where
  len := by simp
  fst := fun i q h => ⟨q, get_snoc_of h, rfl⟩
  frame := fun a o h w => ⟨by rw [upd_ne (ne_of_none h n)]; exact h, fun z => by
    rcases own_append.mp z with z | z | z
    · exact w z
    · exact ne_of_none h n z
    · exact ne_of_none h n z⟩
  gen := fun i c' q h r => ⟨c', q, get_snoc_of h, get_snoc_of r, Nat.le_refl _, fun _ => rfl⟩
theorem StOk.box {p : Addr} {ys : List V} {xs : List Val} (S : StOk G μ st H) (n : H p = none) (h : RvPs G μ H xs ys) : StOk G (μ ++ [(p, p)]) (st ++ [.list xs]) (upd H p (.lst ys)) where
  len := by simp [S.len]
  cell := fun i q c h1 h2 => by
    have t : Step μ st H (μ ++ [(p, p)]) (st ++ [.list xs]) (upd H p (.lst ys)) := Step.box S n
    rcases get_snoc h1 with ⟨h1, l1⟩ | ⟨e1, rfl⟩
    · rcases get_snoc h2 with ⟨h2, _⟩ | ⟨e2, _⟩
      · exact (S.cell i q c h1 h2).step S t fun a u _ h => by rw [upd_ne (ne_of_none h n)]; exact h
      · rw [S.len] at l1; omega
    · rcases get_snoc h2 with ⟨_, l2⟩ | ⟨e2, rfl⟩
      · rw [e1, S.len] at l2; omega
      · exact ⟨rfl, ys, upd_same, RvPs.step S t xs ys h⟩
  sep := fun i j q r h1 h2 ne => by
    have no : ∀ (i : Nat) q, μ[i]? = some q → q.1 ≠ p ∧ q.2 ≠ p := fun i q h => by
      have w := S.notOwn0 n
      exact ⟨fun z => w ⟨q, List.mem_of_getElem? h, .inl z.symm⟩, fun z => w ⟨q, List.mem_of_getElem? h, .inr z.symm⟩⟩
    rcases get_snoc h1 with ⟨h1, l1⟩ | ⟨e1, rfl⟩
    · rcases get_snoc h2 with ⟨h2, _⟩ | ⟨e2, rfl⟩
      · exact S.sep i j q r h1 h2 ne
      · obtain ⟨a, b⟩ := no i q h1
        exact ⟨a, a, b, b⟩
    · rcases get_snoc h2 with ⟨h2, _⟩ | ⟨e2, rfl⟩
      · obtain ⟨a, b⟩ := no j r h2
        exact ⟨a.symm, b.symm, a.symm, b.symm⟩
      · omega
/-- a cell's list is written -/
theorem get_set {α : Type} {l : List α} {x y : α} {n m : Nat} (h : (l.set n x)[m]? = some y) : (m = n ∧ y = x ∧ n < l.length) ∨ (m ≠ n ∧ l[m]? = some y) := by
  by_cases e : m = n
  · subst e
    have hl : m < (l.set m x).length := (List.getElem?_eq_some_iff.mp h).1
    rw [List.length_set] at hl
    rw [List.getElem?_set_self hl] at h
    exact .inl ⟨rfl, (Option.some.inj h).symm, hl⟩
  · rw [List.getElem?_set_ne (Ne.symm e)] at h
    exact .inr ⟨e, h⟩
theorem Step.write {n : Nat} {p : Addr × Addr} {xs xs' : List Val} {ys ys' : List V} (S : StOk G μ st H) (h1 : μ[n]? = some p) (h2 : st[n]? = some (.list xs)) : Step μ st H μ (st.set n (.list xs')) (upd H p.1 (.lst ys')) where
  len := Nat.le_refl _
  fst := fun i q h => ⟨q, h, rfl⟩
  frame := fun a o h w => ⟨by rw [upd_ne (fun z => w ⟨p, List.mem_of_getElem? h1, .inl z⟩)]; exact h, w⟩
  gen := fun i c q h r => by
    by_cases e : i = n
    · subst e
      rw [h2] at h; cases h
      exact ⟨.list xs', q, by rw [List.getElem?_set_self (List.getElem?_eq_some_iff.mp h2).1], r, Nat.le_refl _, fun _ => rfl⟩
    · exact ⟨c, q, by rw [List.getElem?_set_ne (Ne.symm e)]; exact h, r, Nat.le_refl _, fun _ => rfl⟩
theorem StOk.write {n : Nat} {p : Addr × Addr} {xs xs' : List Val} {ys' : List V} (S : StOk G μ st H) (h1 : μ[n]? = some p) (h2 : st[n]? = some (.list xs)) (h : RvPs G μ H xs' ys') : StOk G μ (st.set n (.list xs')) (upd H p.1 (.lst ys')) where
  len := by rw [List.length_set]; exact S.len
  cell := fun i q c e1 e2 => by
    have t : Step μ st H μ (st.set n (.list xs')) (upd H p.1 (.lst ys')) := Step.write (ys := ys') S h1 h2
    rcases get_set e2 with ⟨rfl, rfl, _⟩ | ⟨ne, e2⟩
    · rw [h1] at e1; cases e1
      exact ⟨(S.cell i p _ h1 h2).1, ys', upd_same, RvPs.step S t xs' ys' h⟩
    · refine (S.cell i q c e1 e2).step S t fun a u ha hu => ?_
      have sp := S.sep i n q p e1 h1 ne
      rw [upd_ne ?_]; exact hu
      rcases ha with rfl | rfl
      · exact sp.1
      · exact sp.2.2.1
  sep := S.sep
end
end Sw
end

section
/-! SwPost: the readings of the mini language's terms. -/
namespace Sw
open PySem L2
abbrev LSt := L2.St
structure EnvOk (G : Gx) (μ : Mu) (H : Hp) (ρ : Env) (σ : LSt) : Prop where
  len : ρ.length ≤ σ.length
  get : ∀ (i : Nat) v, ρ[i]? = some (some v) → ∃ x, σ[i]? = some (some x) ∧ Rv G μ H v x
/-- what is wanted behind an evaluation -/
def RPost (G : Gx) (μ : Mu) (st : Store) (H : Hp) (σ : LSt) (W : WX) {α : Type} (r : Res α) (P : α → Mu → Store → Hp → Prop) : Prop := match r with
  | .ok a st' => ∀ μ' H', Step μ st H μ' st' H' → StOk G μ' st' H' → P a μ' st' H'
  | .exc c st' => ∀ μ' H', Step μ st H μ' st' H' → StOk G μ' st' H' → W (.ref (G.ex c)) none σ H'
  | .bad => False
section
variable {G : Gx} {μ μ' μ1 μ2 : Mu} {st st' st1 st2 : Store} {H H' H1 H2 : Hp} {σ σ' : LSt} {ρ ρ' : Env} {W : WX} {α β : Type}
theorem EnvOk.step (S : StOk G μ st H) (t : Step μ st H μ' st' H') (e : EnvOk G μ H ρ σ) : EnvOk G μ' H' ρ σ :=
  ⟨e.len, fun i v h => by
    obtain ⟨x, h1, h2⟩ := e.get i v h
    exact ⟨x, h1, h2.step S t⟩⟩
theorem EnvOk.set (e : EnvOk G μ H ρ σ) {v : Val} {x : V} (h : Rv G μ H v x) (i : Nat) : EnvOk G μ H (ρ.set i (some v)) (σ.set i (some x)) :=
  ⟨by simpa using e.len, fun j w q => by
    rcases get_set q with ⟨rfl, q, l⟩ | ⟨ne, q⟩
    · cases q
      exact ⟨x, by rw [List.getElem?_set_self (Nat.lt_of_lt_of_le l e.len)], h⟩
    · obtain ⟨y, h1, h2⟩ := e.get j w q
      exact ⟨y, by rw [List.getElem?_set_ne (Ne.symm ne)]; exact h1, h2⟩⟩
theorem EnvOk.wipe1 (e : EnvOk G μ H ρ σ) (i : Nat) : EnvOk G μ H (ρ.set i none) (σ.set i none) :=
  ⟨by simpa using e.len, fun j w q => by
    rcases get_set q with ⟨rfl, q, l⟩ | ⟨ne, q⟩
    · cases q
    · obtain ⟨y, h1, h2⟩ := e.get j w q
      exact ⟨y, by rw [List.getElem?_set_ne (Ne.symm ne)]; exact h1, h2⟩⟩
theorem EnvOk.wipe (e : EnvOk G μ H ρ σ) : ∀ is : List Nat, EnvOk G μ H (wipeAll ρ is) (L2.wipe σ is)
  | [] => e
  | i :: is => (EnvOk.wipe e is).wipe1 i
theorem RPost.later {r : Res α} {P : α → Mu → Store → Hp → Prop} (h : RPost G μ st H σ W r P) (t : Step μ st H μ1 st1 H1) : RPost G μ1 st1 H1 σ W r P := by
  cases r with
  | ok a st' => exact fun μ' H' s S => h μ' H' (t.trans s) S
  | exc c st' => exact fun μ' H' s S => h μ' H' (t.trans s) S
  | bad => exact h
theorem RPost.mono {r : Res α} {P P' : α → Mu → Store → Hp → Prop} (h : RPost G μ st H σ W r P) (k : ∀ a μ' st' H', Step μ st H μ' st' H' → StOk G μ' st' H' → P a μ' st' H' → P' a μ' st' H') : RPost G μ st H σ W r P' := by
  cases r with
  | ok a st' => exact fun μ' H' s S => k a μ' st' H' s S (h μ' H' s S)
  | exc c st' => exact h
  | bad => exact h
theorem RPost.bind {r : Res α} {f : α → Store → Res β} {P : β → Mu → Store → Hp → Prop} (h : RPost G μ st H σ W (r.bind f) P) : RPost G μ st H σ W r (fun a μ1 st1 H1 => RPost G μ1 st1 H1 σ W (f a st1) P) := by
  cases r with
  | ok a st' => exact fun μ' H' s S => RPost.later h s
  | exc c st' => exact h
  | bad => exact h
theorem RPost.here {a : α} {P : α → Mu → Store → Hp → Prop} (h : RPost G μ st H σ W (.ok a st) P) (S : StOk G μ st H) : P a μ st H := h μ H Step.refl S
theorem RPost.lift {o : Option α} {P : α → Mu → Store → Hp → Prop} (h : RPost G μ st H σ W (Sw.lift o st) P) : ∃ a, o = some a ∧ RPost G μ st H σ W (.ok a st) P := by
  cases o with
  | none => exact h.elim
  | some a => exact ⟨a, rfl, h⟩
end
section
variable (G : Gx) (C : Orc) (W : WX)
/-- the reading of an expression; of a test; of arguments; of a slice's part -/
def TM (m : Ex) : TE := fun σ H Q => ∃ μ ρ st, StOk G μ st H ∧ EnvOk G μ H ρ σ ∧ RPost G μ st H σ W (ev C m ρ st) fun v μ' _ H' => ∀ x, Rv G μ' H' v x → Q x H'
def TMT (m : Ex) : TT := fun σ H Q => ∃ μ ρ st, StOk G μ st H ∧ EnvOk G μ H ρ σ ∧ RPost G μ st H σ W (ev C m ρ st) fun v _ _ H' => ∃ b, v = .bl b ∧ Q b H'
def TMA (m : Exs) : TA := fun σ H Q => ∃ μ ρ st, StOk G μ st H ∧ EnvOk G μ H ρ σ ∧ RPost G μ st H σ W (evs C m ρ st) fun vs μ' _ H' => ∀ xs, Rvs G μ' H' vs xs → Q xs H'
def TMO (m : OEx) : TO := fun σ H Q => ∃ μ ρ st, StOk G μ st H ∧ EnvOk G μ H ρ σ ∧ RPost G μ st H σ W (evo C m ρ st) fun o _ _ H' => Q o H'
def TMC (m : OEx) : TT := fun σ H Q => ∃ μ ρ st, StOk G μ st H ∧ EnvOk G μ H ρ σ ∧ RPost G μ st H σ W (evc C m ρ st) fun b _ _ H' => Q b H'
/-- what a walk yields: items, while the cell bx stands; two: pairs -/
def Yields (two : Bool) (J : L2.It) (is : Items) (μ : Mu) (st : Store) (H : Hp) : Prop :=
  ∀ μ' st' H', Step μ st H μ' st' H' → StOk G μ' st' H' → bxOk st' is.2 = true → ∀ i : Nat,
    (∀ vs, is.1[i]? = some vs → J.go i H' ∧ ∀ x H2, J.yld i H' x H2 → (two = false ∧ H2 = H' ∧ ∃ v, vs = [v] ∧ Rv G μ' H' v x) ∨
      (two = true ∧ ∃ T v w y z, H' T = none ∧ x = .ref T ∧ H2 = upd H' T (.tup [y, z]) ∧ vs = [v, w] ∧ Rv G μ' H' v y ∧ Rv G μ' H' w z)) ∧
    (is.1.length = i → J.stop i H')
def pairI : It → Bool
  | .over _ => false
  | .range _ => false
  | .zip _ _ => true
  | .enum _ => true
def TMI (m : It) : TI := fun σ H R => ∃ μ ρ st, StOk G μ st H ∧ EnvOk G μ H ρ σ ∧ RPost G μ st H σ W (evi C m ρ st) fun is μ' st' H' => ∀ J, Yields G (pairI m) J is μ' st' H' → R J H'
end
theorem _root_.L2.PE.mono {X : Cx} {e : Expr} {t t' : TE} (h : PE X e t) (k : ∀ σ H Q, t' σ H Q → t σ H Q) : PE X e t' := ⟨fun pins s σ H Q I q => h.run pins s σ H Q I (k σ H Q q)⟩
theorem _root_.L2.PT.mono {X : Cx} {e : Expr} {t t' : TT} (h : PT X e t) (k : ∀ σ H Q, t' σ H Q → t σ H Q) : PT X e t' := ⟨fun pins s σ H Q I q => h.run pins s σ H Q I (k σ H Q q)⟩
theorem _root_.L2.PW.mono {X : Cx} {e : Expr} {t t' : TT} (h : PW X e t) (k : ∀ σ H Q, t' σ H Q → t σ H Q) : PW X e t' := ⟨fun wh pins s σ H Q I q => h.run wh pins s σ H Q I (k σ H Q q)⟩
theorem _root_.L2.PTs.mono {X : Cx} {e : List Expr} {t t' : TT} (h : PTs X e t) (k : ∀ σ H Q, t' σ H Q → t σ H Q) : PTs X e t' := ⟨fun pins s σ H Q I q => h.run pins s σ H Q I (k σ H Q q)⟩
theorem _root_.L2.PA.mono {X : Cx} {e : List Expr} {t t' : TA} (h : PA X e t) (k : ∀ σ H Q, t' σ H Q → t σ H Q) : PA X e t' := ⟨fun pos pins s σ H Q I q => h.run pos pins s σ H Q I (k σ H Q q)⟩
theorem _root_.L2.PO.mono {X : Cx} {e : Option Expr} {t t' : TO} (h : PO X e t) (k : ∀ σ H Q, t' σ H Q → t σ H Q) : PO X e t' := ⟨fun pins s σ H Q I q => h.run pins s σ H Q I (k σ H Q q)⟩
theorem _root_.L2.PI.mono {X : Cx} {tg e : Expr} {t t' : TI} (h : PI X tg e t) (k : ∀ σ H Q, t' σ H Q → t σ H Q) : PI X tg e t' := ⟨fun pins s σ H Q I q => h.run pins s σ H Q I (k σ H Q q)⟩
theorem _root_.L2.PS.mono {X : Cx} {e : Stmt} {t t' : TS} (h : PS X e t) (k : ∀ D σ H, t' D σ H → t D σ H) : PS X e t' := ⟨fun pins s σ H D I q => h.run pins s σ H D I (k D σ H q)⟩
theorem _root_.L2.PSs.mono {X : Cx} {e : List Stmt} {t t' : TS} (h : PSs X e t) (k : ∀ D σ H, t' D σ H → t D σ H) : PSs X e t' := ⟨fun pins s σ H D I q => h.run pins s σ H D I (k D σ H q)⟩
end Sw
end

section
/-! SwChk: does a piece of the given syntax read as a term of the mini language? -/
namespace Sw
open PySem L2
/-- the names' places, the defs at hand, the names of the law's own defs -/
structure Ck where
  N : List Str
  av : Fn → Bool
  own : List Str
  xs : Nat → Bool
def Fn.nm (own : List Str) : Fn → Str
  | .is_integer => "is_integer" | .is_function => "is_function" | .check_function => "check_function" | .check_mask => "check_mask" | .bit_count => "bit_count"
  | .bits_of => "bits_of" | .common => "common" | .exclusive => "exclusive" | .straight => "straight" | .sum_for => "sum_for" | .check_two => "check_two"
  | .apart => "apart" | .distance => "distance" | .alike => "alike" | .likeness => "likeness"
  | .spread => "spread" | .wave_of => "wave_of" | .wave => "wave" | .from_wave => "from_wave" | .height => "height" | .gap_of => "gap_of" | .gap => "gap"
  | .straight_functions => "straight_functions" | .nearest => "nearest" | .even => "even" | .is_even => "is_even" | .partner => "partner"
  | .functions_of => "functions_of" | .even_functions => "even_functions"
  | .moved => "moved" | .echo => "echo"
  | .folded => "folded" | .term_list => "term_list" | .terms => "terms" | .from_terms => "from_terms" | .degree => "degree"
  | .quiet_for => "quiet_for" | .keeps_quiet => "keeps_quiet" | .quiet => "quiet" | .fixed => "fixed"
  | .leaned => "leaned" | .opposite => "opposite" | .shifted => "shifted" | .tilted => "tilted" | .turned => "turned" | .join => "join"
  | .text_of => "text_of" | .format_function => "format_function" | .parse_function => "parse_function"
  | .t_init => "__init__" | .t_flip => "flip" | .t_shift => "shift" | .t_tilt => "tilt" | .t_turn => "turn" | .t_function => "function" | .t_path => "path"
  | .t_undo => "undo" | .t_duplicate => "duplicate" | .t_eq => "__eq__" | .t_len => "__len__" | .t_str => "__str__"
  | .l_cell_at => "_law_cell_at" | .l_mixed => "_law_mixed" | .l_draw => "_law_draw" | .l_pick => "_law_pick" | .l_same_number => "_law_same_number"
  | .l_same_truth => "_law_same_truth" | .l_bits_in => "_law_bits_in" | .l_odd => "_law_odd" | .l_cross => "_law_cross" | .l_inside => "_law_inside"
  | .l_some_values => "_law_some_values" | .l_like => "_law_like" | .l_likes => "_law_likes" | .l_tuned => "_law_tuned"
  | .own i => own.getD i ""
/-- a method of Tuner -/
def Fn.isM : Fn → Bool
  | .t_init => true | .t_flip => true | .t_shift => true | .t_tilt => true | .t_turn => true | .t_function => true | .t_path => true
  | .t_undo => true | .t_duplicate => true | .t_eq => true | .t_len => true | .t_str => true
  | _ => false
def visB (sc : Scope) (x : Str) : Bool := match sc.names.lookup x with
  | some .local => true
  | some .cell => true
  | some .free => true
  | _ => false
def locB (sc : Scope) (x : Str) : Bool := match sc.names.lookup x with
  | some .local => true
  | some .cell => true
  | _ => false
def plocB (sc : Scope) (x : Str) : Bool := match sc.names.lookup x with
  | some .local => true
  | _ => false
def glB (sc : Scope) (x : Str) : Bool := match sc.names.lookup x with
  | some .globalImplicit => true
  | _ => false
def okName (x : Str) : Bool := !(x == ("__debug__" : Str)) && !(x == ("__classdict__" : Str))
/-- an expression that is neither starred nor a set nor a slice -/
def plainE : Expr → Bool
  | .Starred .. => false
  | .Set .. => false
  | .Slice .. => false
  | _ => true
def bopB : Bop → Operator → Bool
  | .add, .Add => true
  | .sub, .Sub => true
  | .mul, .Mult => true
  | .fdiv, .FloorDiv => true
  | .mod, .Mod => true
  | .pow, .Pow => true
  | _, _ => false
def copB : Cop → CmpOp → Bool
  | .eq, .Eq => true
  | .ne, .NotEq => true
  | .lt, .Lt => true
  | .le, .LtE => true
  | .gt, .Gt => true
  | .ge, .GtE => true
  | .isin, .In => true
  | .notin, .NotIn => true
  | .is, .Is => true
  | .isnot, .IsNot => true
  | _, _ => false
def B1.nm : B1 → Str
  | .len => "len" | .sum => "sum" | .max => "max" | .min => "min" | .all => "all" | .sorted => "sorted" | .tuple => "tuple" | .list => "list" | .str => "str" | .int => "int" | .lenset => "len"
def B2.nm : B2 → Str
  | .max => "max" | .min => "min"
def M1.nm : M1 → Str
  | .index => "index" | .tix => "index" | .count => "count" | .join => "join"
def Ty.nm : Ty → Str
  | .int => "int" | .bool => "bool" | .tuple => "tuple" | .list => "list" | .str => "str" | .tuner => "Tuner"
def excNm : Nat → Str
  | 0 => "InvalidFunction" | 1 => "InvalidWave" | 2 => "InvalidNumber" | 3 => "InvalidMask" | 4 => "InvalidTerms" | 5 => "NotEven" | 6 => "TooLarge" | 7 => "NothingToUndo" | 8 => "ParseError" | _ => ""
/-- a target's names -/
def tgNames : Expr → Option (List Str)
  | .Name x _ => some [x]
  | .Tuple [.Name x _, .Name y _] _ _ => some [x, y]
  | _ => none
/-- a comprehension's own name may be stored -/
def ownB (sc' scope : Scope) (x : Str) : Bool := plocB sc' x || (locB sc' x && (scope.names.lookup x == some .cell))
def isBool (m : Ex) : Bool := match m with
  | .ife .. => false
  | _ => true
def isSub : Expr → Bool
  | .Subscript .. => true
  | _ => false
/-- a receiver: no call without arguments -/
def recvB : Expr → Bool
  | .Call (.Name _ _) [] [] _ => false
  | _ => true
/-- the receiver of tuple.index is SIZES -/
def isSizes : Ex → Bool
  | .sizes => true
  | _ => false
def recvM : M1 → Ex → Bool
  | .tix, o => isSizes o
  | _, _ => true
def constI (i : Int) : Expr → Bool
  | .Constant (.int j) _ _ => decide (i = j)
  | .UnaryOp .USub (.Constant (.int j) _ _) _ => decide (i = -j)
  | _ => false
def constO : Option Int → Option Expr → Bool
  | none, none => true
  | some i, some e => constI i e
  | _, _ => false
def isVar : Ex → Bool
  | .var _ => true
  | _ => false
mutual
def chkE (k : Ck) : Scope → Ex → Expr → Bool
  | sc, .var i, e => (match e with
    | .Name x _ => decide (k.N[i]? = some x) && visB sc x && okName x
    | _ => false)
  | _, .ci i, e => (match e with
    | .Constant (.int j) _ _ => decide (i = j)
    | _ => false)
  | _, .cb b, e => (match e with
    | .Constant (.bool c) _ _ => b == c
    | _ => false)
  | _, .cn, e => (match e with
    | .Constant .none _ _ => true
    | _ => false)
  | _, .cs s, e => (match e with
    | .Constant (.str t) _ _ => decide (s = t)
    | _ => false)
  | sc, .sizes, e => (match e with
    | .Name x _ => decide (x = "SIZES") && glB sc x
    | _ => false)
  | sc, .fv f, e => (match e with
    | .Name x _ => decide (x = f.nm k.own) && glB sc x && okName x && k.av f && !f.isM
    | _ => false)
  | sc, .bin o a b, e => (match e with
    | .BinOp l p r _ => bopB o p && chkE k sc a l && chkE k sc b r
    | _ => false)
  | sc, .neg a, e => (match e with
    | .UnaryOp .USub x _ => chkE k sc a x
    | _ => false)
  | sc, .cmp o a b, e => (match e with
    | .Compare l [p] [r] _ => copB o p && plainE r && chkE k sc a l && chkE k sc b r
    | _ => false)
  | sc, .chain o p a b c, e => (match e with
    | .Compare l [q, q'] [r, r'] _ => copB o q && copB p q' && plainE r && plainE r' && chkE k sc a l && chkE k sc b r && chkE k sc c r'
    | _ => false)
  | sc, .not a, e => (match e with
    | .UnaryOp .Not x _ => isBool a && chkE k sc a x
    | _ => false)
  | sc, .and a b, e => (match e with
    | .BoolOp .And (x :: y :: rest) pos => isBool a && chkE k sc a x && (match rest with
      | [] => isBool b && chkE k sc b y
      | z :: rest => isBool b && chkE k sc b (.BoolOp .And (y :: z :: rest) pos))
    | _ => false)
  | sc, .or a b, e => (match e with
    | .BoolOp .Or (x :: y :: rest) pos => isBool a && chkE k sc a x && (match rest with
      | [] => isBool b && chkE k sc b y
      | z :: rest => isBool b && chkE k sc b (.BoolOp .Or (y :: z :: rest) pos))
    | _ => false)
  | sc, .ife c a b, e => (match e with
    | .IfExp t x y _ => isBool c && chkE k sc c t && chkE k sc a x && chkE k sc b y
    | _ => false)
  | sc, .call f as, e => (match e with
    | .Call (.Name x _) (y :: es) [] _ => decide (x = f.nm k.own) && glB sc x && okName x && (k.av f && !f.isM) && chkA k sc as (y :: es)
    | .Call (.Name x _) [] [] _ => decide (x = f.nm k.own) && glB sc x && okName x && (k.av f && !f.isM) && chkA k sc as []
    | _ => false)
  | sc, .callv g as, e => (match e with
    | .Call h (y :: es) [] _ => isSub h && chkE k sc g h && chkA k sc as (y :: es)
    | _ => false)
  | sc, .meth o m as, e => (match e with
    | .Call (.Attribute (.Name x np) y ap) args [] cp => decide (y = m.nm k.own) && m.isM && k.av m && k.av .t_init && (ap.endLine == cp.line) && decide (args.length ≤ 1) && chkE k sc o (.Name x np) && chkA k sc as args
    | _ => false)
  | sc, .mk a, e => (match e with
    | .Call (.Name x _) [y] [] _ => decide (x = "Tuner") && glB sc x && k.av .t_init && plainE y && chkE k sc a y
    | _ => false)
  | sc, .fidx o i, e => (match e with
    | .Subscript (.Attribute (.Name x np) y _) s _ => decide (y = "functions") && k.av .t_init && constI i s && chkE k sc o (.Name x np)
    | _ => false)
  | sc, .fsl o lo hi, e => (match e with
    | .Subscript (.Attribute (.Name x np) y _) (.Slice l u none _) _ => decide (y = "functions") && k.av .t_init && constO lo l && constO hi u && chkE k sc o (.Name x np)
    | _ => false)
  | sc, .flen o, e => (match e with
    | .Call (.Name z _) [.Attribute (.Name x np) y _] [] _ => decide (z = "len") && glB sc z && decide (y = "functions") && k.av .t_init && chkE k sc o (.Name x np)
    | _ => false)
  | sc, .flist o, e => (match e with
    | .Call (.Name z _) [.Attribute (.Name x np) y _] [] _ => decide (z = "list") && glB sc z && decide (y = "functions") && k.av .t_init && chkE k sc o (.Name x np)
    | _ => false)
  | sc, .feq o q, e => (match e with
    | .Compare (.Attribute (.Name x np) y _) [.Eq] [.Attribute (.Name x' np') y' _] _ => decide (y = "functions") && decide (y' = "functions") && k.av .t_init && isVar q && chkE k sc o (.Name x np) && chkE k sc q (.Name x' np')
    | _ => false)
  | sc, .kept o, e => (match e with
    | .Attribute (.Name x np) y _ => decide (y = "kept") && k.av .t_init && chkE k sc o (.Name x np)
    | _ => false)
  | sc, .tlen o, e => (match e with
    | .Call (.Name z _) [.Name x np] [] _ => decide (z = "len") && glB sc z && k.av .t_init && k.av .t_len && chkE k sc o (.Name x np)
    | _ => false)
  | sc, .tstr o, e => (match e with
    | .Call (.Name z _) [.Name x np] [] _ => decide (z = "str") && glB sc z && k.av .t_init && k.av .t_str && chkE k sc o (.Name x np)
    | _ => false)
  | sc, .teq o q, e => (match e with
    | .Compare l [.Eq] [r] _ => k.av .t_init && k.av .t_eq && plainE r && chkE k sc o l && chkE k sc q r
    | _ => false)
  | _, .tne _ _, _ => false
  | sc, .tis o, e => (match e with
    | .Call (.Name z _) [.Name x np, .Name y _] [] _ => decide (z = "isinstance") && glB sc z && decide (y = "Tuner") && glB sc y && k.av .t_init && chkE k sc o (.Name x np)
    | _ => false)
  | sc, .b1 f a, e => (match e with
    | .Call (.Name x _) [y] [] _ => (match f with
      | .lenset => (match y with
        | .Call (.Name z _) [y'] [] _ => decide (x = "len") && decide (z = "set") && glB sc x && glB sc z && plainE y' && chkE k sc a y'
        | _ => false)
      | f => decide (x = f.nm) && glB sc x && plainE y && chkE k sc a y)
    | _ => false)
  | sc, .b2 f a b, e => (match e with
    | .Call (.Name x _) [d, y] [] _ => decide (x = f.nm) && glB sc x && plainE d && plainE y && chkE k sc a d && chkE k sc b y
    | _ => false)
  | sc, .m1 f o a, e => (match e with
    | .Call (.Attribute r m ap) [y] [] cp => decide (m = f.nm) && recvM f o && recvB r && (ap.endLine == cp.line) && plainE y && chkE k sc o r && chkE k sc a y
    | _ => false)
  | sc, .isi a t, e => (match e with
    | .Call (.Name x _) [y, .Name z _] [] _ => decide (x = "isinstance") && glB sc x && decide (z = t.nm) && glB sc z && plainE y && chkE k sc a y && decide (t ≠ .tuner)
    | _ => false)
  | sc, .tup es, e => (match e with
    | .Tuple xs _ _ => chkA k sc es xs
    | _ => false)
  | sc, .lst es, e => (match e with
    | .List xs _ => chkA k sc es xs
    | _ => false)
  | sc, .idx a i, e => (match e with
    | .Subscript v s _ => plainE s && chkE k sc a v && chkE k sc i s
    | _ => false)
  | sc, .sl a lo hi, e => (match e with
    | .Subscript v (.Slice l u none _) _ => chkE k sc a v && chkO k sc lo l && chkO k sc hi u
    | _ => false)
  | sc, .rev a, e => (match e with
    | .Subscript v (.Slice none none (some (.UnaryOp .USub (.Constant (.int j) _ _) _)) _) _ => decide (j = 1) && chkE k sc a v
    | _ => false)
  | sc, .lc elt tg it cond, e => (match e with
    | .ListComp y [⟨t, i, ifs, n⟩] scope _ => decide (n = 0) && (match tgNames t with
      | some xs => decide (xs.length = tg.length) && decide (tg.length = if pairI it then 2 else 1) && blkC k.N sc scope (xs.zip tg) && xs.all (ownB (relS scope sc) scope) && decide tg.Nodup && plainE i && chkI k sc it i &&
        (match ifs with
        | [] => chkC k (relS scope sc) cond none
        | [c] => chkC k (relS scope sc) cond (some c)
        | _ => false) && chkE k (relS scope sc) elt y
      | none => false)
    | _ => false)
def chkA (k : Ck) : Scope → Exs → List Expr → Bool
  | _, .nil, [] => true
  | sc, .cons e es, x :: xs => plainE x && chkE k sc e x && chkA k sc es xs
  | _, _, _ => false
def chkO (k : Ck) : Scope → OEx → Option Expr → Bool
  | _, .none, none => true
  | sc, .some e, some x => chkE k sc e x
  | _, _, _ => false
def chkC (k : Ck) : Scope → OEx → Option Expr → Bool
  | _, .none, none => true
  | sc, .some e, some x => isBool e && chkE k sc e x
  | _, _, _ => false
def chkI (k : Ck) : Scope → It → Expr → Bool
  | sc, .over a, e => chkE k sc a e
  | sc, .range a, e => (match e with
    | .Call (.Name x _) [y] [] _ => decide (x = "range") && glB sc x && plainE y && chkE k sc a y
    | _ => false)
  | sc, .zip a b, e => (match e with
    | .Call (.Name x _) [d, y] [] _ => decide (x = "zip") && glB sc x && plainE d && plainE y && chkE k sc a d && chkE k sc b y
    | _ => false)
  | sc, .enum a, e => (match e with
    | .Call (.Name x _) [y] [] _ => decide (x = "enumerate") && glB sc x && plainE y && chkE k sc a y
    | _ => false)
end
end Sw
end

section
/-! SwRules: rules that the layer lacks. -/
namespace SwR
open PySem PySem.Spec PyProof.Rows L2
/-! ### () + t -/
section
open PySem.SeqAt
open PySem.AutoSeq1 (wpAny_loadPart')
open PySem.MeetsSeq PySem.MeetsSeq2 PySem.MeetsSeq3
variable {prog : Program} {w : World} {A : Around} {E : Value → Shared → Prop} {s : Shared}
theorem cat_tup0 {t b : Addr} {ws : List Value} {Q : Value → Shared → Prop} (ht : IsTup s.heap t ([] : List Value).toArray) (hb : IsTup s.heap b ws.toArray) (h1 : Q (.ref b) s) : wpAny (model prog w) A (binaryOp .Add (.ref t) (.ref b)) Q E s := by
  obtain ⟨⟨cls, dd, data, sl⟩, ho, hc, n, hd⟩ := id ht
  obtain ⟨⟨cls2, dd2, data2, sl2⟩, ho2, hc2, n2, hd2⟩ := id hb
  simp only at hc hd hc2 hd2
  subst hc hd hc2 hd2
  exact concat_meets ⟨_, ho, rfl⟩ ⟨_, ho2, rfl⟩ noFill_tuple_add seq_tuple_add PySem.F.slot_tuple_add PySem.F.entry_tuple_add (PySem.F.args_tuple_add_2 _ _)
      (tuple_addW0 t b _ ws.toArray n n2 dd dd2 sl sl2 (by simp)) ⟨ho, ho2, h1⟩
end
section
variable {X : Cx}
def rCatT0 (K : PySem.W.Frag) : R2 := fun x y H Q => ∃ a b ys, x = .ref a ∧ y = .ref b ∧ SqT K H a [] ∧ SqT K H b ys ∧ Q (.ref b) H
theorem op_catT0 : OpR X (binaryOp .Add) (rCatT0 X.K) := by
  intro pins s σ H x y v u Q I rx ry h
  obtain ⟨a, b, ys, rfl, rfl, ha, hb, q⟩ := h
  cases rx
  cases ry
  obtain ⟨its, r1, p1, _⟩ := I.tuple ha
  obtain ⟨its2, r2, p2, _⟩ := I.tuple hb
  cases r1
  exact cat_tup0 p1 p2 ⟨.ref b, H, I, rfl, q⟩
end
/-! ### t * n, n at least 1, t not empty -/
theorem noFill_tuple_mul : fillsNumberSlot (.type "tuple") "mul" = pure false :=
  PySem.fillsNumberSlot_seq (id := "tuple.__mul__") (r := some (.builtin "tuple.__rmul__")) PySem.F.slot_tuple_mul.lookup (by decide +kernel) PySem.F.slot_tuple_rmul.lookup (by decide +kernel)
theorem repeat_tuple : seqRepeat? (.type "tuple") = pure (some (.builtin "tuple.__mul__")) := by
  unfold seqRepeat?
  rw [PySem.seqSlot_of (T := "tuple") (name := "__mul__") (id := "tuple.__mul__") PySem.F.slot_tuple_mul.lookup (by decide +kernel), PySem.seqSlot_of (T := "tuple") (name := "__rmul__") (id := "tuple.__rmul__") PySem.F.slot_tuple_rmul.lookup (by decide +kernel)]
  rfl
section
open PySem.SeqAt
open PySem.AutoSeq1 (wpAny_loadPart')
open PySem.MeetsSeq PySem.MeetsSeq2 PySem.MeetsSeq3
theorem int_rmul_tuple (a : Int) (t : Tok) (l : Addr) (items : Array Value) (n : Nat) (d : Option Addr) (sl : Array (Option Value)) :
    Meets (Builtin.«int.__rmul__» ⟨[.int a t, .ref l], []⟩) (fun _ R s => s.heap.get? l = some { cls := .type "tuple", dict := d, data := .seq items n, slots := sl } ∧ R (.ok (.ret Value.notImplemented)) s) :=
  .of_wp fun prog w A R s h => by obtain ⟨hp, g, d, tk, os⟩ := s; obtain ⟨hl, h⟩ := h; wp_walk; exact ⟨_, rfl, h⟩
theorem tuple_mul_one (l : Addr) (items : Array Value) (n : Nat) (dd : Option Addr) (sl : Array (Option Value)) (u : Tok) :
    Meets (Builtin.«tuple.__mul__» ⟨[.ref l, .int 1 u], []⟩) (fun _ R s => s.heap.get? l = some { cls := .type "tuple", dict := dd, data := .seq items n, slots := sl } ∧ R (.ok (.ret (.ref l))) s) :=
  .of_wp fun prog w A R s h => by
    obtain ⟨hp, g, d, tk, os⟩ := s; obtain ⟨hl, h⟩ := h
    have hc : (items.isEmpty || (1 : Int) == 1) = true := by simp
    have f1 := AutoSeq1.idx_int; have f2 := AutoSeq1.sub_tuple_tuple; have f3 := AutoSeq1.sub_list_list; have f4 := AutoSeq1.sub_tuple_list; have f5 := AutoSeq1.sub_list_tuple
    wp_walk using wpAny_loadPart' hl; exact ⟨_, rfl, h⟩
theorem rep_arr (its : List Value) (m : Nat) : List.foldl (fun x1 x2 => x1 ++ x2) #[] (List.replicate m its.toArray) = (List.replicate m its).flatten.toArray := by
  have := foldl_rep its m []
  rw [List.nil_append] at this
  exact this
theorem tuple_mul_more (l : Addr) (its : List Value) (n : Nat) (dd : Option Addr) (sl : Array (Option Value)) (x : Int) (u : Tok) (h1 : 1 < x) (h2 : x < 2 ^ 62) (hne : its ≠ []) (hz : its.length * x.toNat ≤ sizeLine) :
    Meets (Builtin.«tuple.__mul__» ⟨[.ref l, .int x u], []⟩) (fun _ R s => s.heap.get? l = some { cls := .type "tuple", dict := dd, data := .seq its.toArray n, slots := sl } ∧
      R (.ok (.ret (Value.ref s.heap.objs.size))) { s with heap := s.heap.push { cls := Value.type "tuple", data := Data.seq (List.replicate x.toNat its).flatten.toArray } }) :=
  .of_wp fun prog w A R s h => by
    obtain ⟨hp, g, d, tk, os⟩ := s; obtain ⟨hl, h⟩ := h
    have hne' : its.toArray.isEmpty = false := by simpa using hne
    have hx : (x.toNat : Int) = x := by omega
    have hz' : (its.toArray.size : Int) * x ≤ sizeLine := by
      rw [← hx, List.size_toArray]
      exact_mod_cast hz
    have hc0 : ¬ (decide (x < -(2 ^ 63)) || decide (x ≥ 2 ^ 63)) = true := by
      rw [decide_eq_false (by omega), decide_eq_false (by omega)]; decide
    have hc1 : ¬ (its.toArray.isEmpty || x == 1) = true := by
      rw [hne', beq_eq_false_iff_ne.mpr (by omega)]; decide
    have hc2 : ¬ (decide (x ≤ 0) || its.toArray.isEmpty) = true := by
      rw [hne', decide_eq_false (by omega)]; decide
    have hc3 : ¬ (its.toArray.size : Int) * x > (2 ^ 63 - 1) / 8 := by
      have : ((sizeLine : Nat) : Int) ≤ (2 ^ 63 - 1) / 8 := by decide
      omega
    have hc4 : ¬ Builtin.Tuple.tupleTooMany ((its.toArray.size : Int) * x) = true := by
      unfold Builtin.Tuple.tupleTooMany
      rw [decide_eq_false (by omega)]; decide
    have f1 := AutoSeq1.idx_int; have f2 := AutoSeq1.sub_tuple_tuple; have f3 := AutoSeq1.sub_list_list; have f4 := AutoSeq1.sub_tuple_list; have f5 := AutoSeq1.sub_list_tuple
    wp_walk using wpAny_loadPart' hl
    rw [if_neg hc0]
    wp_walk using wpAny_loadPart' hl
    rw [if_neg hc1]
    dsimp only
    rw [if_neg hc2, if_neg hc3, if_neg hc4]
    rw [rep_arr]
    refine wpAny_bind (wpAny_newObj_type ?_ ?_)
    · wp_walk using wpAny_loadPart' hl
      exact ⟨_, rfl, h⟩
    · show (List.replicate x.toNat its).flatten.toArray.size ≤ sizeLine
      rw [List.size_toArray, PyProof.Rows.lm_len_rep_flat, Nat.mul_comm]
      exact hz
end
section
variable {X : Cx}
/-- t * k, k at least 1, t not empty -/
def rRepT (K : PySem.W.Frag) : R2 := fun x y H Q => ∃ a k xs, x = .ref a ∧ y = .int k ∧ SqT K H a xs ∧ xs ≠ [] ∧ 1 ≤ k ∧ k < 2 ^ 62 ∧ xs.length * k.toNat ≤ sizeLine ∧
  (k = 1 → Q (.ref a) H) ∧ (1 < k → ∀ p, H p = none → Q (.ref p) (upd H p (.tup (List.replicate k.toNat xs).flatten)))
theorem op_repT : OpR X (binaryOp .Mult) (rRepT X.K) := by
  intro pins s σ H x y v u Q I rx ry h
  obtain ⟨a, k, xs, rfl, rfl, ha, hne, h1, h2, hz, q1, q2⟩ := h
  cases rx
  obtain ⟨t, rfl⟩ := ry
  obtain ⟨its, r1, p1, _⟩ := I.tuple ha
  obtain ⟨⟨cls, dd, data, sl⟩, ho, hc, n, hd⟩ := id p1
  simp only at hc hd
  subst hc hd
  have hl := r1.length
  have hne' : its ≠ [] := fun z => hne (r1.nil_iff.mp z)
  refine wpAny_binaryOp_repeat_ref (T := "tuple") (U := "int") (by decide) ⟨_, ho, rfl⟩ (fun s' => typeIs_int s' k t) noFill_tuple_mul F.fills_int_mul F.slot_int_rmul repeat_tuple F.slot_int_index.lookup
    (call_meets F.slot_int_rmul (typeIs_int s k t) F.entry_int_rmul (F.args_int_rmul_2 _ _) (int_rmul_tuple k t a its.toArray n dd sl) ⟨ho, rfl, ⟨_, ho, rfl⟩, ?_⟩)
  by_cases e : k = 1
  · subst e
    exact call_meets F.slot_tuple_mul ⟨_, ho, rfl⟩ F.entry_tuple_mul (F.args_tuple_mul_2 _ _) (tuple_mul_one a its.toArray n dd sl t) ⟨ho, ⟨.ref a, H, I, rfl, q1 rfl⟩⟩
  · refine call_meets F.slot_tuple_mul ⟨_, ho, rfl⟩ F.entry_tuple_mul (F.args_tuple_mul_2 _ _) (tuple_mul_more a its n dd sl k t (by omega) h2 hne' (by rw [← hl]; exact hz)) ⟨ho, ?_⟩
    refine ⟨.ref s.heap.objs.size, _, I.laid (t' := s.toks) (o := .tup (List.replicate k.toNat xs).flatten) (fun b ob q => Heap.get?_push_of_some _ q) (Nat.le_refl _) ?_, rfl, q2 (by omega) _ (I.hok.fresh (Nat.le_refl _))⟩
    exact ⟨by rw [PyProof.Rows.lm_len_rep_flat, Nat.mul_comm]; exact hz, _, r1.rep k.toNat, IsTup.new _ _⟩
/-- text * k -/
def rRepS : R2 := fun x y H Q => ∃ z k, x = .str z ∧ y = .int k ∧ 1 < k ∧ k ≤ 64 ∧ 0 < z.length ∧ z.length ≤ 64 ∧ Q (.str ⟨(List.replicate k.toNat z.cps.toList).flatten.toArray⟩) H
theorem rep_cps (z : Array Nat) (m : Nat) : List.foldl (fun x1 x2 => x1 ++ x2) #[] (List.replicate m z) = (List.replicate m z.toList).flatten.toArray := by
  have h : ∀ (k : Nat) (acc : List Nat), List.foldl (fun x1 x2 => x1 ++ x2) acc.toArray (List.replicate k z) = (acc ++ (List.replicate k z.toList).flatten).toArray := by
    intro k
    induction k with
    | zero => intro acc; simp
    | succ k ih =>
      intro acc
      rw [List.replicate_succ, List.foldl_cons]
      have e : acc.toArray ++ z = (acc ++ z.toList).toArray := by simp
      rw [e, ih]
      simp [List.replicate_succ]
  have := h m []
  rw [List.nil_append] at this
  exact this
theorem op_repS : OpR X (binaryOp .Mult) rRepS := by
  intro pins s σ H x y v u Q I rx ry h
  obtain ⟨z, k, rfl, rfl, h1, h2, h3, h4, q⟩ := h
  obtain ⟨t, rfl⟩ := rx
  obtain ⟨t', rfl⟩ := ry
  have hc : ¬ k < 1 := by omega
  have hc2 : ¬ (k == 1 || z.length == 0) = true := by
    rw [beq_eq_false_iff_ne.mpr (by omega), beq_eq_false_iff_ne.mpr (by omega)]; decide
  have hk64 : k.toNat ≤ 64 := by omega
  have hlen : z.length * k.toNat ≤ 4096 := Nat.mul_le_mul h4 hk64
  refine PySem.P.mul_str ?_ (fun _ _ => ?_) (fun _ _ => ?_) ?_
  · rw [decide_eq_false (by omega), decide_eq_false (by omega)]; rfl
  · have e2 : (64 : Int) ≤ (2 ^ 63 - 1) / k := by
      rw [Int.le_ediv_iff_mul_le (by omega)]
      omega
    omega
  · unfold Builtin.Str.tooLong
    rw [decide_eq_false]
    have : (4096 : Nat) ≤ sizeLine := by decide
    omega
  · rw [if_neg hc, if_neg hc2, rep_cps]
    refine ⟨?_, .str _, H, I.tok _, ⟨_, rfl⟩, q⟩
    show ((List.replicate k.toNat z.cps.toList).flatten.toArray).size ≤ sizeLine
    rw [List.size_toArray, PyProof.Rows.lm_len_rep_flat]
    have : (4096 : Nat) ≤ sizeLine := by decide
    have e3 : k.toNat * z.cps.toList.length = z.length * k.toNat := by
      rw [Nat.mul_comm]; rfl
    omega
end
end SwR
end

section
/-! SwRules2: sums, greatest and least of tuples; zip and enumerate of lists and tuples in any mix. -/
namespace SwR
open PySem PySem.Spec PyProof.Rows L2
section
variable {prog : Program} {w : World} {A : Around} {E : Value → Shared → Prop} {s : Shared} {l : Addr} {its : List Value} {ns : List Int} {Q : Value → Shared → Prop}
theorem old_keptT {h' : Heap} (hk : ∀ b o, b ∉ [s.heap.objs.size] → (s.heap.push { cls := .type "tuple_iterator", data := .fields #[.ref l, .int 0 0] }).get? b = some o → h'.get? b = some o) :
    ∀ b o, s.heap.get? b = some o → h'.get? b = some o := fun b o e => by
  refine hk b o (fun hm => ?_) (Heap.get?_push_of_some _ e)
  rw [List.mem_singleton] at hm
  exact absurd (hm ▸ Heap.lt_size e) (Nat.lt_irrefl _)
theorem iter_intTup {xs : Array (Int × Tok)} {Q : Value → Shared → Prop} (hl : s.heap.IsTuple l (intItems xs))
    (h : ∀ s₂ : Shared, s₂ = { s with heap := s.heap.push { cls := .type "tuple_iterator", data := .fields #[.ref l, .int 0 0] } } →
      (s₂.heap.IsTupleIter s.heap.objs.size l 0 ∧ s₂.heap.IsTuple l (intItems xs)) → (∀ b ∈ [s.heap.objs.size, l], b < s₂.heap.objs.size) → l ≠ s.heap.objs.size → Q (.ref s.heap.objs.size) s₂) :
    wpAny (model prog w) A (pyIter (.ref l)) Q E s := by
  have hlt : l < s.heap.objs.size := by obtain ⟨_, e, _⟩ := hl; exact Heap.lt_size e
  refine wpAny_pyIter_tuple hl (h _ rfl ⟨⟨_, Heap.get?_push_size _ rfl, rfl, rfl⟩, hl.push _⟩ (fun b hb => ?_) (Nat.ne_of_lt hlt))
  show b < (s.heap.push _).objs.size
  rw [Heap.size_push]
  rcases List.mem_cons.mp hb with rfl | hb
  · exact Nat.lt_succ_self _
  · rw [List.mem_singleton] at hb
    rw [hb]; exact Nat.lt_succ_of_lt hlt
theorem sum_rawT (hh : A.handled = none) (hl : s.heap.IsTuple l its.toArray) (hi : IntsAre its ns)
    (h : ∀ h' tk t', (∀ b o, s.heap.get? b = some o → h'.get? b = some o) → Q (.int ns.sum t') { s with heap := h', toks := tk }) : wpAny (model prog w) A (call (.builtin "sum") [.ref l]) Q E s := by
  obtain ⟨xs, e⟩ := hi.allInts.items
  have hn : numsOf (intItems xs).toList = ns := by rw [← e]; exact hi.numsOf
  rw [nums_intItems] at hn
  rw [e] at hl
  refine call_sum_walkG (iter_intTup hl fun s₂ e st hfp hlI => ?_)
  subst e
  refine ⟨_, _, _, _, _, _, numAt xs, rfl, Walks.tuple (A := A.in1) hh _ l hlI (intItems xs), st, hfp, (fun _ _ => intItems_at), fun h' tk t' hk => ?_⟩
  have := h h' tk t' (old_keptT hk)
  rw [show (intItems xs).size = xs.size by simp [intItems], preSum_eq, List.take_of_length_le (by simp), hn]; exact this
theorem max_rawT (hh : A.handled = none) (hl : s.heap.IsTuple l its.toArray) (hi : IntsAre its ns) (hne : 0 < ns.length)
    (h : ∀ h' tk M t', (∀ b o, s.heap.get? b = some o → h'.get? b = some o) → M ∈ ns → (∀ a, a ∈ ns → a ≤ M) → Q (.int M t') { s with heap := h', toks := tk }) : wpAny (model prog w) A (call (.builtin "max") [.ref l]) Q E s := by
  obtain ⟨xs, e⟩ := hi.allInts.items
  have hn : numsOf (intItems xs).toList = ns := by rw [← e]; exact hi.numsOf
  rw [nums_intItems] at hn
  subst hn
  rw [e] at hl
  have hsz : 0 < xs.size := by simpa using hne
  refine call_max_walk (iter_intTup hl fun s₂ e st hfp hlI => ?_)
  subst e
  refine ⟨_, _, _, _, _, _, _, rfl, Walks.tuple (A := A.in1) hh _ l hlI (intItems xs), st, hfp, by simpa [intItems] using hsz, CmpOf.ints_gt (numAt xs) (fun _ _ => intItems_at), fun v h' tk hP hk => ?_⟩
  have hv : (intItems xs)[argBest (fun i j => decide (numAt xs i > numAt xs j)) (xs.size - 1)]? = some v := by simpa [intItems] using hP
  obtain ⟨t, rfl⟩ := intItems_at hv
  obtain ⟨h1, h2⟩ := argBest_gt (numAt xs) (xs.size - 1)
  refine h h' tk _ t (old_keptT hk) ?_ fun a ha => ?_
  · rw [numAt_eq]; exact PySem.getD_mem (by rw [List.length_map, Array.length_toList]; omega)
  · obtain ⟨j, hj, rfl⟩ := mem_getD ha
    rw [List.length_map, Array.length_toList] at hj
    rw [← numAt_eq]; exact h2 j (by omega)
theorem min_rawT (hh : A.handled = none) (hl : s.heap.IsTuple l its.toArray) (hi : IntsAre its ns) (hne : 0 < ns.length)
    (h : ∀ h' tk M t', (∀ b o, s.heap.get? b = some o → h'.get? b = some o) → M ∈ ns → (∀ a, a ∈ ns → M ≤ a) → Q (.int M t') { s with heap := h', toks := tk }) : wpAny (model prog w) A (call (.builtin "min") [.ref l]) Q E s := by
  obtain ⟨xs, e⟩ := hi.allInts.items
  have hn : numsOf (intItems xs).toList = ns := by rw [← e]; exact hi.numsOf
  rw [nums_intItems] at hn
  subst hn
  rw [e] at hl
  have hsz : 0 < xs.size := by simpa using hne
  refine call_min_walk (iter_intTup hl fun s₂ e st hfp hlI => ?_)
  subst e
  refine ⟨_, _, _, _, _, _, _, rfl, Walks.tuple (A := A.in1) hh _ l hlI (intItems xs), st, hfp, by simpa [intItems] using hsz, CmpOf.ints_lt (numAt xs) (fun _ _ => intItems_at), fun v h' tk hP hk => ?_⟩
  have hv : (intItems xs)[argBest (fun i j => decide (numAt xs i < numAt xs j)) (xs.size - 1)]? = some v := by simpa [intItems] using hP
  obtain ⟨t, rfl⟩ := intItems_at hv
  obtain ⟨h1, h2⟩ := argBest_lt (numAt xs) (xs.size - 1)
  refine h h' tk _ t (old_keptT hk) ?_ fun a ha => ?_
  · rw [numAt_eq]; exact PySem.getD_mem (by rw [List.length_map, Array.length_toList]; omega)
  · obtain ⟨j, hj, rfl⟩ := mem_getD ha
    rw [List.length_map, Array.length_toList] at hj
    rw [← numAt_eq]; exact h2 j (by omega)
end
section
variable {X : Cx}
def rSumT (K : PySem.W.Frag) : List V → Hp → VK → Prop := fun vs H Q => ∃ (a : Addr) (ns : List Int), vs = [V.ref a] ∧ SqT K H a (ns.map V.int) ∧ Q (.int ns.sum) H
def rMaxT (K : PySem.W.Frag) : List V → Hp → VK → Prop := fun vs H Q => ∃ (a : Addr) (ns : List Int), vs = [V.ref a] ∧ SqT K H a (ns.map V.int) ∧ 0 < ns.length ∧ ∀ m, m ∈ ns → (∀ y, y ∈ ns → y ≤ m) → Q (.int m) H
def rMinT (K : PySem.W.Frag) : List V → Hp → VK → Prop := fun vs H Q => ∃ (a : Addr) (ns : List Int), vs = [V.ref a] ∧ SqT K H a (ns.map V.int) ∧ 0 < ns.length ∧ ∀ m, m ∈ ns → (∀ y, y ∈ ns → m ≤ y) → Q (.int m) H
theorem cr_sumT (hc : X.calm = true) : CallR X (.builtin "sum") (rSumT X.K) := by
  intro pins s σ H vs us Q I r h
  obtain ⟨a, ns, rfl, hs, q⟩ := h
  obtain ⟨its, rv, hl, _⟩ := I.tuple hs
  rw [Vals.ref1 r]
  exact sum_rawT (I.ok.hd hc) hl rv.ints fun h' tk t' hk => ⟨.int _, H, I.kept hk, ⟨_, rfl⟩, q⟩
theorem cr_maxT (hc : X.calm = true) : CallR X (.builtin "max") (rMaxT X.K) := by
  intro pins s σ H vs us Q I r h
  obtain ⟨a, ns, rfl, hs, hne, q⟩ := h
  obtain ⟨its, rv, hl, _⟩ := I.tuple hs
  rw [Vals.ref1 r]
  exact max_rawT (I.ok.hd hc) hl rv.ints hne fun h' tk m t' hk h1 h2 => ⟨.int _, H, I.kept hk, ⟨_, rfl⟩, q m h1 h2⟩
theorem cr_minT (hc : X.calm = true) : CallR X (.builtin "min") (rMinT X.K) := by
  intro pins s σ H vs us Q I r h
  obtain ⟨a, ns, rfl, hs, hne, q⟩ := h
  obtain ⟨its, rv, hl, _⟩ := I.tuple hs
  rw [Vals.ref1 r]
  exact min_rawT (I.ok.hd hc) hl rv.ints hne fun h' tk m t' hk h1 h2 => ⟨.int _, H, I.kept hk, ⟨_, rfl⟩, q m h1 h2⟩
end
/-! ### lists and tuples alike: t tells a tuple -/
def SqK (t : Bool) (K : PySem.W.Frag) (H : Hp) (a : Addr) (xs : List V) : Prop := match t with
  | true => SqT K H a xs
  | false => SqL K H a xs
def ItK (t : Bool) (h : Heap) (it a : Addr) (i : Nat) : Prop := match t with
  | true => h.IsTupleIter it a i
  | false => h.IsListIter it a i
def SeK (t : Bool) (h : Heap) (a : Addr) (items : Array Value) : Prop := match t with
  | true => h.IsTuple a items
  | false => h.IsList a items
def itO (t : Bool) (a : Addr) : Obj := match t with
  | true => { cls := .type "tuple_iterator", data := .fields #[.ref a, .int 0 0] }
  | false => { cls := .type "list_iterator", data := .fields #[.ref a, .int 0 0] }
theorem seK_of {X : Cx} {pins : List (Addr × Obj)} {σ : L2.St} {H : Hp} {s : Shared} {t : Bool} {a : Addr} {xs : List V} (I : Inv X pins σ H s) (h : SqK t X.K H a xs) : ∃ its : List Value, Vals xs its ∧ SeK t s.heap a its.toArray ∧ a < s.heap.objs.size := by
  cases t with
  | true =>
    obtain ⟨its, r, p, _⟩ := I.tuple h
    exact ⟨its, r, p, p.lt⟩
  | false =>
    obtain ⟨its, r, p, _⟩ := I.list h
    exact ⟨its, r, p.isList, p.lt⟩
theorem seK_inj {X : Cx} {pins : List (Addr × Obj)} {σ : L2.St} {H : Hp} {s : Shared} {t : Bool} {a : Addr} {xs ys : List V} (I : Inv X pins σ H s) (h : SqK t X.K H a xs) (h' : SqK t X.K H a ys) : xs = ys := by
  cases t with
  | true => exact I.tuple_inj h h'
  | false => exact I.list_inj h h'
theorem drawsK {prog : Program} {w : World} {A : Around} (t : Bool) (hh : A.handled = none) (it a : Addr) (hne : a ≠ it) (items : Array Value) :
    Draws prog w A it [it, a] items.size (fun i v => items[i]? = some v) (fun i h => ItK t h it a i ∧ SeK t h a items) := by
  cases t with
  | true => exact Draws.tuple hh it a hne items
  | false => exact Draws.list hh it a hne items
theorem begK (t : Bool) (a : Addr) (items : Array Value) : Begins (.ref a) (itO t a) fun h => SeK t h a items := by
  cases t with
  | true => exact begins_tuple a items
  | false => exact begins_list a items
theorem itK_of {t : Bool} {h : Heap} {it a : Addr} (e : h.get? it = some (itO t a)) : ItK t h it a 0 := by
  cases t with
  | true => exact ⟨_, e, rfl, rfl⟩
  | false => exact ⟨_, e, rfl, rfl⟩
theorem itK_obj {t : Bool} {h : Heap} {it a : Addr} {i : Nat} (x : ItK t h it a i) : ∃ o, h.get? it = some o ∧ ∀ v, o.data ≠ .cell v := by
  cases t with
  | true => obtain ⟨o, e, _, d⟩ := x; exact ⟨o, e, fun v q => by rw [d] at q; cases q⟩
  | false => obtain ⟨o, e, _, d⟩ := x; exact ⟨o, e, fun v q => by rw [d] at q; cases q⟩
theorem itK_at {t : Bool} {h h' : Heap} {it a : Addr} {i : Nat} (x : ItK t h it a i) (k : ∀ o, h.get? it = some o → h'.get? it = some o) : ItK t h' it a i := by
  cases t with
  | true => exact Heap.IsTupleIter.at x k
  | false => exact Heap.IsListIter.at x k
/-! ### enumerate -/
def ItE (K : PySem.W.Frag) (t : Bool) (a : Addr) : L2.It :=
  ⟨fun i H => ∃ (xs : List V) (x : V), SqK t K H a xs ∧ xs[i]? = some x, fun i H v H' => ∃ T x, v = .ref T ∧ H T = none ∧ H' = upd H T (.tup [.int (i : Nat), x]) ∧ ∀ xs, SqK t K H a xs → xs[i]? = some x, fun i H => ∃ xs : List V, SqK t K H a xs ∧ xs.length = i⟩
theorem turn_enumK {P : Program} {w : World} {K : PySem.W.Frag} {elts : List Expr} {kk : Nat} {tpos : Pos} (t : Bool) (a e it : Addr) (hei : e ≠ it) (hea : a < it ∧ a < e) :
    Turn P w K (.Tuple elts kk tpos) (ItE K t a) [e, it] e (fun i h => (∃ old, IsEnum h e it ((0 : Int) + (i : Int)) old) ∧ ItK t h it a i) where
  mem := by simp
  obj := fun i h st b hb => by
    obtain ⟨⟨old, he⟩, hi⟩ := st
    have e' : b = e ∨ b = it := by simpa using hb
    rcases e' with z | z
    · rw [z]; exact ⟨_, he, fun v q => nomatch q⟩
    · rw [z]; exact itK_obj hi
  keep := fun i h h' st k => let ⟨⟨old, he⟩, hi⟩ := st; ⟨⟨old, k e (by simp) _ he⟩, itK_at hi fun o q => k it (by simp) o q⟩
  item := by
    intro X hP hw hK hc i pins s σ H E I hf st hg
    subst hP hw hK
    obtain ⟨he, hit⟩ := st
    obtain ⟨xs, x, hq, hx⟩ := hg
    obtain ⟨its, rv, p, pl⟩ := seK_of I hq
    obtain ⟨u, hu, ru⟩ := rv.get hx
    have hlen := rv.length
    have hi : i < its.toArray.size := by
      rw [List.size_toArray, ← hlen]
      exact (List.getElem?_eq_some_iff.mp hx).1
    have hh : X.A.in1.handled = none := I.ok.hd hc
    have Gz := GoesN.enumFrom (elts := elts) (x1 := kk) (pos := tpos) (A := X.A) (0 : Int) (drawsK (prog := X.prog) (w := X.w) (A := X.A.in1) t hh it a (Nat.ne_of_lt hea.1) its.toArray) e hei
      (by simp only [List.mem_cons, List.not_mem_nil, or_false]; rintro (z | z); exact hei z; exact Nat.ne_of_gt hea.2 z) (by simp)
    refine Gz.goes i s _ E hi ⟨he, hit, p⟩ fun v h' tk hY st' hk htk => ?_
    obtain ⟨T, tt, y, rfl, hT, hy, hTup⟩ := hY
    have ey : y = u := by
      have : its.toArray[i]? = some u := by simpa using hu
      rw [this] at hy
      exact (Option.some.inj hy).symm
    subst ey
    have new : ObjOk X.prog X.w (upd H T (.tup [.int (i : Nat), x])) h' T (.tup [.int (i : Nat), x]) :=
      ⟨by show 2 ≤ sizeLine; decide, [.int ((0 : Int) + (i : Int)) tt, y], .cons ⟨tt, by rw [Int.zero_add]⟩ (.cons ru .nil), hTup⟩
    have I1 : Inv X pins σ (upd H T (.tup [.int (i : Nat), x])) { s with heap := h', toks := tk } :=
      I.turnedNew (ch := [e, it]) (fun b ob hb q => hk b ob hb q) hf hT new
    refine ⟨.ref T, _, I1, rfl, ⟨T, x, rfl, I.hok.fresh hT, rfl, fun ys hy => by rw [seK_inj I hy hq]; exact hx⟩, ⟨st'.1, st'.2.1⟩, fun b hb => ?_⟩
    have hb' : b < s.heap.objs.size := by
      have e' : b = e ∨ b = it := by simpa using hb
      rcases e' with z | z
      · obtain ⟨old, he⟩ := he; rw [z]; exact Heap.lt_size he
      · obtain ⟨o, eo, _⟩ := itK_obj hit; rw [z]; exact Heap.lt_size eo
    rw [upd_ne (Nat.ne_of_lt (Nat.lt_of_lt_of_le hb' hT))]
    exact (hf b hb).1
  done := by
    intro X hP hw hK hc i pins s σ H E I hf st hg
    subst hP hw hK
    obtain ⟨he, hit⟩ := st
    obtain ⟨xs, hq, hx⟩ := hg
    obtain ⟨its, rv, p, pl⟩ := seK_of I hq
    have hlen := rv.length
    have hh : X.A.in1.handled = none := I.ok.hd hc
    have Gz := GoesN.enumFrom (elts := elts) (x1 := kk) (pos := tpos) (A := X.A) (0 : Int) (drawsK (prog := X.prog) (w := X.w) (A := X.A.in1) t hh it a (Nat.ne_of_lt hea.1) its.toArray) e hei
      (by simp only [List.mem_cons, List.not_mem_nil, or_false]; rintro (z | z); exact hei z; exact Nat.ne_of_gt hea.2 z) (by simp)
    have ei : i = its.toArray.size := by rw [List.size_toArray, ← hlen, hx]
    subst ei
    refine Gz.stops s _ E ⟨he, hit, p⟩ fun h' tk hk htk => ?_
    exact I.turnedL (t' := tk) (ch := [e, it]) (fun b o hb q => hk b o hb q) hf
  self := fun A i s Q E st h => let ⟨⟨_, he⟩, _⟩ := st; wpAny_pyIter_enum he h
open AutoSeq1 (wpAny_loadPart') in
theorem meets_enum_newB {v : Value} {o : Obj} {H : Heap → Prop} (B : Begins v o H) :
    Meets (Builtin.«enumerate.__new__» ⟨[.type "enumerate", v], []⟩) (fun _ R s => H s.heap ∧
      R (.ok (.ret (.ref (s.heap.push o).objs.size))) { s with heap := (s.heap.push o).push { cls := .type "enumerate", data := .fields #[.none, .bool false, .ref s.heap.objs.size, rawInt 0, .none, .none] } }) :=
  .of_wp fun prog w A R s h => by
    obtain ⟨hp, g, d, tk, os⟩ := s; obtain ⟨h1, h⟩ := h
    have hsub := sub_enumerate
    have q1 : ∀ {A' : Around} {E : Value → Shared → Prop} {Q : Value → Shared → Prop}, Q (.ref hp.objs.size) ⟨(hp.push o), g, d, tk, os⟩ → wpAny (model prog w) A' (pyIter v) Q E ⟨hp, g, d, tk, os⟩ :=
      fun q => B.iter prog w _ _ ⟨hp, g, d, tk, os⟩ _ (B.keeps _ _ h1 fun b o' e => e) q
    wp_walk using q1
    refine wpAny_stack_any fun st => wpAny_pure ?_
    split
    · rename_i c _ _ _ _ _
      cases (c == Value.type "enumerate")
      · wp_walk using q1
        exact ⟨_, rfl, h⟩
      · wp_walk using q1
        exact ⟨_, rfl, h⟩
    · wp_walk using q1
      exact ⟨_, rfl, h⟩
theorem call_enumB {prog : Program} {w : World} {A : Around} {E : Value → Shared → Prop} {s : Shared} {v : Value} {o : Obj} {H : Heap → Prop} {Q : Value → Shared → Prop} (B : Begins v o H) (h1 : H s.heap)
    (h : ∀ h', IsEnum h' (s.heap.objs.size + 1) s.heap.objs.size 0 .none → h'.get? s.heap.objs.size = some o → h'.objs.size = s.heap.objs.size + 2 →
      (∀ b o, s.heap.get? b = some o → h'.get? b = some o) → Q (.ref (s.heap.objs.size + 1)) { s with heap := h' }) :
    wpAny (model prog w) A (call (.type "enumerate") [v]) Q E s := by
  refine callType_new F.called_enumerate (by decide) (F.typeCall_enumerate_1 _) (F.newCall_enumerate_1 _) (fun obj => F.args_object_init_2 obj _) F.entry_enumerate_new
    (meets_enum_newB B) ⟨h1, ?_⟩
  have hz : (s.heap.push o).objs.size = s.heap.objs.size + 1 := Heap.size_push ..
  show _ ∧ _
  rw [hz]
  have he : IsEnum ((s.heap.push o).push { cls := .type "enumerate", data := .fields #[.none, .bool false, .ref s.heap.objs.size, rawInt 0, .none, .none] }) (s.heap.objs.size + 1) s.heap.objs.size 0 .none := by
    have := Heap.get?_push_size (s.heap.push o) (o := { cls := .type "enumerate", data := .fields #[.none, .bool false, .ref s.heap.objs.size, rawInt 0, .none, .none] }) rfl
    rw [hz] at this; exact this
  exact ⟨⟨_, he, rfl⟩, h _ he (Heap.get?_push_of_some _ (Heap.get?_push_size _ B.free)) (by rw [Heap.size_push, hz]) fun b o x => Heap.get?_push_of_some _ (Heap.get?_push_of_some _ x)⟩
def iEnumK (K : PySem.W.Frag) (ta : TA) : TI := fun σ H R => ta σ H fun vs H1 => ∃ t a xs, vs = [.ref a] ∧ SqK t K H1 a xs ∧ R (ItE K t a) H1
theorem pi_enumK {X : Cx} {e : Expr} {ta : TA} {p pos tpos : Pos} {elts : List Expr} {kk : Nat} (hg : Gl X "enumerate") (hm : X.mg "enumerate" = none) (ha : PA X [e] ta) (hs : starEach [e] X.env = [(false, eval e X.env)] := by rfl) :
    PI X (.Tuple elts kk tpos) (.Call (.Name "enumerate" p) [e] [] pos) (iEnumK X.K ta) := by
  refine ⟨fun pins s σ H R I h => ?_⟩
  refine Call_ (ld_blt I hg hm boot_enumerate (PyProof.Rows.callWith_type1 (thn (ha.run pos pins s σ H _ I h) fun us s1 ⟨vs, H1, I1, r1, q1⟩ => ?_) hs rfl))
  obtain ⟨t, a, xs, ex, hq, q⟩ := q1
  subst ex
  cases r1 with
  | cons r rr =>
    cases rr
    cases r
    obtain ⟨its, rv, p', pl⟩ := seK_of I1 hq
    refine call_enumB (begK t a its.toArray) p' fun h' he hit hsz hk => wpAny_pyIter_enum he ?_
    have I2 : Inv X pins σ H1 { s1 with heap := h' } := I1.kept (t' := s1.toks) hk
    refine ⟨s1.heap.objs.size + 1, [s1.heap.objs.size + 1, s1.heap.objs.size], _, _, H1, rfl, I2, turn_enumK t a (s1.heap.objs.size + 1) s1.heap.objs.size (Nat.succ_ne_self _) ⟨pl, Nat.lt_succ_of_lt pl⟩, ⟨⟨.none, he⟩, itK_of hit⟩, fun b hb => ?_, q⟩
    have e' : b = s1.heap.objs.size + 1 ∨ b = s1.heap.objs.size := by simpa using hb
    have hle : s1.heap.objs.size ≤ b := by
      rcases e' with z | z
      · rw [z]; exact Nat.le_add_right _ _
      · rw [z]; exact Nat.le_refl _
    exact I1.fpOk hle (I1.hok.fresh hle)
/-! ### zip -/
def ItZ (K : PySem.W.Frag) (t1 t2 : Bool) (a b : Addr) : L2.It :=
  ⟨fun i H => ∃ (xs ys : List V) (x y : V), SqK t1 K H a xs ∧ SqK t2 K H b ys ∧ xs[i]? = some x ∧ ys[i]? = some y,
    fun i H v H' => ∃ T x y, v = .ref T ∧ H T = none ∧ H' = upd H T (.tup [x, y]) ∧ (∀ xs, SqK t1 K H a xs → xs[i]? = some x) ∧ ∀ ys, SqK t2 K H b ys → ys[i]? = some y,
    fun i H => ∃ xs ys : List V, SqK t1 K H a xs ∧ SqK t2 K H b ys ∧ i = min xs.length ys.length⟩
theorem turn_zipK {P : Program} {w : World} {K : PySem.W.Frag} {elts : List Expr} {kk : Nat} {tpos : Pos} {t1 t2 : Bool} {a b z TI TO i1 i2 : Addr} (D : ZipSep2 z TI TO i1 i2 [i1, a] [i2, b]) (d1 : a ≠ i1) (d2 : b ≠ i2) :
    Turn P w K (.Tuple elts kk tpos) (ItZ K t1 t2 a b) [z, TI, TO, i1, i2] z (fun i h => IsZip h z TI TO .none ∧ IsTupOf2 h TI (.ref i1) (.ref i2) ∧ (∃ x y, IsTupOf2 h TO x y) ∧ ItK t1 h i1 a i ∧ ItK t2 h i2 b i) where
  mem := by simp
  obj := fun i h st c hc => by
    obtain ⟨hz, hTI, ⟨x, y, hTO⟩, h1, h2⟩ := st
    have e' : c = z ∨ c = TI ∨ c = TO ∨ c = i1 ∨ c = i2 := by simpa using hc
    rcases e' with q | q | q | q | q
    · rw [q]; exact ⟨_, hz, fun v q => nomatch q⟩
    · rw [q]; exact ⟨_, hTI, fun v q => nomatch q⟩
    · rw [q]; exact ⟨_, hTO, fun v q => nomatch q⟩
    · rw [q]; exact itK_obj h1
    · rw [q]; exact itK_obj h2
  keep := fun i h h' st k => by
    obtain ⟨hz, hTI, ⟨x, y, hTO⟩, h1, h2⟩ := st
    exact ⟨k z (by simp) _ hz, k TI (by simp) _ hTI, ⟨x, y, k TO (by simp) _ hTO⟩, itK_at h1 fun o q => k i1 (by simp) o q, itK_at h2 fun o q => k i2 (by simp) o q⟩
  item := by
    intro X hP hw hK hc i pins s σ H E I hf st hg
    subst hP hw hK
    obtain ⟨hz, hTI, hTO, h1, h2⟩ := st
    obtain ⟨xs, ys, x, y, hqx, hqy, hx, hy⟩ := hg
    obtain ⟨its, rv, p, pl⟩ := seK_of I hqx
    obtain ⟨its2, rv2, p2, pl2⟩ := seK_of I hqy
    obtain ⟨u, hu, ru⟩ := rv.get hx
    obtain ⟨u2, hu2, ru2⟩ := rv2.get hy
    have l1 := rv.length
    have l2 := rv2.length
    have hi : i < min its.toArray.size its2.toArray.size := by
      rw [List.size_toArray, List.size_toArray, ← l1, ← l2]
      have := (List.getElem?_eq_some_iff.mp hx).1
      have := (List.getElem?_eq_some_iff.mp hy).1
      omega
    have hh : X.A.in1.handled = none := I.ok.hd hc
    have Gz := GoesN.zip2 (elts := elts) (x1 := kk) (pos := tpos) (A := X.A) D (drawsK (prog := X.prog) (w := X.w) (A := X.A.in1) t1 hh i1 a d1 its.toArray) (drawsK (prog := X.prog) (w := X.w) (A := X.A.in1) t2 hh i2 b d2 its2.toArray)
    refine Gz.goes i s _ E hi ⟨hz, hTI, hTO, ⟨h1, p⟩, ⟨h2, p2⟩⟩ fun v h' tk hY st' hk htk => ?_
    obtain ⟨T, v1, v2, rfl, hT, hv1, hv2, hTup⟩ := hY
    have e1 : v1 = u := by
      have : its.toArray[i]? = some u := by simpa using hu
      rw [this] at hv1
      exact (Option.some.inj hv1).symm
    have e2 : v2 = u2 := by
      have : its2.toArray[i]? = some u2 := by simpa using hu2
      rw [this] at hv2
      exact (Option.some.inj hv2).symm
    subst e1 e2
    have new : ObjOk X.prog X.w (upd H T (.tup [x, y])) h' T (.tup [x, y]) :=
      ⟨by show 2 ≤ sizeLine; decide, [v1, v2], .cons ru (.cons ru2 .nil), hTup⟩
    have I1 : Inv X pins σ (upd H T (.tup [x, y])) { s with heap := h', toks := tk } :=
      I.turnedNew (ch := [z, TO, i1, i2]) (fun b ob hb q => hk b ob hb q) (fun b hb => hf b (by
        have e' : b = z ∨ b = TO ∨ b = i1 ∨ b = i2 := by simpa using hb
        rcases e' with q | q | q | q <;> simp [q])) hT new
    refine ⟨.ref T, _, I1, rfl, ⟨T, x, y, rfl, I.hok.fresh hT, rfl, fun l hl => by rw [seK_inj I hl hqx]; exact hx, fun l hl => by rw [seK_inj I hl hqy]; exact hy⟩, ⟨st'.1, st'.2.1, st'.2.2.1, st'.2.2.2.1.1, st'.2.2.2.2.1⟩, fun c hcm => ?_⟩
    have hlt : c < s.heap.objs.size := by
      have e' : c = z ∨ c = TI ∨ c = TO ∨ c = i1 ∨ c = i2 := by simpa using hcm
      rcases e' with q | q | q | q | q
      · rw [q]; exact Heap.lt_size hz
      · rw [q]; exact Heap.lt_size hTI
      · obtain ⟨_, _, hTO⟩ := hTO; rw [q]; exact Heap.lt_size hTO
      · obtain ⟨o, eo, _⟩ := itK_obj h1; rw [q]; exact Heap.lt_size eo
      · obtain ⟨o, eo, _⟩ := itK_obj h2; rw [q]; exact Heap.lt_size eo
    rw [upd_ne (Nat.ne_of_lt (Nat.lt_of_lt_of_le hlt hT))]
    exact (hf c hcm).1
  done := by
    intro X hP hw hK hc i pins s σ H E I hf st hg
    subst hP hw hK
    obtain ⟨hz, hTI, hTO, h1, h2⟩ := st
    obtain ⟨xs, ys, hqx, hqy, hend⟩ := hg
    obtain ⟨its, rv, p, pl⟩ := seK_of I hqx
    obtain ⟨its2, rv2, p2, pl2⟩ := seK_of I hqy
    have l1 := rv.length
    have l2 := rv2.length
    have hh : X.A.in1.handled = none := I.ok.hd hc
    have Gz := GoesN.zip2 (elts := elts) (x1 := kk) (pos := tpos) (A := X.A) D (drawsK (prog := X.prog) (w := X.w) (A := X.A.in1) t1 hh i1 a d1 its.toArray) (drawsK (prog := X.prog) (w := X.w) (A := X.A.in1) t2 hh i2 b d2 its2.toArray)
    have ei : i = min its.toArray.size its2.toArray.size := by rw [List.size_toArray, List.size_toArray, ← l1, ← l2, hend]
    subst ei
    refine Gz.stops s _ E ⟨hz, hTI, hTO, ⟨h1, p⟩, ⟨h2, p2⟩⟩ fun h' tk hk htk => ?_
    exact I.turnedL (t' := tk) (ch := [z, TO, i1, i2]) (fun b o hb q => hk b o hb q) fun b hb => hf b (by
        have e' : b = z ∨ b = TO ∨ b = i1 ∨ b = i2 := by simpa using hb
        rcases e' with q | q | q | q <;> simp [q])
  self := fun A i s Q E st h => wpAny_pyIter_zip st.1 h
def iZipK (K : PySem.W.Frag) (ta : TA) : TI := fun σ H R => ta σ H fun vs H1 => ∃ t1 t2 a b xs ys, vs = [.ref a, .ref b] ∧ SqK t1 K H1 a xs ∧ SqK t2 K H1 b ys ∧ R (ItZ K t1 t2 a b) H1
theorem pi_zipK {X : Cx} {e e2 : Expr} {ta : TA} {p pos tpos : Pos} {elts : List Expr} {kk : Nat} (hg : Gl X "zip") (hm : X.mg "zip" = none) (ha : PA X [e, e2] ta)
    (hs : starEach [e, e2] X.env = (false, eval e X.env) :: starEach [e2] X.env := by rfl) (hpl : (backTo pos (starEach [e2] X.env)).any (·.1) = false := by rfl) :
    PI X (.Tuple elts kk tpos) (.Call (.Name "zip" p) [e, e2] [] pos) (iZipK X.K ta) := by
  refine ⟨fun pins s σ H R I h => ?_⟩
  refine Call_ (ld_blt I hg hm PyProof.Rows.boot_zip (PyProof.Rows.callWith_type1 (thn (ha.run pos pins s σ H _ I h) fun us s1 ⟨vs, H1, I1, r1, q1⟩ => ?_) hs hpl))
  obtain ⟨t1, t2, a, b, xs, ys, ex, hqx, hqy, q⟩ := q1
  subst ex
  cases r1 with
  | cons r rr =>
    cases rr with
    | cons r' rr =>
      cases rr
      cases r
      cases r'
      obtain ⟨its, rv, p1, la⟩ := seK_of I1 hqx
      obtain ⟨its2, rv2, p2, lb⟩ := seK_of I1 hqy
      refine zip_begins2 (begK t1 a its.toArray) (begK t2 b its2.toArray) p1 p2 fun h' hz hTI hTO h1 h2 hsz hk => wpAny_pyIter_zip hz ?_
      have I2 : Inv X pins σ H1 { s1 with heap := h' } := I1.kept (t' := s1.toks) hk
      have D : ZipSep2 (s1.heap.objs.size + 4) (s1.heap.objs.size + 2) (s1.heap.objs.size + 3) s1.heap.objs.size (s1.heap.objs.size + 1) [s1.heap.objs.size, a] [s1.heap.objs.size + 1, b] :=
        zip_sep2 (fp1 := [a]) (fp2 := [b]) (fun c hc => by rw [List.mem_singleton] at hc; rw [hc]; exact la) (fun c hc => by rw [List.mem_singleton] at hc; rw [hc]; exact lb)
      refine ⟨s1.heap.objs.size + 4, [s1.heap.objs.size + 4, s1.heap.objs.size + 2, s1.heap.objs.size + 3, s1.heap.objs.size, s1.heap.objs.size + 1], _, _, H1, rfl, I2, turn_zipK D (Nat.ne_of_lt la) (Nat.ne_of_lt (Nat.lt_succ_of_lt lb)), ⟨hz, hTI, ⟨_, _, hTO⟩, itK_of h1, itK_of h2⟩, fun c hcm => ?_, q⟩
      have e' : c = s1.heap.objs.size + 4 ∨ c = s1.heap.objs.size + 2 ∨ c = s1.heap.objs.size + 3 ∨ c = s1.heap.objs.size ∨ c = s1.heap.objs.size + 1 := by simpa using hcm
      have hle : s1.heap.objs.size ≤ c := by
        rcases e' with z | z | z | z | z
        · rw [z]; exact Nat.le_add_right _ _
        · rw [z]; exact Nat.le_add_right _ _
        · rw [z]; exact Nat.le_add_right _ _
        · rw [z]; exact Nat.le_refl _
        · rw [z]; exact Nat.le_add_right _ _
      exact I1.fpOk hle (I1.hok.fresh hle)
end SwR
end

section
/-! SwOps: the operations on values, against the layer's rules. -/
namespace Sw
open PySem L2
/-- a value as a builtin sees it -/
def RvD (G : Gx) (μ : Mu) (H : Hp) : Val → V → Prop
  | .lst xs, x => ∃ a ys, x = .ref a ∧ H a = some (.lst ys) ∧ RvPs G μ H xs ys
  | v, x => Rv G μ H v x
section
variable {G : Gx} {μ : Mu} {st : Store} {H : Hp} {v : Val} {x : V}
theorem Rv.d (h : Rv G μ H v x) : RvD G μ H v x := by
  cases v <;> first | exact h | skip
  obtain ⟨a, ys, e, h1, _, h2⟩ := (show RvP G μ H _ x from h)
  exact ⟨a, ys, e, h1, h2⟩
theorem StOk.deref (S : StOk G μ st H) (h : Rv G μ H v x) : RvD G μ H (deref st v) x := by
  cases v with
  | box n =>
    obtain ⟨p, h1, e⟩ := h
    cases hs : st[n]? with
    | none => simp only [Sw.deref, hs]; exact ⟨p, h1, e⟩
    | some c =>
      cases c with
      | list xs =>
        obtain ⟨_, ys, h2, h3⟩ := S.cell n p _ h1 hs
        simp only [Sw.deref, hs]
        exact ⟨_, ys, e, h2, h3⟩
      | tun _ _ _ => simp only [Sw.deref, hs]; exact ⟨p, h1, e⟩
  | _ => exact h.d
end
/-! ### data -/
mutual
def toD : Val → PyData
  | .bl b => .bool b
  | .int i => .int i
  | .str s => .str s
  | .tup xs => .tuple (toDs xs)
  | .lst xs => .list (toDs xs)
  | _ => .none
def toDs : List Val → List PyData
  | [] => []
  | x :: xs => toD x :: toDs xs
end
theorem ascii_ok {x : Str} (h : x.cps.toList.all (· < 128) = true) : PyData.strOk x = true := by
  unfold PyData.strOk
  rw [← Array.all_toList]
  rw [List.all_eq_true] at h ⊢
  intro c hc
  have := h c hc
  simp at this ⊢
  omega
mutual
theorem dat_lay : ∀ (n : Nat) (v : Val), dat n v = true → (toD v).canLay0 = true ∧ (toD v).depth ≤ n
  | n, .non, _ => by simp [toD, PyData.canLay0, PyData.depth]
  | n, .bl _, _ => by simp [toD, PyData.canLay0, PyData.depth]
  | n, .int _, _ => by simp [toD, PyData.canLay0, PyData.depth]
  | n, .str x, h => by
    simp only [dat] at h
    exact ⟨by simp only [toD, PyData.canLay0]; exact ascii_ok h, by simp [toD, PyData.depth]⟩
  | 0, .tup xs, h => by simp [dat] at h
  | n + 1, .tup xs, h => by
    simp only [dat] at h
    obtain ⟨h1, h2⟩ := dats_lay n xs h
    exact ⟨by simp only [toD, PyData.canLay0]; exact h1, by simp only [toD, PyData.depth]; omega⟩
  | 0, .lst xs, h => by simp [dat] at h
  | n + 1, .lst xs, h => by
    simp only [dat] at h
    obtain ⟨h1, h2⟩ := dats_lay n xs h
    exact ⟨by simp only [toD, PyData.canLay0]; exact h1, by simp only [toD, PyData.depth]; omega⟩
  | n, .slst _, h => by cases n <;> simp [dat] at h
  | n, .fn _, h => by cases n <;> simp [dat] at h
  | n, .box _, h => by cases n <;> simp [dat] at h
theorem dats_lay : ∀ (n : Nat) (vs : List Val), vs.all (dat n) = true → PyData.canLayAll0 (toDs vs) = true ∧ PyData.depthAll (toDs vs) ≤ n
  | n, [], _ => by simp [toDs, PyData.canLayAll0, PyData.depthAll]
  | n, v :: vs, h => by
    simp only [List.all_cons, Bool.and_eq_true] at h
    obtain ⟨a1, a2⟩ := dat_lay n v h.1
    obtain ⟨b1, b2⟩ := dats_lay n vs h.2
    exact ⟨by simp only [toDs, PyData.canLayAll0, a1, b1]; rfl, by simp only [toDs, PyData.depthAll]; omega⟩
end
theorem dat_shaped {v : Val} (h : dat 8 v = true) : SeqAt.shaped (toD v) = true := by
  obtain ⟨h1, h2⟩ := dat_lay 8 v h
  unfold SeqAt.shaped
  rw [h1, decide_eq_true (by omega)]; rfl
mutual
theorem veq_eqv : ∀ (n : Nat) (v w : Val), dat n v = true → dat n w = true → PyData.eqv (toD v) (toD w) = veq v w
  | n, .non, w, _, h => by cases w <;> first | (simp [toD, PyData.eqv, veq]; done) | (cases n <;> simp [dat] at h; done)
  | n, .bl _, w, _, h => by cases w <;> first | (simp [toD, PyData.eqv, veq]; done) | (cases n <;> simp [dat] at h; done)
  | n, .int _, w, _, h => by cases w <;> first | (simp [toD, PyData.eqv, veq]; done) | (cases n <;> simp [dat] at h; done)
  | n, .str _, w, _, h => by cases w <;> first | (simp [toD, PyData.eqv, veq]; done) | (cases n <;> simp [dat] at h; done)
  | 0, .tup xs, w, h, _ => by simp [dat] at h
  | n + 1, .tup xs, w, h, h' => by
    cases w <;> first | (simp [toD, PyData.eqv, veq]; done) | (simp [dat] at h'; done) | skip
    simp only [dat] at h h'
    simp only [toD, PyData.eqv, veq]
    exact veqs_eqv n xs _ h h'
  | 0, .lst xs, w, h, _ => by simp [dat] at h
  | n + 1, .lst xs, w, h, h' => by
    cases w <;> first | (simp [toD, PyData.eqv, veq]; done) | (simp [dat] at h'; done) | skip
    simp only [dat] at h h'
    simp only [toD, PyData.eqv, veq]
    exact veqs_eqv n xs _ h h'
  | n, .slst _, w, h, _ => by cases n <;> simp [dat] at h
  | n, .fn _, w, h, _ => by cases n <;> simp [dat] at h
  | n, .box _, w, h, _ => by cases n <;> simp [dat] at h
theorem veqs_eqv : ∀ (n : Nat) (vs ws : List Val), vs.all (dat n) = true → ws.all (dat n) = true → PyData.eqvAll (toDs vs) (toDs ws) = veqs vs ws
  | n, [], [], _, _ => by simp [toDs, PyData.eqvAll, veqs]
  | n, [], w :: ws, _, _ => by simp [toDs, PyData.eqvAll, veqs]
  | n, v :: vs, [], _, _ => by simp [toDs, PyData.eqvAll, veqs]
  | n, v :: vs, w :: ws, h, h' => by
    simp only [List.all_cons, Bool.and_eq_true] at h h'
    simp only [toDs, PyData.eqvAll, veqs]
    rw [veq_eqv n v w h.1 h'.1, veqs_eqv n vs ws h.2 h'.2]
end
section
variable {G : Gx} {μ : Mu} {st : Store} {H : Hp}
mutual
theorem dpP : ∀ (n : Nat) (v : Val) (x : V), dat n v = true → RvP G μ H v x → Dp G.K H x (toD v)
  | n, .non, x, _, h => by simp only [RvP] at h; subst h; exact .non
  | n, .bl b, x, _, h => by simp only [RvP] at h; subst h; exact .bl b
  | n, .int b, x, _, h => by simp only [RvP] at h; subst h; exact .int b
  | n, .str b, x, _, h => by simp only [RvP] at h; subst h; exact .str b
  | 0, .tup xs, x, h, _ => by simp [dat] at h
  | n + 1, .tup xs, x, hd, h => by
    simp only [RvP] at h
    simp only [dat] at hd
    obtain ⟨a, ys, rfl, h1, h2⟩ := h
    simp only [toD]
    exact .tup h1 (dpPs n xs ys hd h2)
  | 0, .lst xs, x, h, _ => by simp [dat] at h
  | n + 1, .lst xs, x, hd, h => by
    simp only [RvP] at h
    simp only [dat] at hd
    obtain ⟨a, ys, rfl, h1, _, h2⟩ := h
    simp only [toD]
    exact .lst (SqL.of h1) (dpPs n xs ys hd h2)
  | n, .slst _, x, h, _ => by cases n <;> simp [dat] at h
  | n, .fn _, x, h, _ => by cases n <;> simp [dat] at h
  | n, .box _, x, h, _ => by cases n <;> simp [dat] at h
theorem dpPs : ∀ (n : Nat) (vs : List Val) (xs : List V), vs.all (dat n) = true → RvPs G μ H vs xs → DpAll G.K H xs (toDs vs)
  | n, [], xs, _, h => by simp only [RvPs] at h; subst h; exact .nil
  | n, v :: vs, xs, hd, h => by
    simp only [List.all_cons, Bool.and_eq_true] at hd
    simp only [RvPs] at h
    obtain ⟨y, r, rfl, h1, h2⟩ := h
    simp only [toDs]
    exact .cons (dpP n v y hd.1 h1) (dpPs n vs r hd.2 h2)
end
theorem dpD {v : Val} {x : V} (hd : dat 8 (unS v) = true) (h : RvD G μ H v x) : Dp G.K H x (toD (unS v)) := by
  cases v with
  | lst xs =>
    obtain ⟨a, ys, rfl, h1, h2⟩ := h
    simp only [unS, dat] at hd
    simp only [unS, toD]
    exact .lst (SqL.of h1) (dpPs 7 xs ys hd h2)
  | slst xs =>
    obtain ⟨a, ys, rfl, h1, h2⟩ := h
    simp only [unS, dat] at hd
    simp only [unS, toD]
    exact .lst h1.sq (dpPs 7 xs ys hd h2)
  | box n => simp [unS, dat] at hd
  | fn f => simp [unS, dat] at hd
  | _ => exact dpP (μ := μ) 8 _ x hd h
theorem unS_dat {v : Val} (h : dat 8 v = true) : unS v = v := by
  cases v <;> first | rfl | (simp [dat] at h)
/-! ### sequences -/
theorem seqOf_sq {v : Val} {x : V} {xs : List Val} (e : seqOf v = some xs) (h : RvD G μ H v x) : ∃ a ys, x = .ref a ∧ (SqL G.K H a ys ∨ SqT G.K H a ys) ∧ RvPs G μ H xs ys := by
  cases v <;> simp only [seqOf, reduceCtorEq, Option.some.injEq] at e
  · subst e
    obtain ⟨a, ys, e, h1, h2⟩ := (show RvP G μ H _ x from h)
    exact ⟨a, ys, e, .inr h1, h2⟩
  · subst e
    obtain ⟨a, ys, e, h1, h2⟩ := h
    exact ⟨a, ys, e, .inl (SqL.of h1), h2⟩
  · subst e
    obtain ⟨a, ys, e, h1, h2⟩ := h
    exact ⟨a, ys, e, .inl h1.sq, h2⟩
theorem flats : ∀ {vs : List Val} {xs : List V}, vs.all flat = true → RvPs G μ H vs xs → xs.all flatV = true ∧ ∀ (v : Val) (x : V), flat v = true → Rv G μ H v x → (xs.any fun y => eqV y x) = vs.any fun w => veq w v
  | [], xs, _, h => by
    simp only [RvPs] at h; subst h
    exact ⟨rfl, fun _ _ _ _ => rfl⟩
  | w :: vs, xs, hf, h => by
    simp only [List.all_cons, Bool.and_eq_true] at hf
    obtain ⟨hf, hf2⟩ := hf
    simp only [RvPs] at h
    obtain ⟨y, r, rfl, h1, h2⟩ := h
    obtain ⟨i1, i2⟩ := flats hf2 h2
    have hy : flatV y = true ∧ ∀ (v : Val) (x : V), flat v = true → Rv G μ H v x → eqV y x = veq w v := by
      cases w <;> simp only [flat, reduceCtorEq] at hf <;> simp only [RvP] at h1 <;> subst h1 <;> refine ⟨rfl, fun v x fv hv => ?_⟩ <;>
        cases v <;> simp only [flat, reduceCtorEq] at fv <;> (have hv' : RvP G μ H _ x := hv; simp only [RvP] at hv'; subst hv'; simp [eqV, veq])
    refine ⟨by simp only [List.all_cons, hy.1, i1]; rfl, fun v x fv hv => ?_⟩
    simp only [List.any_cons]
    rw [hy.2 v x fv hv, i2 v x fv hv]
theorem flat_V {v : Val} {x : V} (f : flat v = true) (h : Rv G μ H v x) : flatV x = true := by
  cases v <;> simp only [flat, reduceCtorEq] at f <;> (have h' : RvP G μ H _ x := h; simp only [RvP] at h'; subst h'; rfl)
end
/-! ### + - * // % ** -/
def Bop.op : Bop → Operator
  | .add => .Add | .sub => .Sub | .mul => .Mult | .fdiv => .FloorDiv | .mod => .Mod | .pow => .Pow
theorem lim_le : lim ≤ sizeLine := by decide
def rBin (G : Gx) (o : Bop) : R2 := fun x y H Q => ∃ μ st v w z, StOk G μ st H ∧ RvD G μ H v x ∧ RvD G μ H w y ∧ binop o v w = some z ∧ ∀ μ' H' x', Step μ st H μ' st H' → StOk G μ' st H' → Rv G μ' H' z x' → Q x' H'
section
variable {X : Cx} {G : Gx}
theorem new_tup {μ : Mu} {st : Store} {H : Hp} {xs : List Val} {ys : List V} {Q : VK} (S : StOk G μ st H) (h : RvPs G μ H xs ys) (q : ∀ μ' H' x', Step μ st H μ' st H' → StOk G μ' st H' → Rv G μ' H' (.tup xs) x' → Q x' H') : ∀ p, H p = none → Q (.ref p) (upd H p (.tup ys)) := fun p np =>
  q μ _ _ (Step.alloc np) (S.alloc np) (show RvP G μ _ (.tup xs) _ by
    simp only [RvP]
    exact ⟨p, ys, rfl, SqT.of upd_same, RvPs.step S (Step.alloc np) xs ys h⟩)
theorem new_lst {μ : Mu} {st : Store} {H : Hp} {xs : List Val} {ys : List V} {Q : VK} (S : StOk G μ st H) (h : RvPs G μ H xs ys) (q : ∀ μ' H' x', Step μ st H μ' st H' → StOk G μ' st H' → Rv G μ' H' (.lst xs) x' → Q x' H') : ∀ p, H p = none → Q (.ref p) (upd H p (.lst ys)) := fun p np =>
  q μ _ _ (Step.alloc np) (S.alloc np) (show RvP G μ _ (.lst xs) _ by
    simp only [RvP]
    exact ⟨p, ys, rfl, upd_same, S.notOwn0 np, RvPs.step S (Step.alloc np) xs ys h⟩)
theorem or_bin (hK : X.K = G.K) (o : Bop) : OpR X (binaryOp o.op) (rBin G o) := by
  intro pins s σ H x y u v Q I rx ry ⟨μ, st, a, b, z, S, ha, hb, e, q⟩
  have hl := lim_le
  unfold binop at e
  split at e
  · cases e
    cases (show x = .int _ from ha); cases (show y = .int _ from hb)
    exact op_add pins s σ H _ _ u v Q I rx ry ⟨_, _, rfl, rfl, q μ H _ Step.refl S rfl⟩
  · split at e
    · rename_i hz
      cases e
      cases (show x = .str _ from ha); cases (show y = .str _ from hb)
      exact op_add_str pins s σ H _ _ u v Q I rx ry ⟨_, _, rfl, rfl, by omega, q μ H _ Step.refl S rfl⟩
    · cases e
  · split at e
    · rename_i xs ys hz
      cases e
      obtain ⟨a1, xs', rfl, h1, h2⟩ := (show RvP G μ H (.tup xs) x from ha)
      obtain ⟨a2, ys', rfl, h3, h4⟩ := (show RvP G μ H (.tup ys) y from hb)
      have l1 := h2.length
      have l2 := h4.length
      rw [← hK] at h1 h3
      by_cases he : xs' = []
      · subst he
        have ex : xs = [] := List.eq_nil_of_length_eq_zero (by simpa using l1)
        subst ex
        exact SwR.op_catT0 pins s σ H _ _ u v Q I rx ry ⟨a1, a2, ys', rfl, rfl, h1, h3, q μ H _ Step.refl S hb⟩
      · refine op_catT pins s σ H _ _ u v Q I rx ry ⟨a1, a2, xs', ys', rfl, rfl, h1, h3, he, by omega, fun ez => ?_, fun _ => new_tup S (h2.append h4) q⟩
        subst ez
        have ey : ys = [] := List.eq_nil_of_length_eq_zero (by simpa using l2)
        subst ey
        rw [List.append_nil] at q
        exact q μ H _ Step.refl S ha
    · cases e
  · split at e
    · rename_i xs ys hz
      cases e
      obtain ⟨a1, xs', rfl, h1, h2⟩ := ha
      obtain ⟨a2, ys', rfl, h3, h4⟩ := hb
      have l1 := h2.length
      have l2 := h4.length
      exact op_cat pins s σ H _ _ u v Q I rx ry ⟨a1, a2, xs', ys', rfl, rfl, h1, h3, by omega, new_lst S (h2.append h4) q⟩
    · cases e
  · cases e
    cases (show x = .int _ from ha); cases (show y = .int _ from hb)
    exact op_sub pins s σ H _ _ u v Q I rx ry ⟨_, _, rfl, rfl, q μ H _ Step.refl S rfl⟩
  · split at e
    · rename_i hz
      cases e
      cases (show x = .int _ from ha); cases (show y = .int _ from hb)
      refine op_mul pins s σ H _ _ u v Q I rx ry ⟨_, _, rfl, rfl, ?_, q μ H _ Step.refl S rfl⟩
      simp only [Bool.or_eq_true, Bool.and_eq_true, decide_eq_true_eq] at hz
      unfold CMul
      omega
    · cases e
  · split at e
    · rename_i xs k hz
      cases e
      simp only [Bool.and_eq_true, decide_eq_true_eq, Bool.not_eq_true', List.isEmpty_eq_false_iff] at hz
      obtain ⟨⟨⟨z1, z2⟩, z3⟩, z4⟩ := hz
      obtain ⟨a1, xs', rfl, h1, h2⟩ := (show RvP G μ H (.tup xs) x from ha)
      cases (show y = .int _ from hb)
      have l1 := h2.length
      rw [← hK] at h1
      have hne : xs' ≠ [] := fun w => by
        subst w
        exact z4 (List.eq_nil_of_length_eq_zero (by simpa using l1))
      have hk64 : k.toNat ≤ 64 := by omega
      have hx64 : xs'.length ≤ 64 := by omega
      have hm : xs'.length * k.toNat ≤ 4096 := Nat.mul_le_mul hx64 hk64
      have h4 : (4096 : Nat) ≤ sizeLine := by decide
      refine SwR.op_repT pins s σ H _ _ u v Q I rx ry ⟨a1, k, xs', rfl, rfl, h1, hne, z1, by omega, by omega, fun ek => ?_, fun _ => new_tup S (h2.rep k.toNat) q⟩
      subst ek
      have e1 : rep (1 : Int).toNat xs = xs := by simp [rep]
      rw [e1] at q
      exact q μ H _ Step.refl S ha
    · cases e
  · split at e
    · rename_i xs k hz
      cases e
      simp only [Bool.and_eq_true, decide_eq_true_eq] at hz
      obtain ⟨⟨z1, z2⟩, z3⟩ := hz
      obtain ⟨a1, xs', rfl, h1, h2⟩ := ha
      cases (show y = .int _ from hb)
      have l1 := h2.length
      have hk64 : k.toNat ≤ 64 := by omega
      have hx64 : xs'.length ≤ 64 := by omega
      have hm : xs'.length * k.toNat ≤ 4096 := Nat.mul_le_mul hx64 hk64
      have h4 : (4096 : Nat) ≤ sizeLine := by decide
      exact op_rep pins s σ H _ _ u v Q I rx ry ⟨a1, k, xs', rfl, rfl, h1, by omega, by omega, by omega, new_lst S (h2.rep k.toNat) q⟩
    · cases e
  · split at e
    · rename_i xs k hz
      cases e
      simp only [Bool.and_eq_true, decide_eq_true_eq] at hz
      obtain ⟨⟨⟨z1, z2⟩, z3⟩, z4⟩ := hz
      cases (show x = .str _ from ha); cases (show y = .int _ from hb)
      exact SwR.op_repS pins s σ H _ _ u v Q I rx ry ⟨_, k, rfl, rfl, z1, z2, z3, z4, q μ H _ Step.refl S rfl⟩
    · cases e
  · split at e
    · rename_i hz
      cases e
      cases (show x = .int _ from ha); cases (show y = .int _ from hb)
      simp only [Bool.and_eq_true, decide_eq_true_eq] at hz
      exact op_fdiv pins s σ H _ _ u v Q I rx ry ⟨_, _, rfl, rfl, hz, q μ H _ Step.refl S rfl⟩
    · cases e
  · split at e
    · rename_i hz
      cases e
      cases (show x = .int _ from ha); cases (show y = .int _ from hb)
      exact op_mod pins s σ H _ _ u v Q I rx ry ⟨_, _, rfl, rfl, hz, q μ H _ Step.refl S rfl⟩
    · cases e
  · split at e
    · rename_i hz
      cases e
      cases (show x = .int _ from ha); cases (show y = .int _ from hb)
      simp only [Bool.and_eq_true, decide_eq_true_eq] at hz
      exact op_pow pins s σ H _ _ u v Q I rx ry ⟨_, _, rfl, rfl, ⟨hz.1.1, by omega, by omega⟩, q μ H _ Step.refl S rfl⟩
    · cases e
  · cases e
/-! ### comparisons -/
def Cop.op : Cop → CmpOp
  | .eq => .Eq | .ne => .NotEq | .lt => .Lt | .le => .LtE | .gt => .Gt | .ge => .GtE | .isin => .In | .notin => .NotIn | .is => .Is | .isnot => .IsNot
def rCmp (G : Gx) (o : Cop) : R2 := fun x y H Q => ∃ μ st v w b, StOk G μ st H ∧ RvD G μ H v x ∧ RvD G μ H w y ∧ cmpop o v w = some b ∧ Q (.bl b) H
theorem in_seq {neg : Bool} {pins : List (Addr × Obj)} {s : Shared} {σ : LSt} {H : Hp} {x y : V} {u v : Value} {Q : VK} {μ : Mu} {st : Store} {a b : Val} {r : Bool} (hK : X.K = G.K) (hu : X.A.units + 65 < cLine) (I : Inv X pins σ H s) (rx : RelV x u) (ry : RelV y v)
    (S : StOk G μ st H) (ha : RvD G μ H a x) (hb : RvD G μ H b y) (e : isIn a b = some r) (q : Q (.bl (if neg then !r else r)) H) :
    wpAny (model X.prog X.w) X.A (compareOp (if neg then .NotIn else .In) u v) (EP X pins σ Q) X.xe s := by
  have flatCase : ∀ (ys : List Val), (∃ p ys', y = .ref p ∧ (SqL G.K H p ys' ∨ SqT G.K H p ys') ∧ RvPs G μ H ys ys') → flat a = true → ys.all flat = true → r = (ys.any fun w => veq w a) →
      wpAny (model X.prog X.w) X.A (compareOp (if neg then .NotIn else .In) u v) (EP X pins σ Q) X.xe s := by
    rintro ys ⟨p, ys', rfl, h1, h2⟩ f1 f2 rfl
    have ha' : Rv G μ H a x := by cases a <;> simp [flat] at f1 <;> exact ha
    obtain ⟨g1, g2⟩ := flats f2 h2
    rw [← hK] at h1
    have g3 : inV x ys' = ys.any fun w => veq w a := g2 a x f1 ha'
    cases neg with
    | true => exact op_notIn_seq pins s σ H _ _ u v Q I rx ry ⟨p, ys', rfl, h1, flat_V f1 ha', g1, by simp only [if_true] at q ⊢; rw [g3]; exact q⟩
    | false => exact op_in_seq pins s σ H _ _ u v Q I rx ry ⟨p, ys', rfl, h1, flat_V f1 ha', g1, by simp only [Bool.false_eq_true, if_false] at q ⊢; rw [g3]; exact q⟩
  unfold isIn at e
  split at e
  · rename_i ys
    obtain ⟨p, ys', h0, h1, h2⟩ := (show RvP G μ H (.tup ys) y from hb)
    split at e
    · rename_i f
      simp only [Bool.and_eq_true] at f
      exact flatCase ys ⟨p, ys', h0, .inr h1, h2⟩ f.1 f.2 (Option.some.inj e).symm
    · cases e
  · rename_i ys
    obtain ⟨p, ys', h0, h1, h2⟩ := hb
    split at e
    · rename_i f
      simp only [Bool.and_eq_true] at f
      exact flatCase ys ⟨p, ys', h0, .inl (SqL.of h1), h2⟩ f.1 f.2 (Option.some.inj e).symm
    · cases e
  · rename_i z
    split at e
    · rename_i y'
      split at e
      · rename_i c hc
        cases e
        cases (show x = .str _ from ha); cases (show y = .str _ from hb)
        have hy : y' = ⟨#[c]⟩ := by
          cases y' with
          | mk cps =>
            have : cps = #[c] := by
              apply Array.toList_inj.mp
              simpa using hc
            rw [this]
        subst hy
        cases neg with
        | true => exact op_notIn_sign pins s σ H _ _ u v Q I rx ry ⟨c, z, rfl, rfl, q⟩
        | false => exact op_in_sign pins s σ H _ _ u v Q I rx ry ⟨c, z, rfl, rfl, q⟩
      · cases e
    · cases e
  · cases e
theorem dq (a b : Bool) : decide (a = b) = (a == b) := by cases a <;> cases b <;> rfl
theorem or_cmp (hK : X.K = G.K) (hu : X.A.units + 65 < cLine) (o : Cop) : OpR X (compareOp o.op) (rCmp G o) := by
  intro pins s σ H x y u v Q I rx ry ⟨μ, st, a, b, r, S, ha, hb, e, q⟩
  unfold cmpop at e
  split at e
  · split at e
    · rename_i hd
      simp only [Bool.and_eq_true] at hd
      cases e
      have d1 := dpD hd.1 ha
      have d2 := dpD (by rw [unS_dat hd.2]; exact hd.2) hb
      rw [unS_dat hd.2] at d2
      rw [← hK] at d1 d2
      refine op_eqD (by omega) pins s σ H _ _ u v Q I rx ry ⟨_, _, d1, d2, dat_shaped hd.1, dat_shaped hd.2, ?_⟩
      rw [veq_eqv 8 _ _ hd.1 hd.2]
      exact q
    · cases e
  · split at e
    · rename_i hd
      simp only [Bool.and_eq_true] at hd
      cases e
      have d1 := dpD hd.1 ha
      have d2 := dpD (by rw [unS_dat hd.2]; exact hd.2) hb
      rw [unS_dat hd.2] at d2
      rw [← hK] at d1 d2
      refine op_neD (by omega) pins s σ H _ _ u v Q I rx ry ⟨_, _, d1, d2, dat_shaped hd.1, dat_shaped hd.2, ?_⟩
      rw [veq_eqv 8 _ _ hd.1 hd.2]
      exact q
    · cases e
  · cases e
    cases (show x = .int _ from ha); cases (show y = .int _ from hb)
    exact op_lt pins s σ H _ _ u v Q I rx ry ⟨_, _, rfl, rfl, q⟩
  · cases e
    cases (show x = .int _ from ha); cases (show y = .int _ from hb)
    exact op_le pins s σ H _ _ u v Q I rx ry ⟨_, _, rfl, rfl, q⟩
  · cases e
    cases (show x = .int _ from ha); cases (show y = .int _ from hb)
    exact op_gt pins s σ H _ _ u v Q I rx ry ⟨_, _, rfl, rfl, q⟩
  · cases e
    cases (show x = .int _ from ha); cases (show y = .int _ from hb)
    exact op_ge pins s σ H _ _ u v Q I rx ry ⟨_, _, rfl, rfl, q⟩
  · exact in_seq (neg := false) hK hu I rx ry S ha hb e q
  · obtain ⟨r', e', rfl⟩ := Option.map_eq_some_iff.mp e
    exact in_seq (neg := true) hK hu I rx ry S ha hb e' q
  · unfold isSame at e
    split at e
    · cases e
      cases (show x = .bl _ from ha); cases (show y = .bl _ from hb)
      refine op_isBl pins s σ H _ _ u v Q I rx ry ⟨_, _, rfl, rfl, ?_⟩
      rw [dq]; exact q
    · cases e
      cases (show x = .non from ha); cases (show y = .non from hb)
      exact op_isN pins s σ H _ _ u v Q I rx ry ⟨rfl, q⟩
    · cases e
      cases (show x = .bl _ from ha); cases (show y = .non from hb)
      exact op_isN pins s σ H _ _ u v Q I rx ry ⟨rfl, q⟩
    · cases e
      cases (show x = .int _ from ha); cases (show y = .non from hb)
      exact op_isN pins s σ H _ _ u v Q I rx ry ⟨rfl, q⟩
    · cases e
      obtain ⟨p, ys', rfl, h1, h2⟩ := ha
      cases (show y = .non from hb)
      exact op_isN pins s σ H _ _ u v Q I rx ry ⟨rfl, q⟩
    · cases e
      have ha' : RvP G μ H (.tup _) x := ha
      simp only [RvP] at ha'
      obtain ⟨p, ys', rfl, h1, h2⟩ := ha'
      cases (show y = .non from hb)
      exact op_isN pins s σ H _ _ u v Q I rx ry ⟨rfl, q⟩
    · cases e
  · obtain ⟨r', e', rfl⟩ := Option.map_eq_some_iff.mp e
    unfold isSame at e'
    split at e'
    · cases e'
      cases (show x = .bl _ from ha); cases (show y = .bl _ from hb)
      refine op_notBl pins s σ H _ _ u v Q I rx ry ⟨_, _, rfl, rfl, ?_⟩
      rw [dq]; exact q
    · cases e'
      cases (show x = .non from ha); cases (show y = .non from hb)
      exact op_notN pins s σ H _ _ u v Q I rx ry ⟨rfl, q⟩
    · cases e'
      cases (show x = .bl _ from ha); cases (show y = .non from hb)
      exact op_notN pins s σ H _ _ u v Q I rx ry ⟨rfl, q⟩
    · cases e'
      cases (show x = .int _ from ha); cases (show y = .non from hb)
      exact op_notN pins s σ H _ _ u v Q I rx ry ⟨rfl, q⟩
    · cases e'
      obtain ⟨p, ys', rfl, h1, h2⟩ := ha
      cases (show y = .non from hb)
      exact op_notN pins s σ H _ _ u v Q I rx ry ⟨rfl, q⟩
    · cases e'
      have ha' : RvP G μ H (.tup _) x := ha
      simp only [RvP] at ha'
      obtain ⟨p, ys', rfl, h1, h2⟩ := ha'
      cases (show y = .non from hb)
      exact op_notN pins s σ H _ _ u v Q I rx ry ⟨rfl, q⟩
    · cases e'
  · cases e
end
end Sw
end

section
/-! SwRules3: tuple.index of ints, sorted of tuples of ints, len(set(ints)), a call of a function out of a list. -/
namespace SwR
open PySem PySem.Spec PyProof.Rows L2
section
variable {X : Cx}
theorem flat_ints (ns : List Int) : (ns.map V.int).all flatV = true := by
  rw [List.all_eq_true]
  intro x hx
  obtain ⟨n, _, rfl⟩ := List.mem_map.mp hx
  rfl
theorem mt_tup_indexI : MtR X "tuple.index" (fun x xs H Q => ∃ p, ∃ ys : List Int, ∃ z j, x = .ref p ∧ xs = [.int z] ∧ SqT X.K H p (ys.map V.int) ∧ ys[j]? = some z ∧ (∀ m, m < j → ys[m]? ≠ some z) ∧ Q (.int (j : Nat)) H) := by
  intro pins s σ H x xs v us Q I rx rs h
  obtain ⟨p, ys, z, j, rfl, rfl, hq, hy, hno, q⟩ := h
  cases rx
  obtain ⟨u, rfl, t, rfl⟩ := vals1 rs
  obtain ⟨its, r, pl, hz⟩ := I.tuple hq
  obtain ⟨⟨cls, dd, dt, sl⟩, ho, hc, n, hd⟩ := pl
  simp only at hc hd
  subst hc
  subst hd
  have hl : its.toArray.size = ys.length := by rw [List.size_toArray, ← r.length, List.length_map]
  have hj : j < its.toArray.size := by rw [hl]; exact (List.getElem?_eq_some_iff.mp hy).1
  have at' : ∀ (m : Nat) (hm : m < its.toArray.size), ∃ y t', ys[m]? = some y ∧ its.toArray[m] = Value.int y t' := fun m hm => by
    have hm' : m < ys.length := by rw [← hl]; exact hm
    obtain ⟨w, hw, t', hw'⟩ := r.get (i := m) (x := .int ys[m]) (by simp [hm'])
    refine ⟨ys[m], t', List.getElem?_eq_getElem hm', ?_⟩
    have e := (List.getElem?_eq_some_iff.mp hw).2
    rw [← hw', ← e]
    simp
  refine call_meets PySem.F.slot_tuple_index ⟨_, ho, rfl⟩ PySem.F.entry_tuple_index (PySem.F.args_tuple_index_2 _ _) (TI.tuple_indexAt p its.toArray n dd sl (.int z t) (eqU (.int z)) j hj ?_ ?_)
    ⟨ho, fun w hw => mem_eqAt (x := .int z) ⟨t, rfl⟩ rfl r (flat_ints ys) w (by simpa using hw), ⟨.int (j : Nat), H, I.tok _, ⟨_, rfl⟩, q⟩⟩
  · obtain ⟨y, t', h1, h2⟩ := at' j hj
    rw [hy] at h1
    cases h1
    rw [h2]
    simp [eqU, eqV]
  · intro m hm hlt
    obtain ⟨y, t', h1, h2⟩ := at' m hm
    rw [h2]
    have hne : y ≠ z := fun e => hno m hlt (by rw [h1, e])
    simp [eqU, eqV, hne]
/-! ### sorted of tuples of ints -/
def leB (p q : Addr × List Int) : Bool := decide (p.2 ≤ q.2)
def rSortTT (K : PySem.W.Frag) : List V → Hp → VK → Prop := fun vs H Q => ∃ (a : Addr) (bs : List (Addr × List Int)), vs = [V.ref a] ∧ SqL K H a (bs.map fun b => V.ref b.1) ∧ (∀ b ∈ bs, b.2 ≠ [] ∧ SqT K H b.1 (b.2.map V.int)) ∧ bs.length ≤ 1000 ∧
  ∀ p, H p = none → Q (.ref p) (upd H p (.lst ((bs.mergeSort leB).map fun b => V.ref b.1)))
theorem dataLe_tups : PySem.W.dataLe false (fun b : Addr × List Int => PyData.tuple (b.2.map .int)) = leB := by
  funext p q
  show (!PySem.W.dataLt (.tuple (q.2.map .int)) (.tuple (p.2.map .int))) = _
  rw [PySem.W.dataLt_tuple]
  show (!PySem.W.rowLt (q.2.map .int) (p.2.map .int)) = _
  rw [PySem.W.dataLt_ints]
  unfold leB
  by_cases h : q.2 < p.2
  · have h' : ¬ p.2 ≤ q.2 := fun r => List.not_lt.mpr r h
    simp [h, h']
  · have h' : p.2 ≤ q.2 := List.not_lt.mp h
    simp [h, h']
theorem alike_ints : ∀ xs ys : List Int, PySem.W.alikeAll (xs.map .int) (ys.map .int) = true
  | [], ys => by simp [PySem.W.alikeAll]
  | x :: xs, [] => by simp [PySem.W.alikeAll]
  | x :: xs, y :: ys => by simp only [List.map_cons, PySem.W.alikeAll, PySem.W.alike, alike_ints xs ys]; rfl
theorem dp_ints {K : PySem.W.Frag} {H : Hp} : ∀ ns : List Int, DpAll K H (ns.map V.int) (ns.map .int)
  | [] => .nil
  | n :: ns => .cons (.int n) (dp_ints ns)
theorem depth_ints (ns : List Int) : PyData.depthAll (ns.map .int) = 0 := by
  induction ns with
  | nil => simp [PyData.depthAll]
  | cons n ns ih => simp [PyData.depthAll, PyData.depth, ih]
theorem vals_refsB : ∀ (bs : List (Addr × List Int)), Vals (bs.map fun b => V.ref b.1) (bs.map fun b => Value.ref b.1)
  | [] => .nil
  | b :: bs => .cons rfl (vals_refsB bs)
theorem vals_refs_eq : ∀ {bs : List (Addr × List Int)} {us : List Value}, Vals (bs.map fun b => V.ref b.1) us → us = bs.map fun b => Value.ref b.1
  | [], _, .nil => rfl
  | b :: bs, _, .cons r t => by cases r; rw [vals_refs_eq t]; rfl
theorem each_of {R : Value → Addr × List Int → Prop} : ∀ {bs : List (Addr × List Int)}, (∀ b ∈ bs, R (Value.ref b.1) b) → PySem.W.EachIs R (bs.map fun b => Value.ref b.1) bs
  | [], _ => .nil
  | b :: bs, h => .cons (h b (List.mem_cons_self ..)) (each_of fun c hc => h c (List.mem_cons_of_mem _ hc))
theorem each_to : ∀ {out : List Value} {bs : List (Addr × List Int)}, PySem.W.EachIs (fun v b => v = Value.ref b.1) out bs → out = bs.map fun b => Value.ref b.1
  | _, _, .nil => rfl
  | _, _, .cons h t => by rw [h, each_to t]; rfl
theorem cr_sortedTT (hu : X.A.units + 64 < cLine) : CallR X (.builtin "sorted") (rSortTT X.K) := by
  intro pins s σ H vs us Q I r h
  obtain ⟨a, bs, rfl, hs, hb, hl, q⟩ := h
  obtain ⟨its, rv, pl, hz⟩ := I.list hs
  rw [Vals.ref1 r]
  have e := vals_refs_eq rv
  subst e
  have hrd : ∀ b ∈ bs, ∃ as, Reads s.heap (.ref b.1) (.tuple (b.2.map .int)) as := fun b hm => Dp.reads I _ (.ref b.1) _ (.tup (hb b hm).2 (dp_ints b.2)) rfl
  have hL : bs.length ≤ sizeLine := by
    have : (1000 : Nat) ≤ sizeLine := by decide
    omega
  refine PySem.W.sorted_data (R := fun v b => v = Value.ref b.1) (enc := fun b : Addr × List Int => PyData.tuple (b.2.map .int)) pl.isList (each_of fun b _ => rfl) (each_of hrd) ?_ (.inl ?_) hL ?_ ?_
  · intro d hd d' hd'
    obtain ⟨b, _, rfl⟩ := List.mem_map.mp hd
    obtain ⟨b', _, rfl⟩ := List.mem_map.mp hd'
    simp only [PySem.W.alike]
    exact alike_ints _ _
  · intro d hd
    obtain ⟨b, hm, rfl⟩ := List.mem_map.mp hd
    obtain ⟨hne, _⟩ := hb b hm
    cases hq : b.2 with
    | nil => exact absurd hq hne
    | cons x xs => exact ⟨.int x, xs.map .int, rfl⟩
  · intro b hm
    have : (PyData.tuple (b.2.map .int)).depth = 1 := by simp only [PyData.depth, depth_ints]
    show X.A.units + 2 + (PyData.tuple (b.2.map .int)).depth < cLine
    rw [this]; omega
  · intro out ho eo
    rw [dataLe_tups] at eo
    have eo' := each_to eo
    subst eo'
    obtain ⟨c, hc⟩ := sortedAll_at s.heap (bs.map fun b => Value.ref b.1) (List.toArray ((bs.mergeSort leB).map fun b => Value.ref b.1))
    have hle : s.heap.objs.size ≤ s.heap.objs.size + 1 := Nat.le_succ _
    refine ⟨.ref (s.heap.objs.size + 1), _, I.laid (t' := s.toks) (a := s.heap.objs.size + 1) (o := .lst ((bs.mergeSort leB).map fun b => V.ref b.1)) (fun b ob q => sortedAll_old q) hle ?_, rfl, q _ (I.hok.fresh hle)⟩
    refine ⟨?_, _, c, vals_refsB _, hc⟩
    rw [List.length_map, List.length_mergeSort]
    have : (1000 : Nat) ≤ sizeLine := by decide
    omega
/-! ### len(set(xs)) of ints -/
def metI (acc : List Int) : List Int → List Int
  | [] => acc
  | x :: r => metI (if x ∈ acc then acc else acc ++ [x]) r
theorem met_step (acc : List Int) (x : Int) : step_dedup acc x = if x ∈ acc then acc else acc ++ [x] := by
  unfold step_dedup
  by_cases h : x ∈ acc
  · rw [if_pos h, if_pos (by simpa using h)]
  · rw [if_neg h, if_neg (by simpa using h)]
theorem met_fold : ∀ (ns acc : List Int), ns.foldl step_dedup acc = metI acc ns
  | [], acc => rfl
  | x :: ns, acc => by
    rw [List.foldl_cons, met_step]
    show _ = metI (if x ∈ acc then acc else acc ++ [x]) ns
    rw [met_fold ns]
theorem firstMet_all (ns : List Int) : firstMet (fun i => ns.getD i 0) ns.length = metI [] ns := by
  unfold firstMet
  have : (List.range ns.length).map (fun i => ns.getD i 0) = ns := by
    apply List.ext_getElem
    · simp
    · intro i h1 h2
      simp [List.getD_eq_getElem?_getD, h2]
  rw [this, met_fold]
def tLenSetA (K : PySem.W.Frag) (ta : TE) : TE := fun σ H Q => ta σ H fun x H1 => ∃ (l : Addr) (ns : List Int), x = .ref l ∧ SqL K H1 l (ns.map V.int) ∧ ns.length ≤ 1000 ∧ Q (.int ((metI [] ns).length : Nat)) H1
theorem met_le : ∀ (ns acc : List Int), (metI acc ns).length ≤ acc.length + ns.length
  | [], acc => Nat.le_refl _
  | x :: ns, acc => by
    have := met_le ns (if x ∈ acc then acc else acc ++ [x])
    show (metI (if x ∈ acc then acc else acc ++ [x]) ns).length ≤ _
    have h2 : (if x ∈ acc then acc else acc ++ [x]).length ≤ acc.length + 1 := by split <;> simp
    simp only [List.length_cons]
    omega
theorem pe_lenSetA {X : Cx} {a : Expr} {ta : TE} {p p2 q pos : Pos} (hg : Gl X "len") (hm : X.mg "len" = none) (hg2 : Gl X "set") (hm2 : X.mg "set" = none) (ha : PE X a ta) (hc : X.calm = true)
    (na : starEach [a] X.env = (false, eval a X.env) :: starEach [] X.env) : PE X (.Call (.Name "len" p) [.Call (.Name "set" p2) [a] [] q] [] pos) (tLenSetA X.K ta) := by
  refine ⟨fun pins s σ H Q I h => ?_⟩
  refine Call_ (ld_blt I hg hm boot_len ?_)
  refine PyProof.Rows.callWith_builtin1 (PyProof.Rows.args_cons ?_ rfl) rfl rfl
  refine Call_ (ld_blt I hg2 hm2 boot_set ?_)
  refine PyProof.Rows.callWith_type1 (PyProof.Rows.args_cons (thn (ha.run pins s σ H _ I h) fun v s1 ⟨x, H1, I1, r1, q1⟩ => PyProof.Rows.args_nil ?_) na) na rfl
  obtain ⟨l, ns, rfl, hq, hl, q1⟩ := q1
  cases r1
  obtain ⟨its, r, pl, hz⟩ := I1.list hq
  have hlen : its.toArray.size = ns.length := by rw [List.size_toArray, ← r.length, List.length_map]
  refine call_set_list (I1.ok.hd hc) pl.isList (by simpa using r.ints) (by rw [hlen]; unfold scanBound; omega) fun h' tk hS hk => ?_
  refine PyProof.Rows.args_nil ?_
  rw [hlen, firstMet_all] at hS
  obtain ⟨o, es, ep, t, ho, hex, hd, _, _, _, hf, hn⟩ := hS
  have I2 : Inv X pins σ H1 { s1 with heap := h', toks := tk } := I1.kept fun b o e => hk b o (Heap.lt_size e) e
  have hml := met_le ns []
  simp only [List.length_nil, Nat.zero_add] at hml
  exact call_len_set ho hex hd hf (by rw [hn] <;> omega) ⟨.int ((metI [] ns).length : Nat), H1, I2.tok _, ⟨_, by rw [hn]⟩, q1⟩
/-! ### a function out of an expression, called -/
def tCallV (sp : Addr → Option Sp) (E : L2.St → XK) (tg : TE) (t : TA) : TE := fun σ H Q => tg σ H fun x H1 => ∃ f s, x = .ref f ∧ sp f = some s ∧ t σ H1 fun vs H2 => s vs H2 Q (E σ)
theorem pe_callV {CX : CXT} {k : Nat} {sp : Addr → Option Sp} {E : L2.St → XK} {g e : Expr} {es : List Expr} {tg : TE} {t : TA} {pos : Pos}
    (F : ∀ f s, sp f = some s → ∃ fd ps, FnOk X.prog X.w X.K X.mg X.base CX k f fd ps s ∧ PySem.W.keepIn X.K (.ref f) = true ∧ Binds X.K fd ps []) (hr : Room k X.A) (hx : ∀ σ, PassesAt CX X σ (E σ)) (hg : PE X g tg) (ha : PA X (e :: es) t)
    (he : starEach (e :: es) X.env = (false, eval e X.env) :: starEach es X.env) (hpl : (backTo pos (starEach es X.env)).any (·.1) = false)
    (hc : eval (.Call g (e :: es) [] pos) X.env = (do callWith pos (← eval g X.env) [] (backTo pos (starEach (e :: es) X.env)) (backToKw pos (keywordEach [] X.env)))) :
    PE X (.Call g (e :: es) [] pos) (tCallV sp E tg t) := by
  refine ⟨fun pins s σ H Q I h => ?_⟩
  refine Call_ (thn (hg.run pins s σ H _ I h) fun v s1 ⟨x, H1, I1, r1, q1⟩ => ?_) hc
  obtain ⟨f, sf, rfl, hs, q⟩ := q1
  cases r1
  obtain ⟨fd, ps, G, hk, hb⟩ := F f sf hs
  refine PySem.W.callWith_K (h₀ := X.base) I1.ok.mod.kin hk (thn (ha.run pos pins s1 σ H1 _ I1 q) fun us s2 ⟨vs, H2, I2, r2, q2⟩ => ⟨I2.kIn, ?_⟩) he hpl
  exact run_fnS G hr hb (hx σ) I2 r2 q2
end
end SwR
end

section
/-! SwOps2: builtin functions, indices, slices, methods. -/
namespace Sw
open PySem L2
theorem maxI_spec : ∀ (r : List Int) (m : Int), (maxI m r = m ∨ maxI m r ∈ r) ∧ m ≤ maxI m r ∧ ∀ y ∈ r, y ≤ maxI m r
  | [], m => ⟨.inl rfl, Int.le_refl _, fun _ h => by simp at h⟩
  | x :: r, m => by
    simp only [maxI]
    have hk : ∃ k, (if x > m then x else m) = k ∧ x ≤ k ∧ m ≤ k ∧ (k = x ∨ k = m) := by
      by_cases h : x > m
      · exact ⟨x, by rw [if_pos h], Int.le_refl _, by omega, .inl rfl⟩
      · exact ⟨m, by rw [if_neg h], by omega, Int.le_refl _, .inr rfl⟩
    obtain ⟨k, hk, k1, k2, k3⟩ := hk
    rw [hk]
    obtain ⟨h1, h2, h3⟩ := maxI_spec r k
    refine ⟨?_, by omega, ?_⟩
    · rcases h1 with h1 | h1
      · rw [h1]
        rcases k3 with rfl | rfl
        · exact .inr (List.mem_cons_self ..)
        · exact .inl rfl
      · exact .inr (List.mem_cons_of_mem _ h1)
    · intro y hy
      rcases List.mem_cons.mp hy with rfl | hy
      · omega
      · exact h3 y hy
theorem minI_spec : ∀ (r : List Int) (m : Int), (minI m r = m ∨ minI m r ∈ r) ∧ minI m r ≤ m ∧ ∀ y ∈ r, minI m r ≤ y
  | [], m => ⟨.inl rfl, Int.le_refl _, fun _ h => by simp at h⟩
  | x :: r, m => by
    simp only [minI]
    have hk : ∃ k, (if x < m then x else m) = k ∧ k ≤ x ∧ k ≤ m ∧ (k = x ∨ k = m) := by
      by_cases h : x < m
      · exact ⟨x, by rw [if_pos h], Int.le_refl _, by omega, .inl rfl⟩
      · exact ⟨m, by rw [if_neg h], by omega, Int.le_refl _, .inr rfl⟩
    obtain ⟨k, hk, k1, k2, k3⟩ := hk
    rw [hk]
    obtain ⟨h1, h2, h3⟩ := minI_spec r k
    refine ⟨?_, by omega, ?_⟩
    · rcases h1 with h1 | h1
      · rw [h1]
        rcases k3 with rfl | rfl
        · exact .inr (List.mem_cons_self ..)
        · exact .inl rfl
      · exact .inr (List.mem_cons_of_mem _ h1)
    · intro y hy
      rcases List.mem_cons.mp hy with rfl | hy
      · omega
      · exact h3 y hy
theorem max_one {x m : Int} {r : List Int} (hm : m ∈ x :: r) (hg : ∀ y ∈ x :: r, y ≤ m) : m = maxI x r := by
  obtain ⟨h1, h2, h3⟩ := maxI_spec r x
  have a : maxI x r ≤ m := by
    rcases h1 with h1 | h1
    · rw [h1]; exact hg x (List.mem_cons_self ..)
    · exact hg _ (List.mem_cons_of_mem _ h1)
  have b : m ≤ maxI x r := by
    rcases List.mem_cons.mp hm with rfl | hm
    · exact h2
    · exact h3 m hm
  omega
theorem min_one {x m : Int} {r : List Int} (hm : m ∈ x :: r) (hg : ∀ y ∈ x :: r, m ≤ y) : m = minI x r := by
  obtain ⟨h1, h2, h3⟩ := minI_spec r x
  have a : m ≤ minI x r := by
    rcases h1 with h1 | h1
    · rw [h1]; exact hg x (List.mem_cons_self ..)
    · exact hg _ (List.mem_cons_of_mem _ h1)
  have b : minI x r ≤ m := by
    rcases List.mem_cons.mp hm with rfl | hm
    · exact h2
    · exact h3 m hm
  omega
/-! ### sorting -/
theorem lexLe_iff : ∀ (xs ys : List Int), lexLe xs ys = decide (xs ≤ ys)
  | [], ys => by simp [lexLe]
  | x :: xs, [] => by simp [lexLe]
  | x :: xs, y :: ys => by
    simp only [lexLe]
    rw [lexLe_iff xs ys]
    by_cases h : x = y
    · subst h; simp [List.cons_le_cons_iff]
    · rw [if_neg h]; simp [List.cons_le_cons_iff, h]
theorem insL_perm (x : List Int) : ∀ l, (insL x l).Perm (x :: l)
  | [] => List.Perm.refl _
  | y :: r => by
    simp only [insL]
    split
    · exact List.Perm.refl _
    · exact ((insL_perm x r).cons y).trans (List.Perm.swap x y r)
theorem sortL_perm : ∀ l, (sortL l).Perm l
  | [] => List.Perm.refl _
  | x :: r => (insL_perm x (sortL r)).trans ((sortL_perm r).cons x)
theorem insL_sorted (x : List Int) : ∀ l, l.Pairwise (· ≤ ·) → (insL x l).Pairwise (· ≤ ·)
  | [], _ => by simp [insL]
  | y :: r, h => by
    simp only [insL]
    rw [lexLe_iff]
    have h' := List.pairwise_cons.mp h
    split
    · rename_i hx
      have hx : x ≤ y := by simpa using hx
      exact List.pairwise_cons.mpr ⟨fun z hz => by
        rcases List.mem_cons.mp hz with rfl | hz
        · exact hx
        · exact List.le_trans hx (h'.1 z hz), h⟩
    · rename_i hx
      have hx : y ≤ x := by
        have hn : ¬ x ≤ y := by simpa using hx
        rcases List.le_total x y with h1 | h1
        · exact absurd h1 hn
        · exact h1
      refine List.pairwise_cons.mpr ⟨fun z hz => ?_, insL_sorted x r h'.2⟩
      rcases List.mem_cons.mp ((insL_perm x r).mem_iff.mp hz) with rfl | hz
      · exact hx
      · exact h'.1 z hz
theorem sortL_sorted : ∀ l, (sortL l).Pairwise (· ≤ ·)
  | [] => List.Pairwise.nil
  | x :: r => insL_sorted x _ (sortL_sorted r)
theorem sort_eq {l m : List (List Int)} (p : l.Perm m) (hl : l.Pairwise (· ≤ ·)) (hm : m.Pairwise (· ≤ ·)) : l = m :=
  p.eq_of_pairwise (fun a b _ _ h1 h2 => List.le_antisymm h1 h2) hl hm
theorem merge_eq (bs : List (Addr × List Int)) : (bs.mergeSort SwR.leB).map (·.2) = sortL (bs.map (·.2)) := by
  have tr : ∀ a b c : Addr × List Int, SwR.leB a b = true → SwR.leB b c = true → SwR.leB a c = true := fun a b c h1 h2 => by
    simp only [SwR.leB, decide_eq_true_eq] at *
    exact List.le_trans h1 h2
  have to : ∀ a b : Addr × List Int, (SwR.leB a b || SwR.leB b a) = true := fun a b => by
    simp only [SwR.leB, Bool.or_eq_true, decide_eq_true_eq]
    exact List.le_total _ _
  refine sort_eq ?_ ?_ (sortL_sorted _)
  · exact ((List.mergeSort_perm bs SwR.leB).map _).trans (sortL_perm _).symm
  · have := List.pairwise_mergeSort tr to bs
    rw [List.pairwise_map]
    exact this.imp fun h => by simpa [SwR.leB] using h
theorem metL_eq : ∀ (ns acc : List Int), metL acc ns = SwR.metI acc ns
  | [], acc => rfl
  | x :: ns, acc => by
    simp only [metL, SwR.metI]
    exact metL_eq ns _
section
variable {G : Gx} {μ : Mu} {st : Store} {H : Hp}
theorem tupsOf_ok : ∀ {vs : List Val} {xs : List V} {ts : List (List Int)}, RvPs G μ H vs xs → tupsOf vs = some ts → ∃ bs : List (Addr × List Int), xs = bs.map (fun b => V.ref b.1) ∧ ts = bs.map (·.2) ∧ ∀ b ∈ bs, SqT G.K H b.1 (b.2.map V.int)
  | [], xs, ts, h, e => by
    simp only [RvPs] at h
    simp only [tupsOf, Option.some.injEq] at e
    subst h; subst e
    exact ⟨[], rfl, rfl, fun _ h => by simp at h⟩
  | v :: vs, xs, ts, h, e => by
    simp only [RvPs] at h
    obtain ⟨y, r, rfl, h1, h2⟩ := h
    cases v <;> simp only [tupsOf, reduceCtorEq] at e
    rename_i us
    cases e1 : intsOf us with
    | none => rw [e1] at e; simp at e
    | some a =>
      cases e2 : tupsOf vs with
      | none => rw [e1, e2] at e; simp at e
      | some b =>
        rw [e1, e2] at e
        simp only [Option.some.injEq] at e
        subst e
        obtain ⟨bs, q1, q2, q3⟩ := tupsOf_ok h2 e2
        simp only [RvP] at h1
        obtain ⟨p, ys, rfl, s1, s2⟩ := h1
        obtain ⟨t1, t2⟩ := s2.intsOf e1
        subst t1
        refine ⟨(p, a) :: bs, by rw [q1]; rfl, by rw [q2]; rfl, fun c hc => ?_⟩
        rcases List.mem_cons.mp hc with rfl | hc
        · exact s1
        · exact q3 c hc
theorem tups_back : ∀ {bs : List (Addr × List Int)}, (∀ b ∈ bs, SqT G.K H b.1 (b.2.map V.int)) → RvPs G μ H ((bs.map (·.2)).map fun t => Val.tup (t.map .int)) (bs.map fun b => V.ref b.1)
  | [], _ => by simp [RvPs]
  | b :: bs, h => by
    simp only [List.map_cons, RvPs]
    refine ⟨_, _, rfl, ?_, tups_back fun c hc => h c (List.mem_cons_of_mem _ hc)⟩
    simp only [RvP]
    exact ⟨b.1, b.2.map V.int, rfl, h b (List.mem_cons_self ..), ints_rel b.2⟩
where
  ints_rel : ∀ ns : List Int, RvPs G μ H (ns.map Val.int) (ns.map V.int)
    | [] => by simp [RvPs]
    | n :: ns => by
      simp only [List.map_cons, RvPs]
      exact ⟨_, _, rfl, by simp only [RvP], ints_rel ns⟩
end
/-! ### builtin functions of one argument -/
def rB1 (G : Gx) (f : B1) : List V → Hp → VK → Prop := fun vs H Q => ∃ μ st v x z, vs = [x] ∧ StOk G μ st H ∧ RvD G μ H v x ∧ op1 f v = some z ∧ ∀ μ' H' x', Step μ st H μ' st H' → StOk G μ' st H' → Rv G μ' H' z x' → Q x' H'
def B1.val : B1 → Value
  | .len => .builtin "len" | .sum => .builtin "sum" | .max => .builtin "max" | .min => .builtin "min" | .all => .builtin "all" | .sorted => .builtin "sorted"
  | .tuple => .type "tuple" | .list => .type "list" | .str => .type "str" | .int => .type "int" | .lenset => .none
theorem digit_ok {s : Str} {n : Int} (h : digit? s = some n) : PySem.intText? s = some n ∧ s.length ≤ 640 := by
  unfold digit? at h
  split at h
  · rename_i c hc
    split at h
    · rename_i hr
      simp only [Bool.and_eq_true, decide_eq_true_eq] at hr
      cases h
      have hs : s = ⟨#[c]⟩ := by
        cases s with
        | mk cps =>
          have : cps = #[c] := by
            apply Array.toList_inj.mp
            simpa using hc
          rw [this]
      subst hs
      refine ⟨?_, by show 1 ≤ 640; decide⟩
      have hcs : c = 48 ∨ c = 49 ∨ c = 50 ∨ c = 51 ∨ c = 52 ∨ c = 53 ∨ c = 54 ∨ c = 55 ∨ c = 56 ∨ c = 57 := by omega
      rcases hcs with rfl | rfl | rfl | rfl | rfl | rfl | rfl | rfl | rfl | rfl <;> decide +kernel
    · cases h
  · cases h
section
variable {X : Cx} {G : Gx}
theorem cr_b1 (hc : X.calm = true) (hK : X.K = G.K) (hu : X.A.units + 65 < cLine) (f : B1) (hf : f ≠ .lenset) : CallR X f.val (rB1 G f) := by
  intro pins s σ H vs us Q I r ⟨μ, st, v, x, z, ev, S, hv, e, q⟩
  subst ev
  have hl := lim_le
  cases f with
  | lenset => exact absurd rfl hf
  | len =>
    have hs : (∃ y, v = .str y) ∨ op1 .len v = (seqOf v).map fun xs => .int (xs.length : Nat) := by
      cases v <;> first | exact .inl ⟨_, rfl⟩ | exact .inr rfl
    rcases hs with ⟨y, rfl⟩ | hs
    · simp only [op1] at e
      split at e
      · cases e
        cases (show x = .str _ from hv)
        exact call_len_str pins s σ H _ us Q I r ⟨_, rfl, by omega, q μ H _ Step.refl S rfl⟩
      · cases e
    · rw [hs] at e
      obtain ⟨xs, e1, rfl⟩ := Option.map_eq_some_iff.mp e
      obtain ⟨a, ys, rfl, h1, h2⟩ := seqOf_sq e1 hv
      rw [← hK] at h1
      refine call_len_seq pins s σ H _ us Q I r ⟨a, ys, rfl, h1, ?_⟩
      have := h2.length
      rw [← this]
      exact q μ H _ Step.refl S rfl
  | sum =>
    simp only [op1] at e
    obtain ⟨xs, e1, e2⟩ := Option.bind_eq_some_iff.mp e
    obtain ⟨ns, e3, rfl⟩ := Option.map_eq_some_iff.mp e2
    obtain ⟨a, ys, rfl, h1, h2⟩ := seqOf_sq e1 hv
    obtain ⟨q1, q2⟩ := h2.intsOf e3
    subst q1
    rw [← hK] at h1
    rcases h1 with h1 | h1
    · exact cr_sum hc pins s σ H _ us Q I r ⟨a, ns, rfl, h1, q μ H _ Step.refl S rfl⟩
    · exact SwR.cr_sumT hc pins s σ H _ us Q I r ⟨a, ns, rfl, h1, q μ H _ Step.refl S rfl⟩
  | max =>
    simp only [op1] at e
    obtain ⟨xs, e1, e2⟩ := Option.bind_eq_some_iff.mp e
    cases e3 : intsOf xs with
    | none => rw [e3] at e2; cases e2
    | some ns =>
      cases ns with
      | nil => rw [e3] at e2; cases e2
      | cons n ns =>
        rw [e3] at e2
        cases e2
        obtain ⟨a, ys, rfl, h1, h2⟩ := seqOf_sq e1 hv
        obtain ⟨q1, q2⟩ := h2.intsOf e3
        subst q1
        rw [← hK] at h1
        rcases h1 with h1 | h1
        · exact cr_max hc pins s σ H _ us Q I r ⟨a, n :: ns, rfl, h1, by simp, fun m m1 m2 => by rw [max_one m1 m2]; exact q μ H _ Step.refl S rfl⟩
        · exact SwR.cr_maxT hc pins s σ H _ us Q I r ⟨a, n :: ns, rfl, h1, by simp, fun m m1 m2 => by rw [max_one m1 m2]; exact q μ H _ Step.refl S rfl⟩
  | min =>
    simp only [op1] at e
    obtain ⟨xs, e1, e2⟩ := Option.bind_eq_some_iff.mp e
    cases e3 : intsOf xs with
    | none => rw [e3] at e2; cases e2
    | some ns =>
      cases ns with
      | nil => rw [e3] at e2; cases e2
      | cons n ns =>
        rw [e3] at e2
        cases e2
        obtain ⟨a, ys, rfl, h1, h2⟩ := seqOf_sq e1 hv
        obtain ⟨q1, q2⟩ := h2.intsOf e3
        subst q1
        rw [← hK] at h1
        rcases h1 with h1 | h1
        · exact cr_min hc pins s σ H _ us Q I r ⟨a, n :: ns, rfl, h1, by simp, fun m m1 m2 => by rw [min_one m1 m2]; exact q μ H _ Step.refl S rfl⟩
        · exact SwR.cr_minT hc pins s σ H _ us Q I r ⟨a, n :: ns, rfl, h1, by simp, fun m m1 m2 => by rw [min_one m1 m2]; exact q μ H _ Step.refl S rfl⟩
  | all =>
    cases v <;> simp only [op1, reduceCtorEq] at e
    obtain ⟨bs, e1, rfl⟩ := Option.map_eq_some_iff.mp e
    obtain ⟨a, ys, rfl, h1, h2⟩ := hv
    have q1 := h2.boolsOf e1
    subst q1
    exact cr_all hc pins s σ H _ us Q I r ⟨a, bs, rfl, SqL.of h1, q μ H _ Step.refl S rfl⟩
  | sorted =>
    cases v <;> simp only [op1, reduceCtorEq] at e
    obtain ⟨ts, e1, e2⟩ := Option.bind_eq_some_iff.mp e
    split at e2
    · rename_i hz
      cases e2
      simp only [Bool.and_eq_true, decide_eq_true_eq, List.all_eq_true] at hz
      obtain ⟨a, ys, rfl, h1, h2⟩ := hv
      obtain ⟨bs, rfl, rfl, h3⟩ := tupsOf_ok h2 e1
      rw [← hK] at h3
      refine SwR.cr_sortedTT (by omega) pins s σ H _ us Q I r ⟨a, bs, rfl, SqL.of h1, fun b hb => ⟨fun w => ?_, h3 b hb⟩, by simpa using hz.1, new_lst S ?_ q⟩
      · have := hz.2 b.2 (List.mem_map.mpr ⟨b, hb, rfl⟩)
        rw [w] at this
        simp at this
      · rw [← merge_eq]
        refine tups_back fun b hb => ?_
        rw [← hK]
        exact h3 b ((List.mergeSort_perm bs SwR.leB).mem_iff.mp hb)
    · cases e2
  | tuple =>
    cases v <;> simp only [op1, reduceCtorEq, Option.some.injEq] at e
    · subst e
      have hv' : RvP G μ H (.tup _) x := hv
      simp only [RvP] at hv'
      obtain ⟨a, ys, rfl, h1, h2⟩ := hv'
      rw [← hK] at h1
      exact call_tuple_of pins s σ H _ us Q I r ⟨a, ys, rfl, .inr ⟨h1, q μ H _ Step.refl S hv⟩⟩
    · subst e
      obtain ⟨a, ys, rfl, h1, h2⟩ := hv
      exact call_tuple_of pins s σ H _ us Q I r ⟨a, ys, rfl, .inl ⟨SqL.of h1, new_tup S h2 q⟩⟩
  | list =>
    cases v <;> simp only [op1, reduceCtorEq, Option.some.injEq] at e
    · subst e
      have hv' : RvP G μ H (.tup _) x := hv
      simp only [RvP] at hv'
      obtain ⟨a, ys, rfl, h1, h2⟩ := hv'
      rw [← hK] at h1
      exact call_list_of pins s σ H _ us Q I r ⟨a, ys, rfl, .inr h1, new_lst S h2 q⟩
    · subst e
      obtain ⟨a, ys, rfl, h1, h2⟩ := hv
      exact call_list_of pins s σ H _ us Q I r ⟨a, ys, rfl, .inl (SqL.of h1), new_lst S h2 q⟩
  | str =>
    cases v <;> simp only [op1, reduceCtorEq] at e
    · split at e
      · rename_i hz
        cases e
        simp only [Bool.and_eq_true, decide_eq_true_eq] at hz
        cases (show x = .int _ from hv)
        refine call_str_int pins s σ H _ us Q I r ⟨_, rfl, ?_, q μ H _ Step.refl S rfl⟩
        have : ∀ i : Int, 0 ≤ i → i ≤ 9 → i.natAbs.log2 < 1920 := fun i h0 h9 => by
          have hn : i.natAbs ≤ 9 := by omega
          have h4 : i.natAbs < 2 ^ 1920 := Nat.lt_of_le_of_lt (Nat.le_trans hn (by decide : 9 ≤ 2 ^ 4)) (Nat.pow_lt_pow_right (by decide) (by decide))
          rcases Nat.eq_zero_or_pos i.natAbs with hz | hz
          · rw [hz]; decide
          · exact (Nat.log2_lt (by omega)).mpr h4
        exact this _ hz.1 hz.2
      · cases e
    · cases e
      cases (show x = .str _ from hv)
      exact SkE.call_str_str pins s σ H _ us Q I r ⟨_, rfl, q μ H _ Step.refl S rfl⟩
  | int =>
    cases v <;> simp only [op1, reduceCtorEq] at e
    obtain ⟨n, e1, rfl⟩ := Option.map_eq_some_iff.mp e
    cases (show x = .str _ from hv)
    obtain ⟨d1, d2⟩ := digit_ok e1
    exact call_int_str pins s σ H _ us Q I r ⟨_, n, rfl, d1, d2, q μ H _ Step.refl S rfl⟩
def rB2 (G : Gx) (f : B2) : List V → Hp → VK → Prop := fun vs H Q => ∃ μ st v w x y z, vs = [x, y] ∧ StOk G μ st H ∧ Rv G μ H v x ∧ Rv G μ H w y ∧ op2 f v w = some z ∧ ∀ μ' H' x', Step μ st H μ' st H' → StOk G μ' st H' → Rv G μ' H' z x' → Q x' H'
def B2.val : B2 → Value
  | .max => .builtin "max" | .min => .builtin "min"
theorem cr_b2 (hc : X.calm = true) (f : B2) : CallR X f.val (rB2 G f) := by
  intro pins s σ H vs us Q I r ⟨μ, st, v, w, x, y, z, ev, S, hv, hw, e, q⟩
  subst ev
  unfold op2 at e
  split at e
  · cases e
    cases (show x = .int _ from hv); cases (show y = .int _ from hw)
    exact call_max2 hc pins s σ H _ us Q I r ⟨_, _, rfl, q μ H _ Step.refl S rfl⟩
  · cases e
    cases (show x = .int _ from hv); cases (show y = .int _ from hw)
    exact call_min2 hc pins s σ H _ us Q I r ⟨_, _, rfl, q μ H _ Step.refl S rfl⟩
  · cases e
end
/-! ### an item, a slice -/
section
variable {X : Cx} {G : Gx}
theorem ixOf_eq (n : Nat) (i : Int) : ixOf n i = ixN n i := rfl
def rIxV (G : Gx) : R2 := fun x y H Q => ∃ μ st v w z, StOk G μ st H ∧ RvD G μ H v x ∧ Rv G μ H w y ∧ opIx v w = some z ∧ ∀ x', RvP G μ H z x' → Q x' H
theorem ix_v (hK : X.K = G.K) : IxR X (rIxV G) := by
  intro value slice pins s σ H x y u v Q I rx ry ⟨μ, st, a, b, z, S, ha, hb, e, q⟩ hs
  unfold opIx at e
  split at e
  · rename_i i
    obtain ⟨xs, e1, e2⟩ := Option.bind_eq_some_iff.mp e
    obtain ⟨j, e3, e4⟩ := Option.bind_eq_some_iff.mp e2
    obtain ⟨p, ys, rfl, h1, h2⟩ := seqOf_sq e1 ha
    cases (show y = .int _ from hb)
    obtain ⟨w, h3, h4⟩ := h2.get e4
    have hat : atI ys i = some w := by
      unfold atI
      rw [← h2.length, ← ixOf_eq, e3]
      exact h3
    rw [← hK] at h1
    rcases h1 with h1 | h1
    · exact ix_list value slice pins s σ H _ _ u v Q I rx ry ⟨p, ys, i, w, rfl, rfl, h1, hat, q w h4⟩ hs
    · exact ix_tup value slice pins s σ H _ _ u v Q I rx ry ⟨p, ys, i, w, rfl, rfl, h1, hat, q w h4⟩ hs
  · cases e
theorem sIx_eq (n d : Nat) (o : Option Int) : sIx n d o = HT.sIx n d o := by
  cases o <;> rfl
theorem cut_rel {μ : Mu} {H : Hp} {xs : List Val} {ys : List V} (h : RvPs G μ H xs ys) (lo hi : Option Int) : RvPs G μ H (cut xs lo hi) (cutV ys lo hi) := by
  unfold cut cutV
  rw [← h.length]
  simp only [← sIx_eq]
  exact (h.drop _).take _
def rSlV (G : Gx) : V → Option Int → Option Int → Hp → VK → Prop := fun x lo hi H Q => ∃ μ st v z, StOk G μ st H ∧ RvD G μ H v x ∧ opSl lo hi v = some z ∧ ∀ μ' H' x', Step μ st H μ' st H' → StOk G μ' st H' → Rv G μ' H' z x' → Q x' H'
theorem sl_v (hK : X.K = G.K) : SlR X (rSlV G) := by
  intro pins s σ H x v vl vu lo hi sl Q I rx hs pl pu ⟨μ, st, a, z, S, ha, e, q⟩
  have hl := lim_le
  unfold opSl at e
  split at e
  · cases e
    obtain ⟨p, ys, rfl, h1, h2⟩ := ha
    exact sl_list pins s σ H _ v vl vu lo hi sl Q I rx hs pl pu ⟨p, ys, rfl, SqL.of h1, new_lst S (cut_rel h2 lo hi) q⟩
  · split at e
    · cases e
    · rename_i xs hw
      cases e
      have ha' : RvP G μ H (.tup xs) x := ha
      simp only [RvP] at ha'
      obtain ⟨p, ys, rfl, h1, h2⟩ := ha'
      rw [← hK] at h1
      refine sl_tup pins s σ H _ v vl vu lo hi sl Q I rx hs pl pu ⟨p, ys, rfl, h1, fun w => hw ?_, new_tup S (cut_rel h2 lo hi) q⟩
      unfold whole
      rw [h2.length, sIx_eq, sIx_eq, w.1, w.2]
      simp
  · split at e
    · cases e
      cases (show x = .str _ from ha)
      refine sl_str pins s σ H _ v vl vu lo hi sl Q I rx hs pl pu ⟨_, rfl, by omega, ?_⟩
      refine q μ H _ Step.refl S ?_
      show RvP G μ H _ _
      simp only [RvP, cutS, cut]
      congr 3
    · cases e
  · cases e
/-! ### methods of built-in types -/
theorem firstIx_spec (x : Val) : ∀ (ys : List Val) (n j : Nat), firstIx x n ys = some j → n ≤ j ∧ (∃ z, ys[j - n]? = some z ∧ veq z x = true) ∧ ∀ m z, m < j - n → ys[m]? = some z → veq z x = false
  | [], n, j, h => by simp [firstIx] at h
  | y :: ys, n, j, h => by
    simp only [firstIx] at h
    split at h
    · rename_i hv
      cases h
      exact ⟨Nat.le_refl _, ⟨y, by simp, hv⟩, fun m z hm => by omega⟩
    · rename_i hv
      obtain ⟨h1, ⟨z, h2, h3⟩, h4⟩ := firstIx_spec x ys (n + 1) j h
      refine ⟨by omega, ⟨z, ?_, h3⟩, ?_⟩
      · have : j - n = (j - (n + 1)) + 1 := by omega
        rw [this]; simpa using h2
      · intro m z hm hz
        cases m with
        | zero => simp at hz; subst hz; simpa using hv
        | succ m => exact h4 m z (by omega) (by simpa using hz)
open TL in
theorem join_nil : ∀ ys : List (List Nat), joinL [] ys = ys.flatten
  | [] => rfl
  | [p] => by simp [joinL]
  | p :: q :: r => by simp only [joinL, List.nil_append]; rw [join_nil (q :: r)]; simp
def rM1 (G : Gx) (f : M1) : V → List V → Hp → VK → Prop := fun x xs H Q => ∃ μ st v w y z, xs = [y] ∧ StOk G μ st H ∧ RvD G μ H v x ∧ Rv G μ H w y ∧ opM f v w = some z ∧ ∀ μ' H' x', Step μ st H μ' st H' → StOk G μ' st H' → Rv G μ' H' z x' → Q x' H'
theorem mt_indexL (hK : X.K = G.K) : MtR X "list.index" (rM1 G .index) := by
  intro pins s σ H x xs u us Q I rx rs ⟨μ, st, v, w, y, z, exs, S, hv, hw, e, q⟩
  subst exs
  cases v <;> simp only [opM, reduceCtorEq] at e
  · rename_i ts
    split at e
    · rename_i hf
      simp only [Bool.and_eq_true] at hf
      obtain ⟨j, e1, rfl⟩ := Option.map_eq_some_iff.mp e
      obtain ⟨a, ys, rfl, h1, h2⟩ := hv
      obtain ⟨_, ⟨z, z1, z2⟩, z3⟩ := firstIx_spec w ts 0 j e1
      obtain ⟨g1, _⟩ := flats hf.2 h2
      have eqs : ∀ (m : Nat) (zv : Val) (zx : V), ts[m]? = some zv → ys[m]? = some zx → eqV zx y = veq zv w := fun m zv zx a1 a2 => by
        obtain ⟨x', b1, b2⟩ := h2.get a1
        rw [a2] at b1
        cases b1
        have fz : flat zv = true := List.all_eq_true.mp hf.2 zv (List.mem_of_getElem? a1)
        have := (flats (vs := [zv]) (xs := [zx]) (by simp [fz]) (RvPs.one b2)).2 w y hf.1 hw
        simpa using this
      obtain ⟨zx, c1, c2⟩ := h2.get z1
      refine mt_index pins s σ H _ _ u us Q I rx rs ⟨a, ys, y, j, zx, rfl, rfl, SqL.of h1, flat_V hf.1 hw, g1, by simpa using c1, ?_, fun m z' hm hz' => ?_, q μ H _ Step.refl S rfl⟩
      · rw [eqs (j - 0) z zx z1 c1]; exact z2
      · have hm' : m < ts.length := by
          rw [h2.length]
          exact (List.getElem?_eq_some_iff.mp hz').1
        rw [eqs m ts[m] z' (List.getElem?_eq_getElem hm') hz']
        exact z3 m _ (by omega) (List.getElem?_eq_getElem hm')
    · cases e
theorem mt_indexT (hK : X.K = G.K) : MtR X "tuple.index" (rM1 G .tix) := by
  intro pins s σ H x xs u us Q I rx rs ⟨μ, st, v, w, y, z, exs, S, hv, hw, e, q⟩
  subst exs
  cases v <;> simp only [opM, reduceCtorEq] at e
  · rename_i ts
    cases w <;> simp only [opM, reduceCtorEq] at e
    rename_i i
    obtain ⟨ns, e1, e2⟩ := Option.bind_eq_some_iff.mp e
    obtain ⟨j, e3, rfl⟩ := Option.map_eq_some_iff.mp e2
    have hv' : RvP G μ H (.tup ts) x := hv
    simp only [RvP] at hv'
    obtain ⟨a, ys, rfl, h1, h2⟩ := hv'
    cases (show y = .int _ from hw)
    obtain ⟨q1, q2⟩ := h2.intsOf e1
    subst q1; subst q2
    obtain ⟨_, ⟨z, z1, z2⟩, z3⟩ := firstIx_spec (.int i) (ns.map .int) 0 j e3
    rw [← hK] at h1
    have at' : ∀ m n, ns[m]? = some n → (ns.map Val.int)[m]? = some (Val.int n) := fun m n h => by rw [List.getElem?_map, h]; rfl
    refine SwR.mt_tup_indexI pins s σ H _ _ u us Q I rx rs ⟨a, ns, i, j, rfl, rfl, h1, ?_, fun m hm hn => ?_, q μ H _ Step.refl S rfl⟩
    · rw [List.getElem?_map] at z1
      cases hj : ns[j - 0]? with
      | none => rw [hj] at z1; cases z1
      | some n =>
        rw [hj] at z1
        cases z1
        have : n = i := by simpa [veq] using z2
        rw [← this]; first | done | exact hj
    · have := z3 m _ (by omega) (at' m i hn)
      simp [veq] at this
theorem mt_countL : MtR X "list.count" (rM1 G .count) := by
  intro pins s σ H x xs u us Q I rx rs ⟨μ, st, v, w, y, z, exs, S, hv, hw, e, q⟩
  subst exs
  cases v <;> simp only [opM, reduceCtorEq] at e
  cases w <;> simp only [opM, reduceCtorEq] at e
  obtain ⟨ns, e1, rfl⟩ := Option.map_eq_some_iff.mp e
  obtain ⟨a, ys, rfl, h1, h2⟩ := hv
  cases (show y = .int _ from hw)
  obtain ⟨q1, q2⟩ := h2.intsOf e1
  subst q1
  exact mt_lcount pins s σ H _ _ u us Q I rx rs ⟨a, ns, _, rfl, rfl, SqL.of h1, q μ H _ Step.refl S rfl⟩
open TL in
theorem mt_joinL (hK : X.K = G.K) : MtR X "str.join" (rM1 G .join) := by
  intro pins s σ H x xs u us Q I rx rs ⟨μ, st, v, w, y, z, exs, S, hv, hw, e, q⟩
  subst exs
  cases v <;> simp only [opM, reduceCtorEq] at e
  rename_i a
  cases w <;> simp only [opM, reduceCtorEq] at e
  rename_i ts
  split at e
  · rename_i ha
    obtain ⟨zs, e1, e2⟩ := Option.bind_eq_some_iff.mp e
    split at e2
    · rename_i hz
      cases e2
      simp only [Bool.and_eq_true, decide_eq_true_eq, List.all_eq_true] at hz
      cases (show x = .str _ from hv)
      have hw' : RvP G μ H (.lst ts) y := hw
      simp only [RvP] at hw'
      obtain ⟨p, ys, rfl, h1, _, h2⟩ := hw'
      have q1 := h2.strsOf e1
      subst q1
      have hsum : ∀ l : List Str, (∀ z ∈ l, z.length ≤ 64) → (l.map (·.length)).sum ≤ 64 * l.length := by
        intro l
        induction l with
        | nil => intro _; simp
        | cons z l ih =>
          intro h
          have := ih fun z hz => h z (List.mem_cons_of_mem _ hz)
          have := h z (List.mem_cons_self ..)
          simp only [List.map_cons, List.sum_cons, List.length_cons]
          omega
      have h3 := hsum zs hz.2
      refine mt_join pins s σ H _ _ u us Q I rx rs ⟨a, p, zs, rfl, rfl, .inl (SqL.of h1), by rw [ha]; omega, ?_⟩
      have ej : Txt.join a zs = ⟨(zs.flatMap fun z => z.cps.toList).toArray⟩ := by
        apply ext_tl
        rw [join_eq, tl_join]
        have ea : tl a = [] := List.eq_nil_of_length_eq_zero (by rw [← len_tl]; exact ha)
        rw [ea, join_nil]
        show _ = (zs.flatMap fun z => z.cps.toList)
        rw [List.flatMap_def]
      rw [ej]
      exact q μ H _ Step.refl S rfl
    · cases e2
  · cases e
end
end Sw
end

section
/-! SwSound: the checker is right, for expressions. -/
namespace Sw
open PySem L2
def btNames : List Str := ["len", "sum", "max", "min", "all", "sorted", "tuple", "list", "str", "int", "bool", "set", "isinstance", "range", "zip", "enumerate"]
def spF (G : Gx) (C : Orc) (f : Fn) : Sp := fun vs H Q E => ∃ μ ms st, StOk G μ st H ∧ Rvs G μ H ms vs ∧ RPost G μ st H [] (fun c d _ H' => E c d H') (C f ms st) fun v μ' _ H' => ∀ x, Rv G μ' H' v x → Q x H'
/-- the class Tuner stands -/
structure TunF (K : PySem.W.Frag) (mg : Str → Option Value) (G : Gx) : Prop where
  cls : Cls K G.tc
  nf : NoAttr K G.tc "functions"
  nk : NoAttr K G.tc "kept"
  mgt : mg "Tuner" = some (.ref G.tc)
  mkr : Mk K G.tc (G.fa .t_init)
  ic : C8.InsC K G.tc
  mt : ∀ f, G.av f = true → f.isM = true → Meth K G.tc (f.nm []) (G.fa f)
/-- what stands in the module -/
structure Facts (P : Program) (w : World) (K : PySem.W.Frag) (mg : Str → Option Value) (base : Heap) (G : Gx) (C : Orc) (ck : Ck) (k : Nat) : Prop where
  eK : K = G.K
  av : ∀ f, ck.av f = true → G.av f = true
  fn : ∀ f, G.av f = true → ∃ fd ps, FnOk P w K mg base (L2N.CX P w) k (G.fa f) fd ps (spF G C f) ∧ PySem.W.keepIn K (.ref (G.fa f)) = true ∧ Binds K fd ps []
  mgf : ∀ f, G.av f = true → f.isM = false → mg (f.nm ck.own) = some (.ref (G.fa f))
  tun : G.av .t_init = true → TunF K mg G
  inj : ∀ f g, G.av f = true → G.av g = true → G.fa f = G.fa g → f = g
  bt : ∀ x ∈ btNames, mg x = none
  sz : mg "SIZES" = some (.ref G.sz)
  szO : ∃ (o : Obj) (its : Array Value) (n : Nat), K.lookup G.sz = some o ∧ o.cls = .type "tuple" ∧ o.dict = none ∧ o.data = .seq its n ∧ its.size ≤ sizeLine ∧ Vals [.int 2, .int 4, .int 8, .int 16] its.toList
structure Good (X : Cx) (G : Gx) (C : Orc) (W : WX) (ck : Ck) (k : Nat) : Prop where
  fa : Facts X.prog X.w X.K X.mg X.base G C ck k
  hN : X.N = ck.N
  nd : ck.N.Nodup
  calm : X.calm = true
  room : Room (k + 3) X.A
  tk : L2N.Takes X W
section
variable {X : Cx} {G : Gx} {C : Orc} {W : WX} {ck : Ck} {k : Nat}
theorem Good.K (g : Good X G C W ck k) : X.K = G.K := g.fa.eK
theorem Good.u (g : Good X G C W ck k) : X.A.units + 65 < cLine := by
  have := g.room.un
  omega
theorem takes_no : L2N.Takes X (fun _ _ _ _ => False) := fun u s' ⟨_, _, _, _, _, _, _, _, _, _, _, _, _, _, _, _, h⟩ => h.elim
theorem Good.blk (g : Good X G C W ck k) (s : Shared) (H : Hp) (scope : Scope) (cenv : PySem.Env) (fp : List Addr) : Good (X.blk s H scope cenv fp) G C (fun _ _ _ _ => False) ck k :=
  ⟨g.fa, g.hN, g.nd, g.calm, g.room, takes_no⟩
/-! ### the readings, taken apart -/
variable {μ : Mu} {st : Store} {H : Hp} {ρ : Env} {σ : LSt} {α β : Type}
theorem tm_in {m : Ex} {f : Val → Store → Res β} {P : β → Mu → Store → Hp → Prop} {Q : VK} (S : StOk G μ st H) (E : EnvOk G μ H ρ σ) (h : RPost G μ st H σ W ((ev C m ρ st).bind f) P)
    (q : ∀ v μ1 st1 H1, Step μ st H μ1 st1 H1 → StOk G μ1 st1 H1 → EnvOk G μ1 H1 ρ σ → RPost G μ1 st1 H1 σ W (f v st1) P → ∀ x, Rv G μ1 H1 v x → Q x H1) : TM G C W m σ H Q :=
  ⟨μ, ρ, st, S, E, h.bind.mono fun v μ1 st1 H1 t S1 r x hx => q v μ1 st1 H1 t S1 (E.step S t) r x hx⟩
theorem tmt_in {m : Ex} {f : Val → Store → Res β} {P : β → Mu → Store → Hp → Prop} {Q : Bool → Hp → Prop} (S : StOk G μ st H) (E : EnvOk G μ H ρ σ) (h : RPost G μ st H σ W ((ev C m ρ st).bind f) P)
    (q : ∀ v μ1 st1 H1, Step μ st H μ1 st1 H1 → StOk G μ1 st1 H1 → EnvOk G μ1 H1 ρ σ → RPost G μ1 st1 H1 σ W (f v st1) P → ∃ b, v = .bl b ∧ Q b H1) : TMT G C W m σ H Q :=
  ⟨μ, ρ, st, S, E, h.bind.mono fun v μ1 st1 H1 t S1 r => q v μ1 st1 H1 t S1 (E.step S t) r⟩
theorem tma_in {m : Exs} {f : List Val → Store → Res β} {P : β → Mu → Store → Hp → Prop} {Q : List V → Hp → Prop} (S : StOk G μ st H) (E : EnvOk G μ H ρ σ) (h : RPost G μ st H σ W ((evs C m ρ st).bind f) P)
    (q : ∀ v μ1 st1 H1, Step μ st H μ1 st1 H1 → StOk G μ1 st1 H1 → EnvOk G μ1 H1 ρ σ → RPost G μ1 st1 H1 σ W (f v st1) P → ∀ x, Rvs G μ1 H1 v x → Q x H1) : TMA G C W m σ H Q :=
  ⟨μ, ρ, st, S, E, h.bind.mono fun v μ1 st1 H1 t S1 r x hx => q v μ1 st1 H1 t S1 (E.step S t) r x hx⟩
theorem tmo_in {m : OEx} {f : Option Int → Store → Res β} {P : β → Mu → Store → Hp → Prop} {Q : Option Int → Hp → Prop} (S : StOk G μ st H) (E : EnvOk G μ H ρ σ) (h : RPost G μ st H σ W ((evo C m ρ st).bind f) P)
    (q : ∀ v μ1 st1 H1, Step μ st H μ1 st1 H1 → StOk G μ1 st1 H1 → EnvOk G μ1 H1 ρ σ → RPost G μ1 st1 H1 σ W (f v st1) P → Q v H1) : TMO G C W m σ H Q :=
  ⟨μ, ρ, st, S, E, h.bind.mono fun v μ1 st1 H1 t S1 r => q v μ1 st1 H1 t S1 (E.step S t) r⟩
theorem tmc_in {m : OEx} {f : Bool → Store → Res β} {P : β → Mu → Store → Hp → Prop} {Q : Bool → Hp → Prop} (S : StOk G μ st H) (E : EnvOk G μ H ρ σ) (h : RPost G μ st H σ W ((evc C m ρ st).bind f) P)
    (q : ∀ v μ1 st1 H1, Step μ st H μ1 st1 H1 → StOk G μ1 st1 H1 → EnvOk G μ1 H1 ρ σ → RPost G μ1 st1 H1 σ W (f v st1) P → Q v H1) : TMC G C W m σ H Q :=
  ⟨μ, ρ, st, S, E, h.bind.mono fun v μ1 st1 H1 t S1 r => q v μ1 st1 H1 t S1 (E.step S t) r⟩
theorem tmi_in {m : It} {f : Items → Store → Res β} {P : β → Mu → Store → Hp → Prop} {Q : L2.It → Hp → Prop} (S : StOk G μ st H) (E : EnvOk G μ H ρ σ) (h : RPost G μ st H σ W ((evi C m ρ st).bind f) P)
    (q : ∀ v μ1 st1 H1, Step μ st H μ1 st1 H1 → StOk G μ1 st1 H1 → EnvOk G μ1 H1 ρ σ → RPost G μ1 st1 H1 σ W (f v st1) P → ∀ J, Yields G (pairI m) J v μ1 st1 H1 → Q J H1) : TMI G C W m σ H Q :=
  ⟨μ, ρ, st, S, E, h.bind.mono fun v μ1 st1 H1 t S1 r J hJ => q v μ1 st1 H1 t S1 (E.step S t) r J hJ⟩
theorem lift_ok {o : Option α} {P : α → Mu → Store → Hp → Prop} (S : StOk G μ st H) (h : RPost G μ st H σ W (lift o st) P) : ∃ a, o = some a ∧ ∀ μ' H', Step μ st H μ' st H' → StOk G μ' st H' → P a μ' st H' := by
  obtain ⟨a, e, r⟩ := h.lift
  exact ⟨a, e, r⟩
theorem rpost_at {r : Res α} {P : α → Mu → Store → Hp → Prop} (h : RPost G μ st H σ W r P) : RPost G μ st H [] (fun c d _ H' => WE W σ c d H') r P := by
  cases r <;> exact h
/-- a value's reading, as a test -/
theorem tmt_val {m : Ex} {Q : Bool → Hp → Prop} (h : TMT G C W m σ H Q) : tB (TM G C W m) σ H Q := by
  obtain ⟨μ, ρ, st, S, E, r⟩ := h
  refine ⟨μ, ρ, st, S, E, r.mono fun v μ' st' H' t S' ⟨b, e, q⟩ x hx => ?_⟩
  subst e
  exact ⟨b, hx, q⟩
/-! ### names -/
theorem vis_of {sc : Scope} {x : Str} (h : visB sc x = true) : Vis sc x := by
  unfold visB at h
  split at h
  · rename_i e; exact .inl e
  · rename_i e; exact .inr (.inl e)
  · rename_i e; exact .inr (.inr e)
  · cases h
theorem loc_of {sc : Scope} {x : Str} (h : locB sc x = true) : Loc sc x := by
  unfold locB at h
  split at h
  · rename_i e; exact .inl e
  · rename_i e; exact .inr e
  · cases h
theorem ploc_of {sc : Scope} {x : Str} (h : plocB sc x = true) : sc.names.lookup x = some .local := by
  unfold plocB at h
  split at h
  · rename_i e; exact e
  · cases h
theorem gl_of {x : Str} (h : glB X.env.scope x = true) : Gl X x := by
  unfold glB at h
  split at h
  · rename_i e; exact e
  · cases h
theorem okN {x : Str} (h : okName x = true) : (x == ("__debug__" : Str)) = false ∧ (x == ("__classdict__" : Str)) = false := by
  simp only [okName, Bool.and_eq_true, Bool.not_eq_true'] at h
  exact h
theorem bop_of {o : Bop} {p : Operator} (h : bopB o p = true) : p = o.op := by
  cases o <;> cases p <;> first | rfl | cases h
theorem cop_of {o : Cop} {p : CmpOp} (h : copB o p = true) : p = o.op := by
  cases o <;> cases p <;> first | rfl | cases h
theorem plain_in {e : Expr} (h : plainE e = true) (op : CmpOp) : behindInMarks op e = false := by
  cases e <;> first | rfl | cases h
theorem plain_ix {e : Expr} (h : plainE e = true) : PlainIx e := by
  cases e <;> first | (intro _ _; rfl) | cases h
theorem plain_star {e : Expr} {es : List Expr} {env : PySem.Env} (h : plainE e = true) : starEach (e :: es) env = (false, eval e env) :: starEach es env := by
  cases e <;> first | rfl | cases h
theorem plain_fold {e : Expr} {env : PySem.Env} (h : plainE e = true) : ∀ x, foldedSetIterable e env x = pure x := by
  cases e <;> first | (intro _; rfl) | cases h
theorem recv_ok {e : Expr} {f : Str} {env : PySem.Env} (h : recvB e = true) : attributeBase e f env (eval e env) = eval e env := by
  unfold recvB at h
  split at h
  · cases h
  · rename_i hn
    cases e <;> try rfl
    rename_i fn args kws pos
    cases fn <;> try rfl
    cases args <;> try rfl
    cases kws <;> try rfl
    exact absurd rfl (hn _ _ _)
/-! ### each form -/
variable {a b c : Expr} {ma mb mc : Ex} {pos : Pos}
theorem s_bin (g : Good X G C W ck k) (o : Bop) (ha : PE X a (TM G C W ma)) (hb : PE X b (TM G C W mb)) : PE X (.BinOp a o.op b pos) (TM G C W (.bin o ma mb)) := by
  refine (pe_op (or_bin g.K o) ha hb).mono fun σ H Q ⟨μ, ρ, st, S, E, h⟩ => ?_
  simp only [ev] at h
  refine tm_in S E h fun v μ1 st1 H1 t1 S1 E1 h1 x hx => tm_in S1 E1 h1 fun w μ2 st2 H2 t2 S2 E2 h2 y hy => ?_
  obtain ⟨z, ez, q⟩ := lift_ok S2 h2
  exact ⟨μ2, st2, _, _, z, S2, S2.deref (hx.step S1 t2), S2.deref hy, ez, fun μ' H' x' t S' r => q μ' H' t S' x' r⟩
theorem s_neg (g : Good X G C W ck k) (ha : PE X a (TM G C W ma)) : PE X (.UnaryOp .USub a pos) (TM G C W (.neg ma)) := by
  refine (pe_un un_neg ha).mono fun σ H Q ⟨μ, ρ, st, S, E, h⟩ => ?_
  simp only [ev] at h
  refine tm_in S E h fun v μ1 st1 H1 t1 S1 E1 h1 x hx => ?_
  obtain ⟨z, ez, q⟩ := lift_ok S1 h1
  obtain ⟨i, ei, rfl⟩ := Option.map_eq_some_iff.mp ez
  cases v <;> simp only [intV, reduceCtorEq, Option.some.injEq] at ei
  subst ei
  cases (show x = .int _ from hx)
  exact ⟨_, rfl, q μ1 H1 Step.refl S1 _ rfl⟩
theorem s_cmp (g : Good X G C W ck k) (o : Cop) (hp : plainE b = true) (ha : PE X a (TM G C W ma)) (hb : PE X b (TM G C W mb)) : PE X (.Compare a [o.op] [b] pos) (TM G C W (.cmp o ma mb)) ∧ PT X (.Compare a [o.op] [b] pos) (TMT G C W (.cmp o ma mb)) := by
  constructor
  · refine (pe_cmpR (or_cmp g.K g.u o) ha hb (plain_in hp _)).mono fun σ H Q ⟨μ, ρ, st, S, E, h⟩ => ?_
    simp only [ev] at h
    refine tm_in S E h fun v μ1 st1 H1 t1 S1 E1 h1 x hx => tm_in S1 E1 h1 fun w μ2 st2 H2 t2 S2 E2 h2 y hy => ?_
    obtain ⟨z, ez, q⟩ := lift_ok S2 h2
    obtain ⟨r, er, rfl⟩ := Option.map_eq_some_iff.mp ez
    exact ⟨μ2, st2, _, _, r, S2, S2.deref (hx.step S1 t2), S2.deref hy, er, q μ2 H2 Step.refl S2 _ rfl⟩
  · refine (pt_cmpR (or_cmp g.K g.u o) ha hb (plain_in hp _)).mono fun σ H Q ⟨μ, ρ, st, S, E, h⟩ => ?_
    simp only [ev] at h
    refine tm_in S E h fun v μ1 st1 H1 t1 S1 E1 h1 x hx => tm_in S1 E1 h1 fun w μ2 st2 H2 t2 S2 E2 h2 y hy => ?_
    obtain ⟨z, ez, q⟩ := lift_ok S2 h2
    obtain ⟨r, er, rfl⟩ := Option.map_eq_some_iff.mp ez
    obtain ⟨b', eb, q⟩ := q μ2 H2 Step.refl S2
    cases eb
    exact ⟨μ2, st2, _, _, r, S2, S2.deref (hx.step S1 t2), S2.deref hy, er, _, rfl, q⟩
theorem chain_rd (o p : Cop) {σ : LSt} {H : Hp} {Q : VK} (h : TM G C W (.chain o p ma mb mc) σ H Q) : tChain (rCmp G o) (rCmp G p) (TM G C W ma) (TM G C W mb) (TM G C W mc) σ H Q := by
  obtain ⟨μ, ρ, st, S, E, h⟩ := h
  simp only [ev] at h
  refine tm_in S E h fun v μ1 st1 H1 t1 S1 E1 h1 x hx => tm_in S1 E1 h1 fun w μ2 st2 H2 t2 S2 E2 h2 y hy => ?_
  cases e : cmpop o (deref st2 v) (deref st2 w) with
  | none => rw [e] at h2; exact h2.elim
  | some r =>
    rw [e] at h2
    refine ⟨μ2, st2, _, _, r, S2, S2.deref (hx.step S1 t2), S2.deref hy, e, r, rfl, ?_⟩
    cases r with
    | false => exact h2 μ2 H2 Step.refl S2 _ rfl
    | true =>
      refine tm_in S2 E2 h2 fun z μ3 st3 H3 t3 S3 E3 h3 u hu => ?_
      obtain ⟨q', eq, q⟩ := lift_ok S3 h3
      obtain ⟨r', er, rfl⟩ := Option.map_eq_some_iff.mp eq
      exact ⟨μ3, st3, _, _, r', S3, S3.deref (hy.step S2 t3), S3.deref hu, er, q μ3 H3 Step.refl S3 _ rfl⟩
theorem s_chain (g : Good X G C W ck k) (o p : Cop) (hp : plainE b = true) (hq : plainE c = true) (ha : PE X a (TM G C W ma)) (hb : PE X b (TM G C W mb)) (hc : PE X c (TM G C W mc)) :
    PE X (.Compare a [o.op, p.op] [b, c] pos) (TM G C W (.chain o p ma mb mc)) ∧ PT X (.Compare a [o.op, p.op] [b, c] pos) (TMT G C W (.chain o p ma mb mc)) := by
  have hm : lastMarks [o.op, p.op] [b, c] = false := plain_in hq _
  refine ⟨(pe_chain (or_cmp g.K g.u o) (or_cmp g.K g.u p) ha hb hc hm).mono fun σ H Q h => chain_rd o p h, (pt_chain (or_cmp g.K g.u o) (or_cmp g.K g.u p) ha hb hc hm).mono fun σ H Q h => ?_⟩
  exact chain_rd o p (tmt_val h)
theorem s_not (ha : PE X a (TM G C W ma)) : PE X (.UnaryOp .Not a pos) (TM G C W (.not ma)) := by
  refine (pe_not ha).mono fun σ H Q ⟨μ, ρ, st, S, E, h⟩ => ?_
  simp only [ev] at h
  refine tm_in S E h fun v μ1 st1 H1 t1 S1 E1 h1 x hx => ?_
  obtain ⟨z, ez, q⟩ := lift_ok S1 h1
  obtain ⟨i, ei, rfl⟩ := Option.map_eq_some_iff.mp ez
  cases v <;> simp only [boolV, reduceCtorEq, Option.some.injEq] at ei
  subst ei
  exact ⟨_, hx, q μ1 H1 Step.refl S1 _ rfl⟩
theorem s_notT (ha : PT X a (TMT G C W ma)) : PT X (.UnaryOp .Not a pos) (TMT G C W (.not ma)) := by
  refine (pt_not ha).mono fun σ H Q ⟨μ, ρ, st, S, E, h⟩ => ?_
  simp only [ev] at h
  refine tmt_in S E h fun v μ1 st1 H1 t1 S1 E1 h1 => ?_
  obtain ⟨z, ez, q⟩ := lift_ok S1 h1
  obtain ⟨i, ei, rfl⟩ := Option.map_eq_some_iff.mp ez
  cases v <;> simp only [boolV, reduceCtorEq, Option.some.injEq] at ei
  subst ei
  obtain ⟨b', eb, q⟩ := q μ1 H1 Step.refl S1
  cases eb
  exact ⟨_, rfl, q⟩
theorem and_rd {σ : LSt} {H : Hp} {Q : VK} (h : TM G C W (.and ma mb) σ H Q) : tAndV (TM G C W ma) (TM G C W mb) σ H Q := by
  obtain ⟨μ, ρ, st, S, E, h⟩ := h
  simp only [ev] at h
  refine tm_in S E h fun v μ1 st1 H1 t1 S1 E1 h1 x hx => ?_
  split at h1
  · exact ⟨true, hx, μ1, ρ, st1, S1, E1, h1⟩
  · exact ⟨false, hx, h1 μ1 H1 Step.refl S1 _ rfl⟩
  · exact h1.elim
theorem or_rd {σ : LSt} {H : Hp} {Q : VK} (h : TM G C W (.or ma mb) σ H Q) : tOrV (TM G C W ma) (TM G C W mb) σ H Q := by
  obtain ⟨μ, ρ, st, S, E, h⟩ := h
  simp only [ev] at h
  refine tm_in S E h fun v μ1 st1 H1 t1 S1 E1 h1 x hx => ?_
  split at h1
  · exact ⟨true, hx, h1 μ1 H1 Step.refl S1 _ rfl⟩
  · exact ⟨false, hx, μ1, ρ, st1, S1, E1, h1⟩
  · exact h1.elim
theorem and_rdT {σ : LSt} {H : Hp} {Q : Bool → Hp → Prop} (h : TMT G C W (.and ma mb) σ H Q) : tAnd (TMT G C W ma) (TMT G C W mb) σ H Q := by
  obtain ⟨μ, ρ, st, S, E, h⟩ := h
  simp only [ev] at h
  refine tmt_in S E h fun v μ1 st1 H1 t1 S1 E1 h1 => ?_
  split at h1
  · exact ⟨true, rfl, μ1, ρ, st1, S1, E1, h1⟩
  · obtain ⟨b', eb, q⟩ := h1 μ1 H1 Step.refl S1
    cases eb
    exact ⟨false, rfl, q⟩
  · exact h1.elim
theorem or_rdT {σ : LSt} {H : Hp} {Q : Bool → Hp → Prop} (h : TMT G C W (.or ma mb) σ H Q) : tOr (TMT G C W ma) (TMT G C W mb) σ H Q := by
  obtain ⟨μ, ρ, st, S, E, h⟩ := h
  simp only [ev] at h
  refine tmt_in S E h fun v μ1 st1 H1 t1 S1 E1 h1 => ?_
  split at h1
  · obtain ⟨b', eb, q⟩ := h1 μ1 H1 Step.refl S1
    cases eb
    exact ⟨true, rfl, q⟩
  · exact ⟨false, rfl, μ1, ρ, st1, S1, E1, h1⟩
  · exact h1.elim
theorem s_ife (hc : PT X c (TMT G C W mc)) (ha : PE X a (TM G C W ma)) (hb : PE X b (TM G C W mb)) : PE X (.IfExp c a b pos) (TM G C W (.ife mc ma mb)) := by
  refine (pe_ifExp hc ha hb).mono fun σ H Q ⟨μ, ρ, st, S, E, h⟩ => ?_
  simp only [ev] at h
  refine tmt_in S E h fun v μ1 st1 H1 t1 S1 E1 h1 => ?_
  split at h1
  · exact ⟨true, rfl, μ1, ρ, st1, S1, E1, h1⟩
  · exact ⟨false, rfl, μ1, ρ, st1, S1, E1, h1⟩
  · exact h1.elim
theorem s_var (hi : X.N[i]? = some x) (hv : visB X.env.scope x = true) (ho : okName x = true) : PE X (.Name x pos) (TM G C W (.var i)) := by
  obtain ⟨d1, d2⟩ := okN ho
  refine (pe_var hi (vis_of hv) d1 d2).mono fun σ H Q ⟨μ, ρ, st, S, E, h⟩ => ?_
  simp only [ev] at h
  split at h
  · rename_i v e
    obtain ⟨y, e1, r⟩ := E.get i v e
    exact ⟨y, e1, h μ H Step.refl S y r⟩
  · exact h.elim
theorem s_const {m : Ex} {e : Expr} {v : Val} {x : V} (he : PE X e (tC x)) (hm : ∀ ρ st, ev C m ρ st = .ok v st) (hr : ∀ μ H, Rv G μ H v x) : PE X e (TM G C W m) := by
  refine he.mono fun σ H Q ⟨μ, ρ, st, S, E, h⟩ => ?_
  rw [hm] at h
  exact h μ H Step.refl S x (hr μ H)
theorem s_sizes (g : Good X G C W ck k) (hg : glB X.env.scope "SIZES" = true) : PE X (.Name "SIZES" pos) (TM G C W .sizes) := by
  refine (pe_glob (gl_of hg) g.fa.sz (v := .ref G.sz) rfl).mono fun σ H Q ⟨μ, ρ, st, S, E, h⟩ => ?_
  simp only [ev] at h
  refine h μ H Step.refl S _ ?_
  obtain ⟨o, its, n, h1, h2, h3, h4, h5, h6⟩ := g.fa.szO
  show RvP G μ H _ _
  simp only [RvP]
  refine ⟨G.sz, _, rfl, .inr ⟨o, its, n, ?_, h2, h4, h5, h6⟩, ?_⟩
  · rw [← g.K]; exact h1
  · simp only [RvPs, RvP]
    exact ⟨_, _, rfl, rfl, _, _, rfl, rfl, _, _, rfl, rfl, _, _, rfl, rfl, rfl⟩
theorem s_fv (g : Good X G C W ck k) (f : Fn) (hg : glB X.env.scope (f.nm ck.own) = true) (ho : okName (f.nm ck.own) = true) (ha : ck.av f = true) (hm : f.isM = false) : PE X (.Name (f.nm ck.own) pos) (TM G C W (.fv f)) := by
  have h2 := g.fa.mgf f (g.fa.av f ha) hm
  exact s_const (v := .fn f) (x := .ref (G.fa f)) (pe_glob (gl_of hg) h2 rfl (okN ho).1) (fun ρ st => by simp only [ev]) fun _ _ => ⟨rfl, g.fa.av f ha⟩
end
end Sw
end

section
/-! SwSound2: calls, builtins, displays, items. -/
namespace Sw
open PySem L2
section
variable {X : Cx} {G : Gx} {C : Orc} {W : WX} {ck : Ck} {k : Nat} {a b c e : Expr} {es : List Expr} {ma mb mc : Ex} {ms : Exs} {pos p q : Pos}
theorem stars_plain {env : PySem.Env} : ∀ {es : List Expr}, es.all plainE = true → (backTo pos (starEach es env)).any (·.1) = false
  | [], _ => rfl
  | e :: es, h => by
    simp only [List.all_cons, Bool.and_eq_true] at h
    rw [plain_star h.1]
    have := stars_plain (env := env) h.2
    simp only [backTo, List.map_cons, List.any_cons] at this ⊢
    simpa using this
theorem chkA_plain {sc : Scope} : ∀ {ms : Exs} {es : List Expr}, chkA ck sc ms es = true → es.all plainE = true
  | .nil, [], _ => rfl
  | .nil, _ :: _, h => by simp [chkA] at h
  | .cons m ms, [], h => by simp [chkA] at h
  | .cons m ms, e :: es, h => by
    simp only [chkA, Bool.and_eq_true] at h
    simp only [List.all_cons, Bool.and_eq_true]
    exact ⟨h.1.1, chkA_plain h.2⟩
theorem s_nil : PA X [] (TMA G C W .nil) := by
  refine pa_nil.mono fun σ H Q ⟨μ, ρ, st, S, E, h⟩ => ?_
  simp only [evs] at h
  exact h μ H Step.refl S [] .nil
theorem s_cons (hp : plainE e = true) (he : PE X e (TM G C W ma)) (hs : PA X es (TMA G C W ms)) : PA X (e :: es) (TMA G C W (.cons ma ms)) := by
  refine (pa_cons he hs (plain_star hp)).mono fun σ H Q ⟨μ, ρ, st, S, E, h⟩ => ?_
  simp only [evs] at h
  refine tm_in S E h fun v μ1 st1 H1 t1 S1 E1 h1 x hx => tma_in S1 E1 h1 fun vs μ2 st2 H2 t2 S2 E2 h2 xs hxs => ?_
  exact h2 μ2 H2 Step.refl S2 _ (.cons (hx.step S1 t2) hxs)
theorem s_call (g : Good X G C W ck k) (f : Fn) (hg : glB X.env.scope (f.nm ck.own) = true) (ho : okName (f.nm ck.own) = true) (hf : ck.av f = true) (hm : f.isM = false) (hp : (e :: es).all plainE = true) (ha : PA X (e :: es) (TMA G C W ms)) :
    PE X (.Call (.Name (f.nm ck.own) p) (e :: es) [] pos) (TM G C W (.call f ms)) := by
  obtain ⟨fd, ps, h1, h3, h4⟩ := g.fa.fn f (g.fa.av f hf)
  have h2 := g.fa.mgf f (g.fa.av f hf) hm
  simp only [List.all_cons, Bool.and_eq_true] at hp
  refine (pe_callS h1 (g.room.mono (by omega)) (gl_of hg) h2 h3 h4 (L2N.passAt g.tk) ha (okN ho).1 (plain_star hp.1) (stars_plain hp.2)).mono fun σ H Q ⟨μ, ρ, st, S, E, h⟩ => ?_
  simp only [ev] at h
  refine tma_in S E h fun vs μ1 st1 H1 t1 S1 E1 h1 xs hxs => ⟨μ1, vs, st1, S1, hxs, rpost_at h1⟩
theorem s_call0 (g : Good X G C W ck k) (f : Fn) (hg : glB X.env.scope (f.nm ck.own) = true) (ho : okName (f.nm ck.own) = true) (hf : ck.av f = true) (hm : f.isM = false) : PE X (.Call (.Name (f.nm ck.own) p) [] [] pos) (TM G C W (.call f .nil)) := by
  obtain ⟨fd, ps, h1, h3, h4⟩ := g.fa.fn f (g.fa.av f hf)
  have h2 := g.fa.mgf f (g.fa.av f hf) hm
  refine ⟨fun pins s σ H Q I ⟨μ, ρ, st, S, E, h⟩ => ?_⟩
  simp only [ev, evs, Res.bind_ok] at h
  refine wpAny_Call_Name_kw (ld_glob I (gl_of hg) h2 ?_ (okN ho).1)
  exact PySem.W.callWith_K0 I.kIn h3 (run_fnS (us := []) (vs := []) (E := WE W) h1 (g.room.mono (by omega)) h4 (L2N.passAt g.tk σ) I .nil ⟨μ, [], st, S, .nil, rpost_at h⟩)
noncomputable def spA (G : Gx) (C : Orc) : Addr → Option Sp := fun a => open Classical in if h : ∃ f, G.av f = true ∧ G.fa f = a then some (spF G C (Classical.choose h)) else none
theorem spA_at (fa : Facts P w K mg base G C ck k) {f : Fn} (h : G.av f = true) : spA G C (G.fa f) = some (spF G C f) := by
  have hx : ∃ f', G.av f' = true ∧ G.fa f' = G.fa f := ⟨f, h, rfl⟩
  unfold spA
  rw [dif_pos hx, fa.inj _ f (Classical.choose_spec hx).1 h (Classical.choose_spec hx).2]
theorem s_callv (g : Good X G C W ck k) (hs : isSub a = true) (hp : (e :: es).all plainE = true) (hg : PE X a (TM G C W ma)) (ha : PA X (e :: es) (TMA G C W ms)) :
    PE X (.Call a (e :: es) [] pos) (TM G C W (.callv ma ms)) := by
  simp only [List.all_cons, Bool.and_eq_true] at hp
  have hc : eval (.Call a (e :: es) [] pos) X.env = (do callWith pos (← eval a X.env) [] (backTo pos (starEach (e :: es) X.env)) (backToKw pos (keywordEach [] X.env))) := by
    cases a <;> first | rfl | cases hs
  refine (SwR.pe_callV (sp := spA G C) (k := k) (E := WE W) (CX := L2N.CX X.prog X.w) (fun f s hf => ?_) (g.room.mono (by omega)) (L2N.passAt g.tk) hg ha (plain_star hp.1) (stars_plain hp.2) hc).mono fun σ H Q ⟨μ, ρ, st, S, E, h⟩ => ?_
  · unfold spA at hf
    split at hf
    · rename_i hx
      cases hf
      obtain ⟨c1, c2⟩ := Classical.choose_spec hx
      obtain ⟨fd, ps, h1, h3, h4⟩ := g.fa.fn _ c1
      rw [c2] at h1 h3
      exact ⟨fd, ps, h1, h3, h4⟩
    · cases hf
  · simp only [ev] at h
    refine tm_in S E h fun v μ1 st1 H1 t1 S1 E1 h1 x hx => ?_
    split at h1
    · rename_i f
      have hx' : RvP G μ1 H1 (.fn f) x := hx
      simp only [RvP] at hx'
      refine ⟨_, _, hx'.1, spA_at g.fa hx'.2, ?_⟩
      exact tma_in S1 E1 h1 fun vs μ2 st2 H2 t2 S2 E2 h2 xs hxs => ⟨μ2, vs, st2, S2, hxs, rpost_at h2⟩
    · exact h1.elim
/-! ### builtins -/
theorem b1_blt (f : B1) (hf : f ≠ .lenset) : bootBuiltins f.nm = some f.val ∧ (f.nm ≠ "__name__") ∧ (f.nm == ("__debug__" : Str)) = false ∧ f.nm ∈ btNames := by
  cases f <;> first | exact absurd rfl hf | exact ⟨by rfl, by decide, by decide, by decide⟩
theorem s_b1 (g : Good X G C W ck k) (f : B1) (hf : f ≠ .lenset) (hg : glB X.env.scope f.nm = true) (hp : plainE e = true) (ha : PE X e (TM G C W ma)) : PE X (.Call (.Name f.nm p) [e] [] pos) (TM G C W (.b1 f ma)) := by
  obtain ⟨v1, v2, v3, v4⟩ := b1_blt f hf
  have hs := plain_star (es := []) (env := X.env) hp
  have hpa := pa_cons ha pa_nil hs
  have hc := cr_b1 (X := X) g.calm g.K g.u f hf
  have key : PE X (.Call (.Name f.nm p) [e] [] pos) (tCB (rB1 G f) (tCons (TM G C W ma) tNil)) := by
    cases f <;> first
      | exact absurd rfl hf
      | exact pe_callB hc (gl_of hg) (g.fa.bt _ v4) v1 hpa v2 v3 hs rfl
      | exact pe_callTy hc (gl_of hg) (g.fa.bt _ v4) v1 hpa v2 v3 hs rfl
  refine key.mono fun σ H Q ⟨μ, ρ, st, S, E, h⟩ => ?_
  simp only [ev] at h
  refine tm_in S E h fun v μ1 st1 H1 t1 S1 E1 h1 x hx => ?_
  obtain ⟨z, ez, q⟩ := lift_ok S1 h1
  exact ⟨μ1, st1, _, x, z, rfl, S1, S1.deref hx, ez, fun μ' H' x' t S' r => q μ' H' t S' x' r⟩
theorem s_lenset (g : Good X G C W ck k) (hg : glB X.env.scope "len" = true) (hg2 : glB X.env.scope "set" = true) (hp : plainE e = true) (ha : PE X e (TM G C W ma)) :
    PE X (.Call (.Name "len" p) [.Call (.Name "set" q) [e] [] pos'] [] pos) (TM G C W (.b1 .lenset ma)) := by
  refine (SwR.pe_lenSetA (gl_of hg) (g.fa.bt _ (by decide)) (gl_of hg2) (g.fa.bt _ (by decide)) ha g.calm (plain_star (es := []) hp)).mono fun σ H Q ⟨μ, ρ, st, S, E, h⟩ => ?_
  simp only [ev] at h
  refine tm_in S E h fun v μ1 st1 H1 t1 S1 E1 h1 x hx => ?_
  obtain ⟨z, ez, q⟩ := lift_ok S1 h1
  have hd := S1.deref hx
  generalize deref st1 v = w at hd ez
  cases w <;> simp only [op1, reduceCtorEq] at ez
  rename_i ys
  split at ez
  · rename_i ns en
    split at ez
    · rename_i hl
      cases ez
      obtain ⟨l, zs, rfl, h2, h3⟩ := hd
      obtain ⟨q1, _⟩ := h3.intsOf en
      subst q1
      refine ⟨l, ns, rfl, SqL.of h2, hl, ?_⟩
      rw [← metL_eq]
      exact q μ1 H1 Step.refl S1 _ rfl
    · cases ez
  · cases ez
theorem s_b2 (g : Good X G C W ck k) (f : B2) (hg : glB X.env.scope f.nm = true) (hp : plainE a = true) (hq : plainE b = true) (ha : PE X a (TM G C W ma)) (hb : PE X b (TM G C W mb)) : PE X (.Call (.Name f.nm p) [a, b] [] pos) (TM G C W (.b2 f ma mb)) := by
  have hs := plain_star (es := [b]) (env := X.env) hp
  have hs2 := plain_star (es := []) (env := X.env) hq
  have hpa := pa_cons ha (pa_cons hb pa_nil hs2) hs
  have hc := cr_b2 (X := X) (G := G) g.calm f
  have hpl : (backTo pos (starEach [b] X.env)).any (·.1) = false := stars_plain (by simp [hq])
  have key : PE X (.Call (.Name f.nm p) [a, b] [] pos) (tCB (rB2 G f) (tCons (TM G C W ma) (tCons (TM G C W mb) tNil))) := by
    cases f
    · exact pe_callB hc (gl_of hg) (g.fa.bt _ (by decide)) (by rfl) hpa (by decide) (by decide) hs hpl
    · exact pe_callB hc (gl_of hg) (g.fa.bt _ (by decide)) (by rfl) hpa (by decide) (by decide) hs hpl
  refine key.mono fun σ H Q ⟨μ, ρ, st, S, E, h⟩ => ?_
  simp only [ev] at h
  refine tm_in S E h fun v μ1 st1 H1 t1 S1 E1 h1 x hx => tm_in S1 E1 h1 fun w μ2 st2 H2 t2 S2 E2 h2 y hy => ?_
  obtain ⟨z, ez, q⟩ := lift_ok S2 h2
  exact ⟨μ2, st2, _, _, x, y, z, rfl, S2, hx.step S1 t2, hy, ez, fun μ' H' x' t S' r => q μ' H' t S' x' r⟩
/-! ### methods of built-in types -/
theorem s_m1 (g : Good X G C W ck k) (f : M1) (hf : f ≠ .tix) {ap cp : Pos} (hr : recvB a = true) (hl : (ap.endLine == cp.line) = true) (hp : plainE e = true) (ho : PE X a (TM G C W ma)) (ha : PE X e (TM G C W mb)) : PE X (.Call (.Attribute a f.nm ap) [e] [] cp) (TM G C W (.m1 f ma mb)) := by
  have hs := plain_star (es := []) (env := X.env) hp
  have hpa := pa_cons ha pa_nil hs
  have hfew : ((backTo cp (starEach [e] X.env)).all (fun x => !x.1) && (backToKw cp (keywordEach [] X.env)).all (fun x => x.1.isSome) && decide ([e].length + ([] : List Keyword).length + (if ([] : List Keyword).isEmpty then 0 else 1) < 30)) = true := by
    rw [hs]; rfl
  have key : ∀ T, (T = "list" ∧ (f = .index ∨ f = .count) ∨ T = "str" ∧ f = .join) → PE X (.Call (.Attribute a f.nm ap) [e] [] cp) (tBM X.K T (rM1 G f) (TM G C W ma) (tCons (TM G C W mb) tNil)) := by
    rintro T (⟨rfl, rfl | rfl⟩ | ⟨rfl, rfl⟩)
    · exact pe_bm PySem.F.plainAttrs_list PySem.F.slot_list_index PySem.F.type_list_index (mt_indexL g.K) ho hpa (recv_ok hr) hfew hl hs rfl
    · exact pe_bm PySem.F.plainAttrs_list PySem.F.slot_list_count PySem.F.type_list_count mt_countL ho hpa (recv_ok hr) hfew hl hs rfl
    · exact pe_bm PySem.F.plainAttrs_str PySem.F.slot_str_join PySem.F.type_str_join (mt_joinL g.K) ho hpa (recv_ok hr) hfew hl hs rfl
  have main : ∀ T, (∀ μ1 H1 v x, RvD G μ1 H1 v x → recvOk f v = true → tyV X.K T x H1) → PE X (.Call (.Attribute a f.nm ap) [e] [] cp) (tBM X.K T (rM1 G f) (TM G C W ma) (tCons (TM G C W mb) tNil)) → PE X (.Call (.Attribute a f.nm ap) [e] [] cp) (TM G C W (.m1 f ma mb)) := fun T hT hk => by
    refine hk.mono fun σ H Q ⟨μ, ρ, st, S, E, h⟩ => ?_
    simp only [ev] at h
    refine tm_in S E h fun v μ1 st1 H1 t1 S1 E1 h1 x hx => ?_
    split at h1
    · rename_i hok
      refine ⟨hT μ1 H1 _ x (S1.deref hx) hok, ?_⟩
      refine tm_in S1 E1 h1 fun w μ2 st2 H2 t2 S2 E2 h2 y hy => ?_
      obtain ⟨z, ez, q⟩ := lift_ok S2 h2
      exact ⟨μ2, st2, _, w, y, z, rfl, S2, S2.deref (hx.step S1 t2), hy, ez, fun μ' H' x' t S' r => q μ' H' t S' x' r⟩
    · exact h1.elim
  have lists : ∀ μ1 H1 v x, RvD G μ1 H1 v x → (∃ xs, v = .lst xs) → tyV X.K "list" x H1 := by
    rintro μ1 H1 v x hx ⟨xs, rfl⟩
    obtain ⟨l, zs, rfl, h2, h3⟩ := hx
    exact .inl ⟨rfl, zs, SqL.of h2⟩
  cases f with
  | tix => exact absurd rfl hf
  | index => exact main "list" (fun μ1 H1 v x hx hv => lists μ1 H1 v x hx (by cases v <;> first | exact ⟨_, rfl⟩ | cases hv)) (key _ (.inl ⟨rfl, .inl rfl⟩))
  | count => exact main "list" (fun μ1 H1 v x hx hv => lists μ1 H1 v x hx (by cases v <;> first | exact ⟨_, rfl⟩ | cases hv)) (key _ (.inl ⟨rfl, .inr rfl⟩))
  | join =>
    refine main "str" (fun μ1 H1 v x hx hv => ?_) (key _ (.inr ⟨rfl, rfl⟩))
    cases v <;> first | cases hv | skip
    cases (show x = .str _ from hx)
    rfl
theorem s_tix (g : Good X G C W ck k) {ap cp : Pos} (hg : glB X.env.scope "SIZES" = true) (hl : (ap.endLine == cp.line) = true) (hp : plainE e = true) (ha : PE X e (TM G C W mb)) : PE X (.Call (.Attribute (.Name "SIZES" p) "index" ap) [e] [] cp) (TM G C W (.m1 .tix .sizes mb)) := by
  have hs := plain_star (es := []) (env := X.env) hp
  have hpa := pa_cons ha pa_nil hs
  have hfew : ((backTo cp (starEach [e] X.env)).all (fun x => !x.1) && (backToKw cp (keywordEach [] X.env)).all (fun x => x.1.isSome) && decide ([e].length + ([] : List Keyword).length + (if ([] : List Keyword).isEmpty then 0 else 1) < 30)) = true := by
    rw [hs]; rfl
  refine (pe_bm PySem.F.plainAttrs_tuple PySem.F.slot_tuple_index PySem.F.type_tuple_index (mt_indexT g.K) (pe_glob (gl_of hg) g.fa.sz (v := .ref G.sz) rfl) hpa rfl hfew hl hs rfl).mono fun σ H Q ⟨μ, ρ, st, S, E, h⟩ => ?_
  simp only [ev, Res.bind_ok, deref, recvOk, if_true] at h
  obtain ⟨o, its, n, h1, h2, h3, h4, h5, h6⟩ := g.fa.szO
  refine ⟨.inr (.inl ⟨rfl, o, h1, h2, h3⟩), ?_⟩
  refine tm_in S E h fun w μ2 st2 H2 t2 S2 E2 h2' y hy => ?_
  obtain ⟨z, ez, q⟩ := lift_ok S2 h2'
  refine ⟨μ2, st2, _, w, y, z, rfl, S2, ?_, hy, ez, fun μ' H' x' t S' r => q μ' H' t S' x' r⟩
  show RvP G μ2 H2 _ _
  simp only [RvP]
  refine ⟨G.sz, _, rfl, .inr ⟨o, its, n, ?_, h2, h4, h5, h6⟩, ?_⟩
  · rw [← g.K]; exact h1
  · simp only [RvPs, RvP]
    exact ⟨_, _, rfl, rfl, _, _, rfl, rfl, _, _, rfl, rfl, _, _, rfl, rfl, rfl⟩
/-! ### isinstance -/
def Ty.ty : Ty → String
  | .int => "int" | .bool => "bool" | .tuple => "tuple" | .list => "list" | .str => "str" | .tuner => ""
def vty : Val → String
  | .non => "NoneType" | .bl _ => "bool" | .int _ => "int" | .str _ => "str" | .tup _ => "tuple" | .lst _ => "list" | _ => ""
def vtyS (st : Store) : Val → String
  | .box _ => "list"
  | v => vty v
theorem ty_of {μ : Mu} {H : Hp} {v : Val} {x : V} {t : Ty} {st : Store} {b : Bool} (S : StOk G μ st H) (ht : t ≠ .tuner) (h : Rv G μ H v x) (e : isTy st v t = some b) : TyX G.K H x (.type (vtyS st v)) ∧ kitB (vtyS st v) t.ty = some b := by
  cases v with
  | non =>
    cases (show x = .non from h)
    refine ⟨.base .non, ?_⟩
    cases t <;> simp only [isTy, Option.some.injEq] at e <;> subst e <;> first | (exact absurd rfl ht) | (show kitB "NoneType" _ = _; decide +kernel)
  | bl c =>
    cases (show x = .bl _ from h)
    refine ⟨.base (.bl _), ?_⟩
    cases t <;> simp only [isTy, Option.some.injEq] at e <;> subst e <;> first | (exact absurd rfl ht) | (show kitB "bool" _ = _; decide +kernel)
  | int c =>
    cases (show x = .int _ from h)
    refine ⟨.base (.int _), ?_⟩
    cases t <;> simp only [isTy, Option.some.injEq] at e <;> subst e <;> first | (exact absurd rfl ht) | (show kitB "int" _ = _; decide +kernel)
  | str c =>
    cases (show x = .str _ from h)
    refine ⟨.base (.str _), ?_⟩
    cases t <;> simp only [isTy, Option.some.injEq] at e <;> subst e <;> first | (exact absurd rfl ht) | (show kitB "str" _ = _; decide +kernel)
  | tup c =>
    have h' : RvP G μ H (.tup c) x := h
    simp only [RvP] at h'
    obtain ⟨a, ys, rfl, h1, _⟩ := h'
    refine ⟨?_, ?_⟩
    · rcases h1 with (h1 | ⟨o, h1⟩) | ⟨o, its, n, h1, h2, _⟩
      · exact .base (.tup h1)
      · exact .fTuple h1
      · exact .kTuple h1 h2
    · cases t <;> simp only [isTy, Option.some.injEq] at e <;> subst e <;> first | (exact absurd rfl ht) | (show kitB "tuple" _ = _; decide +kernel)
  | lst c =>
    have h' : RvP G μ H (.lst c) x := h
    simp only [RvP] at h'
    obtain ⟨a, ys, rfl, h1, _⟩ := h'
    refine ⟨.base (.lst h1), ?_⟩
    cases t <;> simp only [isTy, Option.some.injEq] at e <;> subst e <;> first | (exact absurd rfl ht) | (show kitB "list" _ = _; decide +kernel)
  | slst c => cases t <;> simp only [isTy, reduceCtorEq] at e
  | fn f => cases t <;> simp only [isTy, reduceCtorEq] at e
  | box n =>
    obtain ⟨p, h1, rfl⟩ := h
    have hs : ∃ xs, st[n]? = some (.list xs) ∧ b = decide (t = .list) := by
      cases t <;> simp only [isTy] at e <;> first
        | exact absurd rfl ht
        | (split at e
           · rename_i xs hx
             exact ⟨xs, hx, by simpa using e.symm⟩
           · simp at e
           · cases e)
    obtain ⟨xs, hx, rfl⟩ := hs
    obtain ⟨_, ys, h3, _⟩ := S.cell n p _ h1 hx
    refine ⟨.base (.lst h3), ?_⟩
    show kitB "list" _ = _
    cases t <;> first | exact absurd rfl ht | decide +kernel
theorem ty_blt (t : Ty) (ht : t ≠ .tuner) : bootBuiltins t.nm = some (.type t.ty) ∧ t.nm ∈ btNames ∧ t.nm ≠ "__name__" ∧ (t.nm == ("__debug__" : Str)) = false := by
  cases t <;> first | exact absurd rfl ht | exact ⟨by rfl, by decide, by decide, by decide⟩
theorem s_isi (g : Good X G C W ck k) (t : Ty) (ht : t ≠ .tuner) (hg : glB X.env.scope "isinstance" = true) (hg2 : glB X.env.scope t.nm = true) (hp : plainE e = true) (ha : PE X e (TM G C W ma)) : PE X (.Call (.Name "isinstance" p) [e, .Name t.nm q] [] pos) (TM G C W (.isi ma t)) := by
  obtain ⟨v1, v2, v3, v4⟩ := ty_blt t ht
  have hs := plain_star (es := [.Name t.nm q]) (env := X.env) hp
  have hb : PE X (.Name t.nm q) (tC (.ty t.ty)) := pe_bltn (gl_of hg2) (g.fa.bt _ v2) v1 rfl v3 v4
  refine (pe_callB call_isi (gl_of hg) (g.fa.bt _ (by decide)) (by rfl) (pa_cons ha (pa_cons hb pa_nil) hs) (by decide) (by decide) hs rfl).mono fun σ H Q ⟨μ, ρ, st, S, E, h⟩ => ?_
  simp only [ev] at h
  refine tm_in S E h fun v μ1 st1 H1 t1 S1 E1 h1 x hx => ?_
  obtain ⟨z, ez, q⟩ := lift_ok S1 h1
  obtain ⟨r, er, rfl⟩ := Option.map_eq_some_iff.mp ez
  obtain ⟨k1, k2⟩ := ty_of S1 ht hx er
  rw [← g.K] at k1
  exact ⟨x, .ty t.ty, _, _, r, rfl, .ty _, k1, kit_ty k2, q μ1 H1 Step.refl S1 _ rfl⟩
/-! ### displays, items, slices -/
theorem s_tup {x1 : _} (hs : PA X es (TMA G C W ms)) : PE X (.Tuple es x1 pos) (TM G C W (.tup ms)) := by
  refine (pe_tup hs).mono fun σ H Q ⟨μ, ρ, st, S, E, h⟩ => ?_
  simp only [ev] at h
  refine tma_in S E h fun vs μ1 st1 H1 t1 S1 E1 h1 xs hxs => ?_
  split at h1
  · rename_i hl
    simp only [Bool.and_eq_true, decide_eq_true_eq] at hl
    have := hxs.length
    have := lim_le
    exact ⟨by omega, new_tup S1 (hxs.p hl.1) fun μ' H' x' t S' r => h1 μ' H' t S' x' r⟩
  · exact h1.elim
theorem s_lst (hs : PA X es (TMA G C W ms)) : PE X (.List es pos) (TM G C W (.lst ms)) := by
  refine (pe_lst hs).mono fun σ H Q ⟨μ, ρ, st, S, E, h⟩ => ?_
  simp only [ev] at h
  refine tma_in S E h fun vs μ1 st1 H1 t1 S1 E1 h1 xs hxs => ?_
  split at h1
  · rename_i hl
    simp only [Bool.and_eq_true, decide_eq_true_eq] at hl
    have := hxs.length
    have := lim_le
    exact ⟨by omega, new_lst S1 (hxs.p hl.1) fun μ' H' x' t S' r => h1 μ' H' t S' x' r⟩
  · exact h1.elim
theorem s_idx (g : Good X G C W ck k) (hp : plainE b = true) (ha : PE X a (TM G C W ma)) (hb : PE X b (TM G C W mb)) : PE X (.Subscript a b pos) (TM G C W (.idx ma mb)) := by
  refine (pe_ix (ix_v g.K) ha hb (plain_ix hp)).mono fun σ H Q ⟨μ, ρ, st, S, E, h⟩ => ?_
  simp only [ev] at h
  refine tm_in S E h fun v μ1 st1 H1 t1 S1 E1 h1 x hx => tm_in S1 E1 h1 fun w μ2 st2 H2 t2 S2 E2 h2 y hy => ?_
  obtain ⟨z, ez, q⟩ := lift_ok S2 h2
  exact ⟨μ2, st2, _, _, z, S2, S2.deref (hx.step S1 t2), hy, ez, fun x' r => q μ2 H2 Step.refl S2 x' r.rv⟩
theorem s_onone : PO X none (TMO G C W .none) := by
  refine po_none.mono fun σ H Q ⟨μ, ρ, st, S, E, h⟩ => ?_
  simp only [evo] at h
  exact h μ H Step.refl S
theorem s_osome (ha : PE X a (TM G C W ma)) : PO X (some a) (TMO G C W (.some ma)) := by
  refine (po_some ha).mono fun σ H Q ⟨μ, ρ, st, S, E, h⟩ => ?_
  simp only [evo] at h
  refine tm_in S E h fun v μ1 st1 H1 t1 S1 E1 h1 x hx => ?_
  obtain ⟨z, ez, q⟩ := lift_ok S1 h1
  obtain ⟨i, ei, rfl⟩ := Option.map_eq_some_iff.mp ez
  cases v <;> simp only [intV, reduceCtorEq, Option.some.injEq] at ei
  subst ei
  cases (show x = .int _ from hx)
  exact ⟨_, rfl, q μ1 H1 Step.refl S1⟩
theorem s_sl (g : Good X G C W ck k) {lo hi : Option Expr} {ml mh : OEx} {p2 : Pos} (ha : PE X a (TM G C W ma)) (hl : PO X lo (TMO G C W ml)) (hh : PO X hi (TMO G C W mh)) : PE X (.Subscript a (.Slice lo hi none p2) pos) (TM G C W (.sl ma ml mh)) := by
  refine (pe_slice (sl_v g.K) ha hl hh).mono fun σ H Q ⟨μ, ρ, st, S, E, h⟩ => ?_
  simp only [ev] at h
  refine tm_in S E h fun v μ1 st1 H1 t1 S1 E1 h1 x hx => tmo_in S1 E1 h1 fun l μ2 st2 H2 t2 S2 E2 h2 => tmo_in S2 E2 h2 fun u μ3 st3 H3 t3 S3 E3 h3 => ?_
  obtain ⟨z, ez, q⟩ := lift_ok S3 h3
  exact ⟨μ3, st3, _, z, S3, S3.deref ((hx.step S1 t2).step S2 t3), ez, fun μ' H' x' t S' r => q μ' H' t S' x' r⟩
theorem s_rev (g : Good X G C W ck k) {n : _} {p1 p2 p3 : Pos} (ha : PE X a (TM G C W ma)) : PE X (.Subscript a (.Slice none none (some (.UnaryOp .USub (.Constant (.int 1) n p1) p2)) p3) pos) (TM G C W (.rev ma)) := by
  refine (pe_revL ha).mono fun σ H Q ⟨μ, ρ, st, S, E, h⟩ => ?_
  simp only [ev] at h
  refine tm_in S E h fun v μ1 st1 H1 t1 S1 E1 h1 x hx => ?_
  have hd := S1.deref hx
  generalize deref st1 v = w at hd h1
  split at h1
  · obtain ⟨l, zs, rfl, h2, h3⟩ := hd
    exact ⟨l, zs, rfl, SqL.of h2, new_lst S1 h3.reverse fun μ' H' x' t S' r => h1 μ' H' t S' x' r⟩
  · exact h1.elim
end
end Sw
end

section
/-! SwSound3: what is walked; comprehensions. -/
namespace Sw
open PySem L2
section
variable {X : Cx} {G : Gx} {C : Orc} {W : WX} {ck : Ck} {k : Nat} {a b c e tg : Expr} {ma mb : Ex} {pos p : Pos}
/-- a list, a tuple or a text -/
def iAny (K : PySem.W.Frag) (tl : TE) : TI := fun σ H R => tl σ H fun x H1 => (∃ a, x = .ref a ∧ (∃ xs, SqL K H1 a xs) ∧ R (Itl K a) H1) ∨ (∃ a, x = .ref a ∧ (∃ xs, SqT K H1 a xs) ∧ R (Itt K a) H1) ∨ ∃ s, x = .str s ∧ R (Its s) H1
theorem pi_any {l : Expr} {tl : TE} (hl : PE X l tl) : PI X tg l (iAny X.K tl) := by
  refine ⟨fun pins s σ H R I h => ?_⟩
  refine thn (hl.run pins s σ H _ I h) fun v s1 ⟨x, H1, I1, r1, q1⟩ => ?_
  rcases q1 with ⟨a, e, ⟨xs, hq⟩, q⟩ | ⟨a, e, ⟨xs, hq⟩, q⟩ | ⟨y, e, q⟩
  · subst e
    cases r1
    obtain ⟨its, rv, p, hz⟩ := I1.list hq
    exact wpAny_pyIter_list p.isList (pi_one (tk := s1.toks) I1 _ (turn_list a _) ⟨_, Heap.get?_push_size _ rfl, rfl, rfl⟩ q)
  · subst e
    cases r1
    obtain ⟨its, rv, p, hz⟩ := I1.tuple hq
    exact wpAny_pyIter_tuple (show s1.heap.IsTuple a its.toArray from p) (pi_one (tk := s1.toks) I1 _ (turn_tuple a _) ⟨_, Heap.get?_push_size _ rfl, rfl, rfl⟩ q)
  · subst e
    obtain ⟨t, rfl⟩ := r1
    cases ha : y.cps.all (· < 128)
    · exact wpAny_pyIter_wide ha (pi_one (tk := s1.toks) I1 _ (turn_str _ y t "str_iterator" (.inr rfl)) ⟨_, Heap.get?_push_size _ rfl, rfl, rfl⟩ q)
    · exact wpAny_pyIter_ascii ha (pi_one (tk := s1.toks) I1 _ (turn_str _ y t "str_ascii_iterator" (.inl rfl)) ⟨_, Heap.get?_push_size _ rfl, rfl, rfl⟩ q)
/-- lists, tuples: what stands at every later state while the cell bx is as it was -/
def SeqLater (G : Gx) (t : Bool) (a : Addr) (xs : List Val) (bx : Option (Nat × List Val)) (μ : Mu) (st : Store) (H : Hp) : Prop :=
  ∀ μ' st' H', Step μ st H μ' st' H' → StOk G μ' st' H' → bxOk st' bx = true → ∃ ys, SwR.SqK t G.K H' a ys ∧ RvPs G μ' H' xs ys
section
variable {μ : Mu} {st : Store} {H : Hp} {x : V}
theorem later_tup {xs : List Val} (S : StOk G μ st H) (h : Rv G μ H (.tup xs) x) : ∃ a, x = .ref a ∧ SeqLater G true a xs none μ st H := by
  have h' : RvP G μ H (.tup xs) x := h
  simp only [RvP] at h'
  obtain ⟨a, ys, rfl, h1, h2⟩ := h'
  exact ⟨a, rfl, fun μ' st' H' t S' _ => ⟨ys, S.sqT t h1, h2.step S t⟩⟩
theorem later_lst {xs : List Val} (S : StOk G μ st H) (h : Rv G μ H (.lst xs) x) : ∃ a, x = .ref a ∧ SeqLater G false a xs none μ st H := by
  have h' : RvP G μ H (.lst xs) x := h
  simp only [RvP] at h'
  obtain ⟨a, ys, rfl, h1, n, h2⟩ := h'
  exact ⟨a, rfl, fun μ' st' H' t S' _ => ⟨ys, SqL.of (t.frame a _ h1 n).1, h2.step S t⟩⟩
theorem later_box {xs : List Val} {n : Nat} (S : StOk G μ st H) (h : Rv G μ H (.box n) x) : ∃ a, x = .ref a ∧ SeqLater G false a xs (some (n, xs)) μ st H := by
  obtain ⟨p, h1, rfl⟩ := h
  refine ⟨p.1, rfl, fun μ' st' H' t S' hb => ?_⟩
  obtain ⟨p', h2, e⟩ := t.fst n p h1
  simp only [bxOk] at hb
  split at hb
  · rename_i ys hs
    have := vbeqs_eq _ _ hb
    subst this
    obtain ⟨_, zs, h3, h4⟩ := S'.cell n p' _ h2 hs
    rw [e] at h3
    exact ⟨zs, SqL.of h3, h4⟩
  · cases hb
end
variable {μ : Mu} {st : Store} {H : Hp}
theorem get1 {xs : List Val} {i : Nat} {vs : List Val} (h : (xs.map ([·]))[i]? = some vs) : ∃ v, vs = [v] ∧ xs[i]? = some v := by
  rw [List.getElem?_map] at h
  obtain ⟨v, e, rfl⟩ := Option.map_eq_some_iff.mp h
  exact ⟨v, rfl, e⟩
theorem y_list {a : Addr} {xs : List Val} {bx : Option (Nat × List Val)} (L : SeqLater G false a xs bx μ st H) : Yields G false (Itl G.K a) (xs.map ([·]), bx) μ st H := fun μ' st' H' t S' hb i => by
  obtain ⟨ys, h1, h2⟩ := L μ' st' H' t S' hb
  refine ⟨fun vs hv => ?_, fun e => ⟨ys, h1, ?_⟩⟩
  · obtain ⟨v, rfl, e⟩ := get1 hv
    obtain ⟨y, e1, r⟩ := h2.get e
    refine ⟨⟨ys, y, h1, e1⟩, fun z H2 ⟨eH, hz⟩ => .inl ⟨rfl, eH, v, rfl, ?_⟩⟩
    have := hz ys h1
    rw [e1] at this
    cases this
    exact r.rv
  · rw [← h2.length]; simp at e; omega
theorem y_tup {a : Addr} {xs : List Val} {bx : Option (Nat × List Val)} (L : SeqLater G true a xs bx μ st H) : Yields G false (Itt G.K a) (xs.map ([·]), bx) μ st H := fun μ' st' H' t S' hb i => by
  obtain ⟨ys, h1, h2⟩ := L μ' st' H' t S' hb
  refine ⟨fun vs hv => ?_, fun e => ⟨ys, h1, ?_⟩⟩
  · obtain ⟨v, rfl, e⟩ := get1 hv
    obtain ⟨y, e1, r⟩ := h2.get e
    refine ⟨⟨ys, y, h1, e1⟩, fun z H2 ⟨eH, hz⟩ => .inl ⟨rfl, eH, v, rfl, ?_⟩⟩
    have := hz ys h1
    rw [e1] at this
    cases this
    exact r.rv
  · rw [← h2.length]; simp at e; omega
theorem y_str {x : Str} : Yields G false (Its x) ((signs x).map ([·]), none) μ st H := fun μ' st' H' t S' hb i => by
  refine ⟨fun vs hv => ?_, fun e => ?_⟩
  · obtain ⟨v, rfl, e⟩ := get1 hv
    unfold signs at e
    rw [List.getElem?_map] at e
    obtain ⟨c, e1, rfl⟩ := Option.map_eq_some_iff.mp e
    rw [Array.getElem?_toList] at e1
    refine ⟨?_, fun z H2 ⟨eH, d, hd, hz⟩ => .inl ⟨rfl, eH, _, rfl, ?_⟩⟩
    · exact (Array.getElem?_eq_some_iff.mp e1).1
    · rw [e1] at hd
      cases hd
      exact hz
  · show x.cps.size ≤ i
    simp [signs] at e
    omega
theorem y_range {n : Nat} : Yields G false (Itr 0 n) ((List.range n).map (fun i => [.int (i : Nat)]), none) μ st H := fun μ' st' H' t S' hb i => by
  refine ⟨fun vs hv => ?_, fun e => ?_⟩
  · rw [List.getElem?_map] at hv
    obtain ⟨j, e1, rfl⟩ := Option.map_eq_some_iff.mp hv
    have hj := List.getElem?_eq_some_iff.mp e1
    obtain ⟨hl, hj⟩ := hj
    simp at hl hj
    subst hj
    refine ⟨hl, fun z H2 ⟨eH, hz⟩ => .inl ⟨rfl, eH, _, rfl, ?_⟩⟩
    rw [hz]
    show V.int _ = V.int _
    simp
  · show n ≤ i
    simp at e
    omega
theorem enum_get : ∀ (xs : List Val) (n i : Nat) (vs : List Val), (enumV n xs)[i]? = some vs → ∃ v, vs = [.int ((n + i : Nat) : Int), v] ∧ xs[i]? = some v
  | [], n, i, vs, h => by simp [enumV] at h
  | x :: xs, n, 0, vs, h => by
    simp [enumV] at h
    exact ⟨x, by rw [← h]; simp, rfl⟩
  | x :: xs, n, i + 1, vs, h => by
    simp only [enumV, List.getElem?_cons_succ] at h
    obtain ⟨v, h1, h2⟩ := enum_get xs (n + 1) i vs h
    exact ⟨v, by rw [h1]; congr 2; congr 1; omega, by simpa using h2⟩
theorem enum_len : ∀ (xs : List Val) (n : Nat), (enumV n xs).length = xs.length
  | [], n => rfl
  | x :: xs, n => by simp [enumV, enum_len xs]
theorem zip_get : ∀ (xs ys : List Val) (i : Nat) (vs : List Val), (zipV xs ys)[i]? = some vs → ∃ v w, vs = [v, w] ∧ xs[i]? = some v ∧ ys[i]? = some w
  | [], ys, i, vs, h => by simp [zipV] at h
  | x :: xs, [], i, vs, h => by simp [zipV] at h
  | x :: xs, y :: ys, 0, vs, h => by
    simp [zipV] at h
    exact ⟨x, y, h.symm, rfl, rfl⟩
  | x :: xs, y :: ys, i + 1, vs, h => by
    simp only [zipV, List.getElem?_cons_succ] at h
    obtain ⟨v, w, h1, h2, h3⟩ := zip_get xs ys i vs h
    exact ⟨v, w, h1, by simpa using h2, by simpa using h3⟩
theorem zip_len : ∀ (xs ys : List Val), (zipV xs ys).length = min xs.length ys.length
  | [], ys => by simp [zipV]
  | x :: xs, [] => by simp [zipV]
  | x :: xs, y :: ys => by simp [zipV, zip_len xs ys]
theorem y_enum {t : Bool} {a : Addr} {xs : List Val} {bx : Option (Nat × List Val)} (L : SeqLater G t a xs bx μ st H) : Yields G true (SwR.ItE G.K t a) (enumV 0 xs, bx) μ st H := fun μ' st' H' tt S' hb i => by
  obtain ⟨ys, h1, h2⟩ := L μ' st' H' tt S' hb
  refine ⟨fun vs hv => ?_, fun e => ⟨ys, h1, ?_⟩⟩
  · obtain ⟨v, rfl, e⟩ := enum_get xs 0 i vs hv
    obtain ⟨y, e1, r⟩ := h2.get e
    refine ⟨⟨ys, y, h1, e1⟩, fun z H2 ⟨T, u, hz, hn, eH, hu⟩ => .inr ⟨rfl, T, _, _, _, _, hn, hz, eH, rfl, ?_, ?_⟩⟩
    · show V.int _ = V.int _
      simp
    · have := hu ys h1
      rw [e1] at this
      cases this
      exact r.rv
  · rw [← h2.length]; simp only [enum_len] at e; exact e
theorem y_zip {t1 t2 : Bool} {a b : Addr} {xs zs : List Val} {bx : Option (Nat × List Val)} (L : SeqLater G t1 a xs bx μ st H) (M : SeqLater G t2 b zs none μ st H) : Yields G true (SwR.ItZ G.K t1 t2 a b) (zipV xs zs, bx) μ st H := fun μ' st' H' tt S' hb i => by
  obtain ⟨ys, h1, h2⟩ := L μ' st' H' tt S' hb
  obtain ⟨us, g1, g2⟩ := M μ' st' H' tt S' rfl
  refine ⟨fun vs hv => ?_, fun e => ⟨ys, us, h1, g1, ?_⟩⟩
  · obtain ⟨v, w, rfl, e, f⟩ := zip_get xs zs i vs hv
    obtain ⟨y, e1, r⟩ := h2.get e
    obtain ⟨u, f1, q⟩ := g2.get f
    refine ⟨⟨ys, us, y, u, h1, g1, e1, f1⟩, fun z H2 ⟨T, u1, u2, hz, hn, eH, hu1, hu2⟩ => .inr ⟨rfl, T, _, _, _, _, hn, hz, eH, rfl, ?_, ?_⟩⟩
    · have := hu1 ys h1
      rw [e1] at this
      cases this
      exact r.rv
    · have := hu2 us g1
      rw [f1] at this
      cases this
      exact q.rv
  · rw [← h2.length, ← g2.length]; simp only [zip_len] at e; exact e.symm
/-! ### the walks -/
theorem s_over (g : Good X G C W ck k) (ha : PE X a (TM G C W ma)) : PI X tg a (TMI G C W (.over ma)) := by
  refine (pi_any ha).mono fun σ H R ⟨μ, ρ, st, S, E, h⟩ => ?_
  simp only [evi] at h
  refine tm_in S E h fun v μ1 st1 H1 t1 S1 E1 h1 x hx => ?_
  obtain ⟨is, ez, q⟩ := lift_ok S1 h1
  have q := q μ1 H1 Step.refl S1
  rw [g.K]
  cases v <;> simp only [overV, reduceCtorEq, Option.some.injEq] at ez
  · cases (show x = .str _ from hx)
    subst ez
    exact .inr (.inr ⟨_, rfl, q _ y_str⟩)
  · subst ez
    obtain ⟨a, rfl, L⟩ := later_tup S1 hx
    obtain ⟨ys, h2, _⟩ := L μ1 st1 H1 Step.refl S1 rfl
    exact .inr (.inl ⟨a, rfl, ⟨ys, h2⟩, q _ (y_tup L)⟩)
  · subst ez
    obtain ⟨a, rfl, L⟩ := later_lst S1 hx
    obtain ⟨ys, h2, _⟩ := L μ1 st1 H1 Step.refl S1 rfl
    exact .inl ⟨a, rfl, ⟨ys, h2⟩, q _ (y_list L)⟩
  · split at ez
    · rename_i n xs hs
      cases ez
      obtain ⟨a, rfl, L⟩ := later_box (xs := xs) S1 hx
      obtain ⟨ys, h2, _⟩ := L μ1 st1 H1 Step.refl S1 (by simp [bxOk, hs, vbeqs_refl])
      exact .inl ⟨a, rfl, ⟨ys, h2⟩, q _ (y_list L)⟩
    · cases ez
theorem s_range (g : Good X G C W ck k) (hg : glB X.env.scope "range" = true) (hp : plainE a = true) (ha : PE X a (TM G C W ma)) : PI X tg (.Call (.Name "range" p) [a] [] pos) (TMI G C W (.range ma)) := by
  have hs := plain_star (es := []) (env := X.env) hp
  refine (pi_range1 (gl_of hg) (g.fa.bt _ (by decide)) (pa_cons ha pa_nil hs) hs).mono fun σ H R ⟨μ, ρ, st, S, E, h⟩ => ?_
  simp only [evi] at h
  refine tm_in S E h fun v μ1 st1 H1 t1 S1 E1 h1 x hx => ?_
  obtain ⟨is, ez, q⟩ := lift_ok S1 h1
  have q := q μ1 H1 Step.refl S1
  cases v <;> simp only [rangeV, reduceCtorEq] at ez
  split at ez
  · rename_i n hn
    simp only [Bool.and_eq_true, decide_eq_true_eq] at hn
    cases ez
    cases (show x = .int _ from hx)
    exact ⟨n, rfl, by omega, by omega, q _ y_range⟩
  · cases ez
theorem s_enum (g : Good X G C W ck k) (hg : glB X.env.scope "enumerate" = true) (hp : plainE a = true) {elts : List Expr} {kk : Nat} {tp : Pos} (ha : PE X a (TM G C W ma)) : PI X (.Tuple elts kk tp) (.Call (.Name "enumerate" p) [a] [] pos) (TMI G C W (.enum ma)) := by
  have hs := plain_star (es := []) (env := X.env) hp
  refine (SwR.pi_enumK (gl_of hg) (g.fa.bt _ (by decide)) (pa_cons ha pa_nil hs) hs).mono fun σ H R ⟨μ, ρ, st, S, E, h⟩ => ?_
  simp only [evi] at h
  refine tm_in S E h fun v μ1 st1 H1 t1 S1 E1 h1 x hx => ?_
  obtain ⟨is, ez, q⟩ := lift_ok S1 h1
  have q := q μ1 H1 Step.refl S1
  rw [g.K]
  cases v <;> simp only [enumOf, reduceCtorEq, Option.some.injEq] at ez
  · subst ez
    obtain ⟨a, rfl, L⟩ := later_tup S1 hx
    obtain ⟨ys, h2, _⟩ := L μ1 st1 H1 Step.refl S1 rfl
    exact ⟨true, a, ys, rfl, h2, q _ (y_enum L)⟩
  · subst ez
    obtain ⟨a, rfl, L⟩ := later_lst S1 hx
    obtain ⟨ys, h2, _⟩ := L μ1 st1 H1 Step.refl S1 rfl
    exact ⟨false, a, ys, rfl, h2, q _ (y_enum L)⟩
  · split at ez
    · rename_i n xs hs
      cases ez
      obtain ⟨a, rfl, L⟩ := later_box (xs := xs) S1 hx
      obtain ⟨ys, h2, _⟩ := L μ1 st1 H1 Step.refl S1 (by simp [bxOk, hs, vbeqs_refl])
      exact ⟨false, a, ys, rfl, h2, q _ (y_enum L)⟩
    · cases ez
theorem s_zip (g : Good X G C W ck k) (hg : glB X.env.scope "zip" = true) (hp : plainE a = true) (hq : plainE b = true) {elts : List Expr} {kk : Nat} {tp : Pos} (ha : PE X a (TM G C W ma)) (hb : PE X b (TM G C W mb)) :
    PI X (.Tuple elts kk tp) (.Call (.Name "zip" p) [a, b] [] pos) (TMI G C W (.zip ma mb)) := by
  have hs := plain_star (es := [b]) (env := X.env) hp
  have hs2 := plain_star (es := []) (env := X.env) hq
  refine (SwR.pi_zipK (gl_of hg) (g.fa.bt _ (by decide)) (pa_cons ha (pa_cons hb pa_nil hs2) hs) hs (stars_plain (by simp [hq]))).mono fun σ H R ⟨μ, ρ, st, S, E, h⟩ => ?_
  simp only [evi] at h
  refine tm_in S E h fun v μ1 st1 H1 t1 S1 E1 h1 x hx => tm_in S1 E1 h1 fun w μ2 st2 H2 t2 S2 E2 h2 y hy => ?_
  obtain ⟨is, ez, q⟩ := lift_ok S2 h2
  have q := q μ2 H2 Step.refl S2
  have hx := hx.step S1 t2
  rw [g.K]
  unfold zipB at ez
  split at ez
  · split at ez
    · rename_i xs hs
      cases ez
      obtain ⟨a, rfl, L⟩ := later_box (xs := xs) S2 hx
      obtain ⟨b, rfl, M⟩ := later_lst S2 hy
      obtain ⟨ys, h3, _⟩ := L μ2 st2 H2 Step.refl S2 (by simp [bxOk, hs, vbeqs_refl])
      obtain ⟨zs, h4, _⟩ := M μ2 st2 H2 Step.refl S2 rfl
      exact ⟨false, false, a, b, ys, zs, rfl, h3, h4, q _ (y_zip L M)⟩
    · cases ez
  unfold zipOf at ez
  split at ez
  · cases ez
    obtain ⟨a, rfl, L⟩ := later_tup S2 hx
    obtain ⟨b, rfl, M⟩ := later_tup S2 hy
    obtain ⟨ys, h3, _⟩ := L μ2 st2 H2 Step.refl S2 rfl
    obtain ⟨zs, h4, _⟩ := M μ2 st2 H2 Step.refl S2 rfl
    exact ⟨true, true, a, b, ys, zs, rfl, h3, h4, q _ (y_zip L M)⟩
  · cases ez
    obtain ⟨a, rfl, L⟩ := later_tup S2 hx
    obtain ⟨b, rfl, M⟩ := later_lst S2 hy
    obtain ⟨ys, h3, _⟩ := L μ2 st2 H2 Step.refl S2 rfl
    obtain ⟨zs, h4, _⟩ := M μ2 st2 H2 Step.refl S2 rfl
    exact ⟨true, false, a, b, ys, zs, rfl, h3, h4, q _ (y_zip L M)⟩
  · cases ez
    obtain ⟨a, rfl, L⟩ := later_lst S2 hx
    obtain ⟨b, rfl, M⟩ := later_lst S2 hy
    obtain ⟨ys, h3, _⟩ := L μ2 st2 H2 Step.refl S2 rfl
    obtain ⟨zs, h4, _⟩ := M μ2 st2 H2 Step.refl S2 rfl
    exact ⟨false, false, a, b, ys, zs, rfl, h3, h4, q _ (y_zip L M)⟩
  · cases ez
end
end Sw
end

section
/-! SwSound4: targets; comprehensions; the checker of expressions is right. -/
namespace Sw
open PySem L2
def gT (K : PySem.W.Frag) : List Nat → TG
  | [i] => gName i
  | [i, j] => gTup K 2 (gCons (gName i) (gCons (gName j) gNil))
  | _ => fun _ _ _ _ => False
section
variable {X : Cx} {G : Gx} {C : Orc} {W : WX} {ck : Ck} {k : Nat}
theorem s_tg {t : Expr} {xs : List Str} {tg : List Nat} (hc : X.calm = true) (hN : X.N.Nodup) (h : tgNames t = some xs) (hl : xs.length = tg.length) (hi : ∀ p ∈ xs.zip tg, X.N[p.2]? = some p.1)
    (ho : ∀ x ∈ xs, Loc X.env.scope x ∧ (X.fn x = true ∨ X.env.scope.names.lookup x = some .local)) : PG X t (gT X.K tg) := by
  unfold tgNames at h
  split at h
  · rename_i x p
    cases h
    obtain ⟨i, rfl⟩ : ∃ i, tg = [i] := by
      match tg, hl with
      | [i], _ => exact ⟨i, rfl⟩
    obtain ⟨o1, o2⟩ := ho x (by simp)
    exact pg_name hN (hi (x, i) (by simp)) o1 o2
  · rename_i x p y q kk tp
    cases h
    obtain ⟨i, j, rfl⟩ : ∃ i j, tg = [i, j] := by
      match tg, hl with
      | [i, j], _ => exact ⟨i, j, rfl⟩
    obtain ⟨o1, o2⟩ := ho x (by simp)
    obtain ⟨o3, o4⟩ := ho y (by simp)
    exact pg_tup hc (pgs_cons (pg_name hN (hi (x, i) (by simp)) o1 o2) (pgs_cons (pg_name hN (hi (y, j) (by simp)) o3 o4) pgs_nil))
  · cases h
theorem wipe_get {σ : LSt} {vs : List Nat} {i : Nat} (h : i ∈ vs) (l : i < σ.length) : (L2.wipe σ vs)[i]? = some none := by
  induction vs with
  | nil => simp at h
  | cons v vs ih =>
    simp only [L2.wipe]
    by_cases e : v = i
    · subst e
      rw [List.getElem?_set_self (by rw [wipe_length]; exact l)]
    · rw [List.getElem?_set_ne e]
      rcases List.mem_cons.mp h with rfl | h
      · exact absurd rfl e
      · exact ih h
theorem wipe_congr {σ τ : LSt} {vs : List Nat} (hl : σ.length = τ.length) (h : ∀ i, i ∉ vs → σ[i]? = τ[i]?) : L2.wipe σ vs = L2.wipe τ vs := by
  apply List.ext_getElem?
  intro i
  by_cases hi : i ∈ vs
  · by_cases l : i < σ.length
    · rw [wipe_get hi l, wipe_get hi (by omega)]
    · rw [List.getElem?_eq_none (by rw [wipe_length]; omega), List.getElem?_eq_none (by rw [wipe_length]; omega)]
  · rw [wipe_out hi, wipe_out hi, h i hi]
theorem wipe1 {σ : LSt} {vs : List Nat} {i : Nat} {y : Option V} (h : i ∈ vs) : L2.wipe ((L2.wipe σ vs).set i y) vs = L2.wipe σ vs :=
  wipe_congr (by simp [wipe_length]) fun j hj => by
    rw [List.getElem?_set_ne (fun e : i = j => hj (e ▸ h)), wipe_out hj]
theorem wipe2 {σ : LSt} {vs : List Nat} {i j : Nat} {y z : Option V} (h : i ∈ vs) (h' : j ∈ vs) : L2.wipe (((L2.wipe σ vs).set i y).set j z) vs = L2.wipe σ vs :=
  wipe_congr (by simp [wipe_length]) fun l hl => by
    rw [List.getElem?_set_ne (fun e : j = l => hl (e ▸ h')), List.getElem?_set_ne (fun e : i = l => hl (e ▸ h)), wipe_out hl]
/-- an item goes to the targets -/
theorem put {μ : Mu} {st : Store} {H H2 : Hp} {two : Bool} {tg : List Nat} {vs : List Val} {x : V} {ρ : Env} {σ : LSt} {R : LSt → Hp → Prop} (S : StOk G μ st H) (E : EnvOk G μ H ρ σ) (hl : tg.length = if two then 2 else 1)
    (hy : (two = false ∧ H2 = H ∧ ∃ v, vs = [v] ∧ Rv G μ H v x) ∨ (two = true ∧ ∃ T v w y z, H T = none ∧ x = .ref T ∧ H2 = upd H T (.tup [y, z]) ∧ vs = [v, w] ∧ Rv G μ H v y ∧ Rv G μ H w z))
    (h : ∀ σ2, Step μ st H μ st H2 → StOk G μ st H2 → EnvOk G μ H2 (setAll ρ tg vs) σ2 → (∀ τ, σ = L2.wipe τ tg → L2.wipe σ2 tg = L2.wipe τ tg) → R σ2 H2) : gT G.K tg x σ H2 R := by
  rcases hy with ⟨rfl, rfl, v, rfl, hv⟩ | ⟨rfl, T, v, w, y, z, hn, rfl, rfl, rfl, hv, hw⟩
  · obtain ⟨i, rfl⟩ : ∃ i, tg = [i] := by
      match tg, hl with
      | [i], _ => exact ⟨i, rfl⟩
    exact h _ Step.refl S (E.set hv i) fun τ e => by subst e; exact wipe1 (by simp)
  · obtain ⟨i, j, rfl⟩ : ∃ i j, tg = [i, j] := by
      match tg, hl with
      | [i, j], _ => exact ⟨i, j, rfl⟩
    have t : Step μ st H μ st (upd H T (.tup [y, z])) := Step.alloc hn
    have S' := S.alloc (o := .tup [y, z]) hn
    have E' := E.step S t
    refine ⟨T, [y, z], rfl, SqT.of upd_same, rfl, y, [z], rfl, z, [], rfl, rfl, ?_⟩
    exact h _ t S' ((E'.set (hv.step S t) i).set (hw.step S t) j) fun τ e => by subst e; exact wipe2 (by simp) (by simp)
/-! ### a comprehension's list -/
theorem snoc_of {α : Type} {l : List α} {n : Nat} {x : α} (hl : l.length = n + 1) (hx : l[n]? = some x) : l = l.dropLast ++ [x] := by
  have hne : l ≠ [] := fun e => by simp [e] at hl
  have := List.dropLast_concat_getLast hne
  rw [List.getLast_eq_getElem] at this
  have e2 : l[l.length - 1] = x := by
    have h3 : l.length - 1 = n := by omega
    have h4 := List.getElem?_eq_some_iff.mp hx
    obtain ⟨h5, h6⟩ := h4
    simp only [h3, h6]
  rw [e2] at this
  exact this.symm
theorem splitLast_eq {stx st : Store} {acc : List Val} (h : splitLast stx = some (st, acc)) : stx = st ++ [.list acc] := by
  unfold splitLast at h
  split at h
  · rename_i xs e
    cases h
    have hne : stx ≠ [] := fun e' => by simp [e'] at e
    rw [List.getLast?_eq_some_getLast hne] at e
    have := List.dropLast_concat_getLast hne
    rw [Option.some.inj e] at this
    exact this.symm
  · cases h
mutual
theorem RvP.own {μ μ' : Mu} {H : Hp} (w : ∀ a, Own μ a → Own μ' a) : ∀ (v : Val) (x : V), RvP G μ' H v x → RvP G μ H v x
  | .non, x, h => by simpa only [RvP] using h
  | .bl _, x, h => by simpa only [RvP] using h
  | .int _, x, h => by simpa only [RvP] using h
  | .str _, x, h => by simpa only [RvP] using h
  | .tup xs, x, h => by
    simp only [RvP] at h ⊢
    obtain ⟨a, ys, e, h1, h2⟩ := h
    exact ⟨a, ys, e, h1, RvPs.own w xs ys h2⟩
  | .lst xs, x, h => by
    simp only [RvP] at h ⊢
    obtain ⟨a, ys, e, h1, n, h2⟩ := h
    exact ⟨a, ys, e, h1, fun z => n (w a z), RvPs.own w xs ys h2⟩
  | .slst _, x, h => by simp only [RvP] at h
  | .fn _, x, h => by simpa only [RvP] using h
  | .box _, x, h => by simp only [RvP] at h
theorem RvPs.own {μ μ' : Mu} {H : Hp} (w : ∀ a, Own μ a → Own μ' a) : ∀ (vs : List Val) (xs : List V), RvPs G μ' H vs xs → RvPs G μ H vs xs
  | [], xs, h => by simpa only [RvPs] using h
  | v :: vs, xs, h => by
    simp only [RvPs] at h ⊢
    obtain ⟨y, r, e, h1, h2⟩ := h
    exact ⟨y, r, e, RvP.own w v y h1, RvPs.own w vs r h2⟩
end
/-- the last cell is let go: it is a list of its own -/
theorem unbox {μ1 μ : Mu} {st1 st : Store} {H1 H : Hp} {D : Addr} {acc : List Val} (S1 : StOk G μ1 st1 H1) (hD : H1 D = none) (hl : st.length = st1.length) (S : StOk G (μ ++ [(D, D)]) (st ++ [.list acc]) H) (t : Step (μ1 ++ [(D, D)]) (st1 ++ [.list []]) (upd H1 D (.lst [])) (μ ++ [(D, D)]) (st ++ [.list acc]) H) :
    Step μ1 st1 H1 μ st H ∧ StOk G μ st H ∧ Rv G μ H (.lst acc) (.ref D) := by
  have el : μ.length = st.length := by have := S.len; simp at this; exact this
  have l1 := S1.len
  have hne : ∀ (n : Nat) p, μ[n]? = some p → p.1 ≠ D ∧ p.2 ≠ D := fun n p h => by
    have hn : n < μ.length := (List.getElem?_eq_some_iff.mp h).1
    have := S.sep n μ.length p (D, D) (by rw [List.getElem?_append_left hn]; exact h) (by simp) (by omega)
    exact ⟨this.1, this.2.2.1⟩
  have nown : ¬ Own μ D := fun ⟨p, hp, e⟩ => by
    obtain ⟨n, hn⟩ := List.getElem?_of_mem hp
    have := hne n p hn
    rcases e with e | e
    · exact this.1 e.symm
    · exact this.2 e.symm
  have s0 : Step μ1 st1 H1 μ st H := by
    refine ⟨by omega, fun n p h => ?_, fun a o h w => ?_, fun n c p h q => ?_⟩
    · have hn : n < μ1.length := (List.getElem?_eq_some_iff.mp h).1
      obtain ⟨p', h1, e⟩ := t.fst n p (by rw [List.getElem?_append_left hn]; exact h)
      rw [List.getElem?_append_left (by omega)] at h1
      exact ⟨p', h1, e⟩
    · have aD : a ≠ D := fun e => by rw [e, hD] at h; cases h
      obtain ⟨h1, w1⟩ := t.frame a o (by rw [upd_ne aD]; exact h) (fun x => by
        rcases own_append.mp x with x | x | x
        · exact w x
        · exact aD x
        · exact aD x)
      exact ⟨h1, fun x => w1 (own_append.mpr (.inl x))⟩
    · have hn : n < μ1.length := (List.getElem?_eq_some_iff.mp q).1
      obtain ⟨c', p', h1, h2, h3, h4⟩ := t.gen n c p (by rw [List.getElem?_append_left (by omega)]; exact h) (by rw [List.getElem?_append_left hn]; exact q)
      rw [List.getElem?_append_left (by omega)] at h1 h2
      exact ⟨c', p', h1, h2, h3, h4⟩
  obtain ⟨_, ys, hy1, hy2⟩ := S.cell μ.length (D, D) (.list acc) (by simp) (by rw [el]; simp)
  have ow : ∀ a, Own μ a → Own (μ ++ [(D, D)]) a := fun a x => own_append.mpr (.inl x)
  refine ⟨s0, ⟨el, fun n p c h1 h2 => ?_, fun n m p q h1 h2 d => ?_⟩, D, ys, rfl, hy1, nown, RvPs.own ow _ _ hy2⟩
  · have hn : n < μ.length := (List.getElem?_eq_some_iff.mp h1).1
    have hc := S.cell n p c (by rw [List.getElem?_append_left hn]; exact h1) (by rw [List.getElem?_append_left (by omega)]; exact h2)
    cases c with
    | list xs =>
      obtain ⟨e, zs, h3, h4⟩ := hc
      exact ⟨e, zs, h3, RvPs.own ow _ _ h4⟩
    | tun path kept gen =>
      obtain ⟨dx, h3, h4⟩ := hc
      refine ⟨dx, h3, ?_⟩
      cases path with
      | none => exact h4
      | some xs =>
        obtain ⟨zs, h5, h6⟩ := h4
        exact ⟨zs, h5, RvPs.own ow _ _ h6⟩
  · have hn : n < μ.length := (List.getElem?_eq_some_iff.mp h1).1
    have hm : m < μ.length := (List.getElem?_eq_some_iff.mp h2).1
    exact S.sep n m p q (by rw [List.getElem?_append_left hn]; exact h1) (by rw [List.getElem?_append_left hm]; exact h2) d
abbrev noW : WX := fun _ _ _ _ => False
theorem compLoop_noexc {bx : Option (Nat × List Val)} {f : List Val → Store → Res (Option Val)} {c : Nat} {s : Store} : ∀ (its : List (List Val)) (st : Store) (acc : List Val), compLoop bx f its st acc ≠ .exc c s
  | [], st, acc => by simp only [compLoop]; split <;> simp
  | it :: rest, st, acc => by
    simp only [compLoop]
    split
    · split
      · split
        · split
          · split
            · split
              · exact compLoop_noexc rest _ _
              · simp
            · exact compLoop_noexc rest _ _
          · simp
        · simp
      · simp
    · simp
theorem bxOk_snoc {st : Store} {c : Cell} : ∀ {bx : Option (Nat × List Val)}, bxOk st bx = true → bxOk (st ++ [c]) bx = true
  | none, _ => rfl
  | some (n, xs), h => by
    simp only [bxOk] at h ⊢
    split at h
    · rename_i ys e
      have hn : n < st.length := (List.getElem?_eq_some_iff.mp e).1
      rw [List.getElem?_append_left hn, e]
      exact h
    · cases h
/-- the last cell's address stays -/
theorem last_cell {μ μ' : Mu} {st : Store} {H H' : Hp} {D : Addr} {c : Cell} {st' : Store} {acc : List Val} (hl : μ.length = st.length) (hl' : st'.length = st.length) (S : StOk G μ' (st' ++ [.list acc]) H') (t : Step (μ ++ [(D, D)]) (st ++ [c]) H μ' (st' ++ [.list acc]) H') :
    ∃ μ2, μ' = μ2 ++ [(D, D)] ∧ μ2.length = st'.length ∧ ∃ ys, H' D = some (.lst ys) ∧ RvPs G μ' H' acc ys := by
  obtain ⟨p, h1, h2⟩ := t.fst μ.length (D, D) (by simp)
  have hS := S.len
  simp only [List.length_append, List.length_singleton] at hS
  obtain ⟨e, ys, h3, h4⟩ := S.cell μ.length p (.list acc) h1 (by rw [hl, ← hl']; simp)
  have ep : p = (D, D) := by
    cases p with
    | mk p1 p2 =>
      simp only at h2 e
      rw [e, h2]
  subst ep
  exact ⟨μ'.dropLast, snoc_of (n := μ.length) (by omega) h1, by simp; omega, ys, h3, h4⟩
def lcF (C : Orc) (mc : OEx) (me : Ex) (ρ : Env) (tg : List Nat) : List Val → Store → Res (Option Val) := fun vs s => (evc C mc (setAll (wipeAll ρ tg) tg vs) s).bind fun b s1 =>
  if b = true then (ev C me (setAll (wipeAll ρ tg) tg vs) s1).bind fun v s2 => Res.ok (some v) s2 else Res.ok none s1
theorem lc_go {me : Ex} {tg : List Nat} {two : Bool} {mc : OEx} (hlen : tg.length = if two then 2 else 1) {σ : LSt} {Q : VK} {is : Items} {μ1 : Mu} {st1 : Store} {H1 : Hp} {ρ : Env} {J : L2.It} {xsF : List Val} {stF : Store} (S1 : StOk G μ1 st1 H1) (E1 : EnvOk G μ1 H1 ρ σ) (hJ : Yields G two J is μ1 st1 H1)
    (hr : compLoop is.2 (lcF C mc me ρ tg) is.1 st1 [] = .ok xsF stF)
    (hq : ∀ D μ' Hh, H1 D = none → stF.length = st1.length → StOk G (μ' ++ [(D, D)]) (stF ++ [.list xsF]) Hh → Step (μ1 ++ [(D, D)]) (st1 ++ [.list []]) (upd H1 D (.lst [])) (μ' ++ [(D, D)]) (stF ++ [.list xsF]) Hh → Q (.ref D) Hh) :
    ∀ D, H1 D = none → ∃ W : Nat → Nat → Hp → Prop, (∃ m, W 0 m (upd H1 D (.lst []))) ∧ ∀ i m H, W i m H →
      (J.stop i H ∧ Q (.ref D) H) ∨ (J.go i H ∧ ∃ Nx : Hp → Prop, (∀ H', Nx H' → ∃ m', m' < m ∧ W (i + 1) m' H') ∧ ∀ x H', J.yld i H x H' → gT G.K tg x (L2.wipe σ tg) H' fun σ2 H2 => L2.wipe σ2 tg = L2.wipe σ tg ∧ TMC G C noW mc σ2 H2 fun b H3 =>
        if b = true then TM G C noW me σ2 H3 fun y H4 => ∃ acc, H4 D = some (.lst acc) ∧ acc.length < sizeLine ∧ Nx (upd H4 D (.lst (acc ++ [y]))) else Nx H3) := by
  intro D hD
  generalize hf : lcF C mc me ρ tg = f at hr
  have t0 : Step μ1 st1 H1 (μ1 ++ [(D, D)]) (st1 ++ [.list []]) (upd H1 D (.lst [])) := Step.box S1 hD
  have S0 : StOk G (μ1 ++ [(D, D)]) (st1 ++ [.list []]) (upd H1 D (.lst [])) := S1.box hD (by simp only [RvPs])
  refine ⟨fun i m Hh => m + i = is.1.length ∧ ∃ μ' st' acc, StOk G (μ' ++ [(D, D)]) (st' ++ [.list acc]) Hh ∧ Step (μ1 ++ [(D, D)]) (st1 ++ [.list []]) (upd H1 D (.lst [])) (μ' ++ [(D, D)]) (st' ++ [.list acc]) Hh ∧ st'.length = st1.length ∧ compLoop is.2 f (is.1.drop i) st' acc = .ok xsF stF,
    ⟨is.1.length, rfl, μ1, st1, [], S0, Step.refl, rfl, by simpa using hr⟩, ?_⟩
  rintro i m Hh ⟨hm, μ', st', acc, S', t', hl', hloop⟩
  have el : μ'.length = st'.length := by have := S'.len; simp at this; exact this
  cases hd : is.1.drop i with
  | nil =>
    have hi : is.1.length = i := by
      have := List.drop_eq_nil_iff.mp hd
      omega
    rw [hd] at hloop
    simp only [compLoop] at hloop
    split at hloop
    · rename_i hb
      cases hloop
      exact .inl ⟨(hJ _ _ _ (t0.trans t') S' (bxOk_snoc hb) i).2 hi, hq D μ' Hh hD hl' S' t'⟩
    · cases hloop
  | cons vs rest =>
    have hvs : is.1[i]? = some vs := by
      have := List.getElem?_drop (xs := is.1) (i := i) (j := 0)
      rw [hd] at this
      simpa using this.symm
    have hrest : is.1.drop (i + 1) = rest := by
      have := List.drop_drop (l := is.1) (i := 1) (j := i)
      rw [hd] at this
      simpa using this.symm
    have hi : i < is.1.length := (List.getElem?_eq_some_iff.mp hvs).1
    rw [hd] at hloop
    simp only [compLoop] at hloop
    split at hloop
    rotate_left 1
    · cases hloop
    rename_i hb
    have hy := (hJ _ _ _ (t0.trans t') S' (bxOk_snoc hb) i).1 vs hvs
    refine .inr ⟨hy.1, fun Hn => (m - 1) + (i + 1) = is.1.length ∧ ∃ μ' st' acc, StOk G (μ' ++ [(D, D)]) (st' ++ [.list acc]) Hn ∧ Step (μ1 ++ [(D, D)]) (st1 ++ [.list []]) (upd H1 D (.lst [])) (μ' ++ [(D, D)]) (st' ++ [.list acc]) Hn ∧ st'.length = st1.length ∧ compLoop is.2 f (is.1.drop (i + 1)) st' acc = .ok xsF stF,
      fun H' w => ⟨m - 1, by omega, w⟩, fun x H2 hx => ?_⟩
    have E' := (E1.step S1 (t0.trans t')).wipe tg
    refine put S' E' hlen (hy.2 x H2 hx) fun σ2 t2 S2 E2 hw => ⟨hw σ rfl, ?_⟩
    split at hloop
    rotate_left 1
    · cases hloop
    rename_i r stx hfr
    split at hloop
    rotate_left 1
    · cases hloop
    rename_i hlx
    split at hloop
    rotate_left 1
    · cases hloop
    rename_i st2 acc2 hsp
    have hstx := splitLast_eq hsp
    have hl2 : st2.length = st'.length := by
      rw [hstx] at hlx
      simpa using hlx
    have hP : RPost G (μ' ++ [(D, D)]) (st' ++ [.list acc]) H2 σ2 noW (f vs (st' ++ [.list acc])) (fun r' μ'' st'' H'' => r' = r ∧ st'' = stx ∧ Step (μ' ++ [(D, D)]) (st' ++ [.list acc]) H2 μ'' st'' H'' ∧ StOk G μ'' st'' H'') := by
      rw [hfr]
      exact fun μ'' H'' t S => ⟨rfl, rfl, t, S⟩
    rw [← hf] at hP
    refine tmc_in S2 E2 hP fun b μ3 st3 H3 t3 S3 E3 h3 => ?_
    cases b with
    | false =>
      obtain ⟨e1, e2, t4, S4⟩ := h3 μ3 H3 Step.refl S3
      subst e1
      rw [hstx] at e2
      subst e2
      obtain ⟨μ5, rfl, hl5, _⟩ := last_cell el hl2 S4 t4
      rw [if_neg (by simp)]
      exact ⟨by omega, μ5, st2, acc2, S4, (t'.trans t2).trans t4, by omega, by rw [hrest]; exact hloop⟩
    | true =>
      rw [if_pos rfl] at h3 ⊢
      refine tm_in S3 E3 h3 fun v μ4 st4 H4 t5 S5 E5 h4 y hy => ?_
      obtain ⟨e1, e2, t4, S4⟩ := h4 μ4 H4 Step.refl S5
      subst e1
      rw [hstx] at e2
      subst e2
      obtain ⟨μ5, rfl, hl5, ys, hys, hrs⟩ := last_cell el hl2 S4 t4
      simp only at hloop
      split at hloop
      rotate_left 1
      · cases hloop
      rename_i hpv
      simp only [Bool.and_eq_true, decide_eq_true_eq] at hpv
      have hlim := lim_le
      have hyl := hrs.length
      have h1' : (μ5 ++ [(D, D)])[st2.length]? = some (D, D) := by rw [← hl5]; simp
      have h2' : (st2 ++ [Cell.list acc2])[st2.length]? = some (.list acc2) := by simp
      have hnew : RvPs G (μ5 ++ [(D, D)]) H4 (acc2 ++ [v]) (ys ++ [y]) := hrs.append (RvPs.one (hy.p hpv.1))
      have Sw' := S4.write h1' h2' hnew
      have tw' : Step (μ5 ++ [(D, D)]) (st2 ++ [Cell.list acc2]) H4 (μ5 ++ [(D, D)]) ((st2 ++ [Cell.list acc2]).set st2.length (Cell.list (acc2 ++ [v]))) (upd H4 D (.lst (ys ++ [y]))) := Step.write (ys := ys) S4 h1' h2'
      have hset : (st2 ++ [Cell.list acc2]).set st2.length (Cell.list (acc2 ++ [v])) = st2 ++ [Cell.list (acc2 ++ [v])] := by simp
      rw [hset] at Sw' tw'
      exact ⟨ys, hys, by omega, by omega, μ5, st2, acc2 ++ [v], Sw', ((t'.trans t2).trans t4).trans tw', by omega, by rw [hrest]; exact hloop⟩
theorem lc_rd {me : Ex} {tg : List Nat} {mi : It} {mc : OEx} (hlen : tg.length = if pairI mi then 2 else 1) {σ : LSt} {H : Hp} {Q : VK} (h : TM G C W (.lc me tg mi mc) σ H Q) :
    tLc (TMI G C W mi) (gT G.K tg) (TMC G C noW mc) (TM G C noW me) tg σ H Q := by
  obtain ⟨μ, ρ, st, S, E, h⟩ := h
  simp only [ev] at h
  refine tmi_in S E h fun is μ1 st1 H1 t1 S1 E1 h1 J hJ => ?_
  split at h1
  rotate_left 1
  · exact h1.elim
  rename_i hlim
  change RPost G μ1 st1 H1 σ W ((compLoop is.2 (lcF C mc me ρ tg) is.1 st1 []).bind _) _ at h1
  cases hr : compLoop is.2 (lcF C mc me ρ tg) is.1 st1 [] with
  | bad => rw [hr] at h1; exact h1.elim
  | exc c s => exact absurd hr (compLoop_noexc _ _ _)
  | ok xsF stF =>
    rw [hr] at h1
    refine lc_go hlen S1 E1 hJ hr fun D μ' Hh hD hl' S' t' => ?_
    obtain ⟨u1, u2, u3⟩ := unbox S1 hD hl' S' t'
    exact h1 μ' Hh u1 u2 _ u3
theorem s_cnone : PTs X [] (TMC G C W .none) := by
  refine pts_nil.mono fun σ H Q ⟨μ, ρ, st, S, E, h⟩ => ?_
  simp only [evc] at h
  exact h μ H Step.refl S
theorem s_csome {c : Expr} {m : Ex} (hc : PT X c (TMT G C W m)) : PTs X [c] (TMC G C W (.some m)) := by
  refine (pts_one hc).mono fun σ H Q ⟨μ, ρ, st, S, E, h⟩ => ?_
  simp only [evc] at h
  refine tmt_in S E h fun v μ1 st1 H1 t1 S1 E1 h1 => ?_
  obtain ⟨b, eb, q⟩ := lift_ok S1 h1
  cases v <;> simp only [boolV, reduceCtorEq, Option.some.injEq] at eb
  subst eb
  exact ⟨_, rfl, q μ1 H1 Step.refl S1⟩
end
end Sw
end

section
/-! SwTun: tuners: made, asked, their fields. -/
namespace Sw
open PySem L2 PyProof.Rows
/-! ### a new cell -/
section
variable {G : Gx} {μ μ' : Mu} {st st' st1 : Store} {H H' : Hp}
theorem Step.cell {p : Addr} {o : HO} {c : Cell} (S : StOk G μ st H) (n : H p = none) : Step μ st H (μ ++ [(p, p)]) (st ++ [c]) (upd H p o) where
  len := by simp
  fst := fun i q h => ⟨q, get_snoc_of h, rfl⟩
  frame := fun a o h w => ⟨by rw [upd_ne (ne_of_none h n)]; exact h, fun z => by
    rcases own_append.mp z with z | z | z
    · exact w z
    · exact ne_of_none h n z
    · exact ne_of_none h n z⟩
  gen := fun i c' q h r => ⟨c', q, get_snoc_of h, get_snoc_of r, Nat.le_refl _, fun _ => rfl⟩
theorem StOk.cell_ {p : Addr} {o : HO} {c0 : Cell} (S : StOk G μ st H) (n : H p = none) (hc : CellOk G (μ ++ [(p, p)]) (upd H p o) (p, p) c0) : StOk G (μ ++ [(p, p)]) (st ++ [c0]) (upd H p o) where
  len := by simp [S.len]
  cell := fun i q c h1 h2 => by
    have t : Step μ st H (μ ++ [(p, p)]) (st ++ [c0]) (upd H p o) := Step.cell S n
    rcases get_snoc h1 with ⟨h1, l1⟩ | ⟨e1, rfl⟩
    · rcases get_snoc h2 with ⟨h2, _⟩ | ⟨e2, _⟩
      · exact (S.cell i q c h1 h2).step S t fun a u _ h => by rw [upd_ne (ne_of_none h n)]; exact h
      · rw [S.len] at l1; omega
    · rcases get_snoc h2 with ⟨_, l2⟩ | ⟨e2, rfl⟩
      · rw [e1, S.len] at l2; omega
      · exact hc
  sep := fun i j q r h1 h2 ne => by
    have no : ∀ (i : Nat) q, μ[i]? = some q → q.1 ≠ p ∧ q.2 ≠ p := fun i q h => by
      have w := S.notOwn0 n
      exact ⟨fun z => w ⟨q, List.mem_of_getElem? h, .inl z.symm⟩, fun z => w ⟨q, List.mem_of_getElem? h, .inr z.symm⟩⟩
    rcases get_snoc h1 with ⟨h1, l1⟩ | ⟨e1, rfl⟩
    · rcases get_snoc h2 with ⟨h2, _⟩ | ⟨e2, rfl⟩
      · exact S.sep i j q r h1 h2 ne
      · obtain ⟨a, b⟩ := no i q h1
        exact ⟨a, a, b, b⟩
    · rcases get_snoc h2 with ⟨h2, _⟩ | ⟨e2, rfl⟩
      · obtain ⟨a, b⟩ := no j r h2
        exact ⟨a.symm, b.symm, a.symm, b.symm⟩
      · omega
theorem take_get {α : Type} {l : List α} {n i : Nat} {x : α} (h : (l.take n)[i]? = some x) : l[i]? = some x ∧ i < n := by
  rw [List.getElem?_take] at h
  split at h
  · exact ⟨h, by assumption⟩
  · cases h
theorem get_take {α : Type} {l : List α} {n i : Nat} {x : α} (h : l[i]? = some x) (hi : i < n) : (l.take n)[i]? = some x := by
  rw [List.getElem?_take, if_pos hi]
  exact h
theorem own_take {n : Nat} {a : Addr} (h : Own (μ.take n) a) : Own μ a := by
  obtain ⟨p, hp, e⟩ := h
  exact ⟨p, List.mem_of_mem_take hp, e⟩
/-- the cells made since are let go -/
theorem drop_cells (S : StOk G μ st H) (t : Step μ st H μ' st1 H') (S' : StOk G μ' st1 H') :
    Step μ st H (μ'.take st.length) (st1.take st.length) H' ∧ StOk G (μ'.take st.length) (st1.take st.length) H' := by
  have l0 := S.len
  have l1 := S'.len
  have l2 := t.len
  refine ⟨⟨by rw [List.length_take]; omega, fun n p h => ?_, fun a o h w => ?_, fun n c p h q => ?_⟩, ⟨by simp [l1], fun n p c h1 h2 => ?_, fun n m p q h1 h2 d => ?_⟩⟩
  · obtain ⟨p', h1, e⟩ := t.fst n p h
    exact ⟨p', get_take h1 (by have := (List.getElem?_eq_some_iff.mp h).1; omega), e⟩
  · obtain ⟨h1, w1⟩ := t.frame a o h w
    exact ⟨h1, fun x => w1 (own_take x)⟩
  · obtain ⟨c', p', h1, h2, h3, h4⟩ := t.gen n c p h q
    have hn := (List.getElem?_eq_some_iff.mp h).1
    exact ⟨c', p', get_take h1 hn, get_take h2 hn, h3, h4⟩
  · have hc := S'.cell n p c (take_get h1).1 (take_get h2).1
    have ow : ∀ a, Own (μ'.take st.length) a → Own μ' a := fun a x => own_take x
    cases c with
    | list xs =>
      obtain ⟨e, zs, h3, h4⟩ := hc
      exact ⟨e, zs, h3, RvPs.own ow _ _ h4⟩
    | tun path kept gen =>
      obtain ⟨dx, h3, h4⟩ := hc
      refine ⟨dx, h3, ?_⟩
      cases path with
      | none => exact h4
      | some xs =>
        obtain ⟨zs, h5, h6⟩ := h4
        exact ⟨zs, h5, RvPs.own ow _ _ h6⟩
  · exact S'.sep n m p q (take_get h1).1 (take_get h2).1 d
/-- what is known of a tuner -/
theorem tun_at (S : StOk G μ st H) {v : Val} {x : V} (hx : Rv G μ H v x) (ht : tunB st v = true) : ∃ n p dx path kept gen ys, v = .box n ∧ st[n]? = some (.tun (some path) kept gen) ∧ μ[n]? = some p ∧ x = .ref p.1 ∧
    H p.1 = some (.ins G.tc dx (fldsOf p.2 (some path) kept)) ∧ H p.2 = some (.lst ys) ∧ RvPs G μ H path ys := by
  unfold tunB at ht
  split at ht
  · rename_i n
    split at ht
    · rename_i path kept gen hs
      obtain ⟨p, hm, rfl⟩ := hx
      obtain ⟨dx, h1, ys, h2, h3⟩ := S.cell n p _ hm hs
      exact ⟨n, p, dx, path, kept, gen, ys, rfl, hs, hm, rfl, h1, h2, h3⟩
    · cases ht
  · cases ht
def mNames : List Str := ["__init__", "flip", "shift", "tilt", "turn", "function", "path", "undo", "duplicate", "__eq__", "__len__", "__str__"]
theorem mNames_no : ∀ y ∈ mNames, (y == ("functions" : Str)) = false ∧ (y == ("kept" : Str)) = false := by decide +kernel
theorem nm_mem (own : List Str) : ∀ f : Fn, f.isM = true → f.nm own ∈ mNames := by
  intro f hf
  cases f <;> first | (simp [Fn.isM] at hf; done) | (simp only [Fn.nm, mNames]; simp)
theorem flds_no {l : Addr} {path : Option (List Val)} {kept : Option Int} {own : List Str} {f : Fn} (hf : f.isM = true) : (fldsOf l path kept).lookup (f.nm own) = none := by
  obtain ⟨h1, h2⟩ := mNames_no _ (nm_mem own f hf)
  cases path <;> cases kept <;> simp [fldsOf, List.lookup, h1, h2]
theorem flds_fn {l : Addr} {path : List Val} {kept : Option Int} : (fldsOf l (some path) kept).lookup ("functions" : Str) = some (V.ref l) := by
  cases kept <;> simp [fldsOf, List.lookup]
theorem kf_ne : (("kept" : Str) == ("functions" : Str)) = false := by decide +kernel
theorem flds_kp {l : Addr} {path : List Val} {k : Int} : (fldsOf l (some path) (some k)).lookup ("kept" : Str) = some (V.int k) := by
  simp [fldsOf, List.lookup, kf_ne]
end
section
variable {X : Cx} {G : Gx} {C : Orc} {W : WX} {ck : Ck} {k : Nat} {e : Expr} {es : List Expr} {ma mo : Ex} {ms : Exs} {pos p np ap : Pos} {x : Str}
theorem Good.tun (g : Good X G C W ck k) (h : ck.av .t_init = true) : TunF X.K X.mg G := g.fa.tun (g.fa.av _ h)
/-! ### made -/
theorem run_mk {CX : CXT} {j : Nat} {Ca f : Addr} {fd : FuncData} {ps : List Str} {sp : Sp} {E : XK} {pins : List (Addr × Obj)} {σ : LSt} {H : Hp} {s : Shared} {Q : VK} {us : List Value} {vs : List V} (M : Mk X.K Ca f) (F : FnOk X.prog X.w X.K X.mg X.base CX j f fd ps sp) (hr : Room (j + 1) X.A) (hb : Binds X.K fd ps [])
    (hx : PassesAt CX X σ E) (I : Inv X pins σ H s) (r : Vals vs us)
    (h : ∀ y dx, H y = none → H dx = none → dx ≠ y → sp (.ref y :: vs) (upd (upd H dx (.own y)) y (.ins Ca dx [])) (fun v H2 => v = .non ∧ Q (.ref y) H2) E) :
    wpAny (model X.prog X.w) X.A (call (.ref Ca) us) (EP X pins σ Q) X.xe s := by
  have hq := h (s.heap.objs.size + 1) s.heap.objs.size (I.hok.fresh (Nat.le_succ _)) (I.hok.fresh (Nat.le_refl _)) (Nat.ne_of_lt (Nat.lt_succ_self _))
  have I2 := Inv.made (C := Ca) I
  have r2 : Vals (V.ref (s.heap.objs.size + 1) :: vs) (Value.ref (s.heap.objs.size + 1) :: us) := .cons rfl r
  have hl : (Value.ref (s.heap.objs.size + 1) :: us).length = ps.length := by
    have e := r2.length
    rw [F.len _ _ _ _ hq] at e
    exact e.symm
  have b := hb { s with heap := (s.heap.push PySem.W.emptyDict).push (PySem.W.instObj Ca s.heap.objs.size) } (Value.ref (s.heap.objs.size + 1) :: us) I2.kIn (by rw [List.append_nil]; exact hl)
  rw [List.append_nil] at b
  refine wpAny_call (make_map (f := f) I.kIn M.makes M.init (beq_iff_eq.mp M.fn) (codeAny_mono (F.run _ X.stack _ _ ⟨Value.ref (s.heap.objs.size + 1) :: us, []⟩ (Value.ref (s.heap.objs.size + 1) :: us) _ _ E (hr.make Ca us []) (I2.env0.make Ca us []) b r2 hq) fun r s' hq' => ?_))
  cases r with
  | error e => exact hx pins _ _ e s' I2 hq'
  | ok fl =>
    cases fl with
    | ret u =>
      obtain ⟨v, H', I3, rv, ev, q3⟩ := I2.after hq'
      subst ev
      exact ⟨rv, ⟨V.ref (s.heap.objs.size + 1), H', I3, rfl, q3⟩⟩
    | next => exact False.elim hq'
    | brk => exact False.elim hq'
    | cont => exact False.elim hq'
theorem own_get {μ : Mu} {a : Addr} {n : Nat} (h : Own (μ.take n) a) : Own μ a := by
  obtain ⟨p, hp, e⟩ := h
  exact ⟨p, List.mem_of_mem_take hp, e⟩
theorem s_mk (g : Good X G C W ck k) (hg : glB X.env.scope "Tuner" = true) (hi : ck.av .t_init = true) (hp : plainE e = true) (ha : PE X e (TM G C W ma)) : PE X (.Call (.Name "Tuner" p) [e] [] pos) (TM G C W (.mk ma)) := by
  obtain ⟨fd, ps, h1, h3, h4⟩ := g.fa.fn .t_init (g.fa.av _ hi)
  have T := g.tun hi
  have hs := plain_star (es := []) (env := X.env) hp
  refine ⟨fun pins s σ H Q I ⟨μ, ρ, st, S, E, h⟩ => ?_⟩
  simp only [ev] at h
  refine wpAny_Call_Name_kw (ld_glob I (gl_of hg) T.mgt ?_ (by decide))
  refine PySem.W.callWith_K (h₀ := X.base) I.ok.mod.kin T.mkr.kp (thn ((pa_cons ha pa_nil hs).run pos pins s σ H (fun vs H1 => ∀ y dx, H1 y = none → H1 dx = none → dx ≠ y → spF G C .t_init (.ref y :: vs) (upd (upd H1 dx (.own y)) y (.ins G.tc dx [])) (fun v H2 => v = .non ∧ Q (.ref y) H2) (WE W σ)) I ?_) fun us s1 ⟨vs, H1, I1, r, q⟩ => ⟨I1.kIn, ?_⟩) hs rfl
  · refine tm_in S E h fun v μ1 st1 H1 t1 S1 E1 h1' x hx y dx ny nd ne => ?_
    have hdn : (upd H1 dx (.own y)) y = none := by rw [upd_ne (Ne.symm ne)]; exact ny
    have S2 : StOk G μ1 st1 (upd H1 dx (.own y)) := S1.alloc nd
    have t2 : Step μ1 st1 H1 μ1 st1 (upd H1 dx (.own y)) := Step.alloc nd
    have t3 : Step μ1 st1 (upd H1 dx (.own y)) (μ1 ++ [(y, y)]) (st1 ++ [.tun none none 0]) (upd (upd H1 dx (.own y)) y (.ins G.tc dx [])) := Step.cell S2 hdn
    have S3 : StOk G (μ1 ++ [(y, y)]) (st1 ++ [.tun none none 0]) (upd (upd H1 dx (.own y)) y (.ins G.tc dx [])) := S2.cell_ hdn ⟨dx, upd_same, rfl, rfl⟩
    have t23 := t2.trans t3
    refine ⟨μ1 ++ [(y, y)], [.box st1.length, v], st1 ++ [.tun none none 0], S3, .cons ⟨(y, y), by rw [← S1.len]; simp, rfl⟩ (.cons (hx.step S1 t23) .nil), ?_⟩
    generalize C .t_init [.box st1.length, v] (st1 ++ [.tun none none 0]) = R at h1'
    cases R with
    | ok w st2 =>
      cases w with
      | non =>
        intro μ' H' t' S' z hz
        refine ⟨hz, ?_⟩
        obtain ⟨pr, hm, e1⟩ := t'.fst st1.length (y, y) (by rw [← S1.len]; simp)
        exact h1' μ' H' (t23.trans t') S' _ ⟨pr, hm, by rw [e1]⟩
      | _ => exact h1'.elim
    | exc c st2 =>
      intro μ' H' t' S'
      obtain ⟨t4, S4⟩ := drop_cells S1 (t23.trans t') S'
      exact h1' _ H' t4 S4
    | bad => exact h1'
  · exact run_mk T.mkr h1 (g.room.mono (by omega)) h4 (L2N.passAt g.tk σ) I1 r q
/-! ### asked -/
theorem meth_rd {f : Fn} {σ : LSt} {H : Hp} {Q : VK} (T : TunF X.K X.mg G) (hm : f.isM = true) (h : TM G C W (.meth mo f ms) σ H Q) :
    TM G C W mo σ H fun x H1 => ∃ a dx fs, x = .ref a ∧ H1 a = some (.ins G.tc dx fs) ∧ fs.lookup (f.nm ck.own) = none ∧ TMA G C W ms σ H1 fun vs H2 => spF G C f (.ref a :: vs) H2 Q (WE W σ) := by
  obtain ⟨μ, ρ, st, S, E, h⟩ := h
  simp only [ev] at h
  refine tm_in S E h fun v μ1 st1 H1 t1 S1 E1 h1 x hx => ?_
  split at h1
  · rename_i ht
    obtain ⟨n, p, dx, path, kept, gen, ys, rfl, hs, hmu, rfl, g1, g2, g3⟩ := tun_at S1 hx ht
    refine ⟨p.1, dx, _, rfl, g1, flds_no hm, ?_⟩
    exact tma_in S1 E1 h1 fun vs μ2 st2 H2 t2 S2 E2 h2 xs hxs => ⟨μ2, .box n :: vs, st2, S2, .cons (hx.step S1 t2) hxs, rpost_at h2⟩
  · exact h1.elim
theorem nm_own {f : Fn} (hm : f.isM = true) (own : List Str) : f.nm own = f.nm [] := by
  cases f <;> first | rfl | (simp [Fn.isM] at hm)
theorem meth_eq {env : PySem.Env} {m : Str} {args : List Expr} (hf : methodCallForm (args.length + ([] : List Keyword).length) (backTo pos (starEach args env)) (backToKw pos (keywordEach [] env)) = true) (hl : (ap.endLine == pos.line) = true) :
    eval (.Call (.Attribute (.Name x np) m ap) args [] pos) env = (do
      let ov ← eval (.Name x np) env
      standAt ap.atName
      let (f, first) ← holding [ov] (getMethod ov m (do return (← importBound (.Name x np) env).getD true))
      callWith pos f first (backTo pos (starEach args env)) (backToKw pos (keywordEach [] env))) := by
  rw [arm_eval_Call]
  show (do
    let ov ← eval (.Name x np) env
    standAt ap.atName
    methodCall (.Name x np) m ap pos env ov (args.length + ([] : List Keyword).length) (backTo pos (starEach args env)) (backToKw pos (keywordEach [] env))) = _
  unfold methodCall
  rw [hf]
  simp only [calleeOf, methodCallPos, hl, Bool.not_true, Bool.false_or, if_true, pure_bind]
theorem s_meth (g : Good X G C W ck k) (f : Fn) (hf : ck.av f = true) (hm : f.isM = true) (hi : ck.av .t_init = true) (hp : plainE e = true) (hl : (ap.endLine == pos.line) = true) (ho : PE X (.Name x np) (TM G C W mo)) (ha : PA X [e] (TMA G C W ms)) :
    PE X (.Call (.Attribute (.Name x np) (f.nm ck.own) ap) [e] [] pos) (TM G C W (.meth mo f ms)) := by
  obtain ⟨fd, ps, h1, h3, h4⟩ := g.fa.fn f (g.fa.av f hf)
  have T := g.tun hi
  have M := T.mt f (g.fa.av f hf) hm
  rw [← nm_own hm ck.own] at M
  have hs := plain_star (es := []) (env := X.env) hp
  refine ⟨fun pins s σ H Q I h => ?_⟩
  refine PySem.W.methodCall_KW (thn (ho.run pins s σ H _ I (meth_rd (ck := ck) T hm h)) fun u s1 ⟨x, H1, I1, rx, a, dx, fs, ex, ea, l, q⟩ => ?_) (meth_eq (by unfold methodCallForm; rw [hs]; rfl) hl)
  subst ex
  obtain rfl : u = Value.ref a := rx
  refine getmeth_ok I1 ea T.cls M l ?_
  refine PySem.W.callWith_K (first := [.ref a]) (h₀ := X.base) I1.ok.mod.kin h3 (thn (ha.run pos pins s1 σ H1 _ I1 q) fun us s2 ⟨vs, H2, I2, r, q2⟩ => ⟨I2.kIn, ?_⟩) hs rfl
  exact run_fnS (us := .ref a :: us) (vs := .ref a :: vs) (E := WE W) h1 (g.room.mono (by omega)) h4 (L2N.passAt g.tk σ) I2 (.cons rfl r) q2
theorem s_meth0 (g : Good X G C W ck k) (f : Fn) (hf : ck.av f = true) (hm : f.isM = true) (hi : ck.av .t_init = true) (hl : (ap.endLine == pos.line) = true) (ho : PE X (.Name x np) (TM G C W mo)) :
    PE X (.Call (.Attribute (.Name x np) (f.nm ck.own) ap) [] [] pos) (TM G C W (.meth mo f .nil)) := by
  obtain ⟨fd, ps, h1, h3, h4⟩ := g.fa.fn f (g.fa.av f hf)
  have T := g.tun hi
  have M := T.mt f (g.fa.av f hf) hm
  rw [← nm_own hm ck.own] at M
  refine ⟨fun pins s σ H Q I h => ?_⟩
  refine PySem.W.methodCall_KW (thn (ho.run pins s σ H _ I (meth_rd (ck := ck) T hm h)) fun u s1 ⟨x, H1, I1, rx, a, dx, fs, ex, ea, l, q⟩ => ?_) (meth_eq rfl hl)
  subst ex
  obtain rfl : u = Value.ref a := rx
  refine getmeth_ok I1 ea T.cls M l ?_
  obtain ⟨μ1, ρ1, st1, S1, E1, q⟩ := q
  simp only [evs] at q
  exact PySem.W.callWith_K0 (first := [.ref a]) I1.kIn h3 (run_fnS (us := [.ref a]) (vs := [.ref a]) (E := WE W) h1 (g.room.mono (by omega)) h4 (L2N.passAt g.tk σ) I1 (.cons rfl .nil) (q μ1 H1 Step.refl S1 [] .nil))
/-! ### fields -/
theorem fld_base {f : Str} : attributeBase (.Name x np) f X.env (eval (.Name x np) X.env) = eval (.Name x np) X.env := rfl
theorem pe_fn (ho : PE X (.Name x np) (TM G C W mo)) : PE X (.Attribute (.Name x np) "functions" ap) (tFld X.K (TM G C W mo) "functions") := pe_fld ho rfl
theorem fld_rd (T : TunF X.K X.mg G) {μ1 : Mu} {st1 : Store} {H1 : Hp} {x : V} {n : Nat} {path : List Val} {kept : Option Int} {gen : Nat} {Q : VK} (S1 : StOk G μ1 st1 H1) (hx : Rv G μ1 H1 (.box n) x) (hs : st1[n]? = some (.tun (some path) kept gen))
    (q : ∀ p ys, μ1[n]? = some p → H1 p.2 = some (.lst ys) → RvPs G μ1 H1 path ys → Q (.ref p.2) H1) :
    ∃ a Cc dx fs w, x = .ref a ∧ H1 a = some (.ins Cc dx fs) ∧ Cls X.K Cc ∧ NoAttr X.K Cc "functions" ∧ fs.lookup ("functions" : Str) = some w ∧ Q w H1 := by
  obtain ⟨p, hm, rfl⟩ := hx
  obtain ⟨dx, h1, ys, h2, h3⟩ := S1.cell n p _ hm hs
  exact ⟨p.1, G.tc, dx, _, _, rfl, h1, T.cls, T.nf, flds_fn, q p ys hm h2 h3⟩
/-- the list stays, while the store does -/
theorem fld_keep {μ1 μ2 : Mu} {st1 : Store} {H1 H2 : Hp} {n : Nat} {p : Addr × Addr} {path : List Val} {kept : Option Int} {gen : Nat} (hs : st1[n]? = some (.tun (some path) kept gen)) (hmu : μ1[n]? = some p) (t2 : Step μ1 st1 H1 μ2 st1 H2) (S2 : StOk G μ2 st1 H2) : ∃ ys, H2 p.2 = some (.lst ys) ∧ RvPs G μ2 H2 path ys := by
  obtain ⟨c', p', e1, e2, e3, e4⟩ := t2.gen n _ p hs hmu
  rw [hs] at e1
  cases e1
  have := e4 rfl
  subst this
  obtain ⟨_, _, ys', k1, k2⟩ := S2.cell n p' _ e2 hs
  exact ⟨ys', k1, k2⟩
theorem tun_of {st1 : Store} {n : Nat} {path : List Val} {kept : Option Int} {gen : Nat} (h : st1[n]? = some (.tun (some path) kept gen)) : tunB st1 (.box n) = true := by simp only [tunB, h]
theorem s_fidx (g : Good X G C W ck k) (hi : ck.av .t_init = true) {b : Expr} {mb : Ex} {i : Int} (hp : plainE b = true) (ho : PE X (.Name x np) (TM G C W mo)) (hb : PE X b (TM G C W mb)) (hm : ∀ ρ st, ev C mb ρ st = .ok (.int i) st) :
    PE X (.Subscript (.Attribute (.Name x np) "functions" ap) b pos) (TM G C W (.fidx mo i)) := by
  have T := g.tun hi
  refine (pe_ix (ix_v g.K) (pe_fn ho) hb (plain_ix hp)).mono fun σ H Q ⟨μ, ρ, st, S, E, h⟩ => ?_
  simp only [ev] at h
  refine tm_in S E h fun v μ1 st1 H1 t1 S1 E1 h1 x hx => ?_
  split at h1
  · split at h1
    · rename_i n _ path kept gen hs
      refine fld_rd (Q := fun w H1 => TM G C W mb σ H1 fun y H2 => rIxV G w y H2 Q) T S1 hx hs fun p ys hmu g2 g3 => ?_
      obtain ⟨z, ez, q⟩ := lift_ok S1 h1
      refine ⟨μ1, ρ, st1, S1, E1, ?_⟩
      rw [hm]
      intro μ2 H2 t2 S2 y hy
      obtain ⟨ys', k1, k2⟩ := fld_keep hs hmu t2 S2
      exact ⟨μ2, st1, .lst path, _, z, S2, ⟨p.2, ys', rfl, k1, k2⟩, hy, ez, fun x' r => q μ2 H2 t2 S2 x' r.rv⟩
    · exact h1.elim
  · exact h1.elim
/-- a new list -/
def TMN (G : Gx) (C : Orc) (W : WX) (m : Ex) : TE := fun σ H Q => ∃ μ ρ st, StOk G μ st H ∧ EnvOk G μ H ρ σ ∧ RPost G μ st H σ W (ev C m ρ st) fun v μ' st' H' => ∃ xs, v = .lst xs ∧ ∀ ys, RvPs G μ' H' xs ys → ∀ p, H' p = none → Q (.ref p) (upd H' p (.lst ys))
theorem tmn_tm {m : Ex} {σ : LSt} {H : Hp} {Q : VK} (hv : ∀ ρ st v st', ev C m ρ st = .ok v st' → ∃ xs, v = .lst xs) (h : TM G C W m σ H Q) : TMN G C W m σ H Q := by
  obtain ⟨μ, ρ, st, S, E, h⟩ := h
  refine ⟨μ, ρ, st, S, E, ?_⟩
  cases he : ev C m ρ st with
  | ok v st' =>
    rw [he] at h
    obtain ⟨xs, rfl⟩ := hv ρ st v st' he
    exact fun μ' H' t S' => ⟨xs, rfl, fun ys r => new_lst S' r fun μ2 H2 x t2 S2 hx => h μ2 H2 (t.trans t2) S2 x hx⟩
  | exc c st' => rw [he] at h; exact h
  | bad => rw [he] at h; exact h
theorem n_fsl (g : Good X G C W ck k) (hi : ck.av .t_init = true) {l u : Option Expr} {ml mh : OEx} {lo hi' : Option Int} {p2 : Pos} (ho : PE X (.Name x np) (TM G C W mo)) (hl : PO X l (TMO G C W ml)) (hh : PO X u (TMO G C W mh)) (el : ∀ ρ st, evo C ml ρ st = .ok lo st) (eh : ∀ ρ st, evo C mh ρ st = .ok hi' st) :
    PE X (.Subscript (.Attribute (.Name x np) "functions" ap) (.Slice l u none p2) pos) (TMN G C W (.fsl mo lo hi')) := by
  have T := g.tun hi
  refine (pe_slice sl_list (pe_fn ho) hl hh).mono fun σ H Q ⟨μ, ρ, st, S, E, h⟩ => ?_
  simp only [ev] at h
  refine tm_in S E h fun v μ1 st1 H1 t1 S1 E1 h1 x hx => ?_
  split at h1
  · split at h1
    · rename_i n _ path kept gen hs
      refine fld_rd (Q := fun w H1 => TMO G C W ml σ H1 fun o H2 => TMO G C W mh σ H2 fun o2 H3 => rSlL X.K w o o2 H3 Q) T S1 hx hs fun p ys hmu g2 g3 => ?_
      refine ⟨μ1, ρ, st1, S1, E1, ?_⟩
      rw [el]
      intro μ2 H2 t2 S2
      refine ⟨μ2, ρ, st1, S2, E1.step S1 t2, ?_⟩
      rw [eh]
      intro μ3 H3 t3 S3
      obtain ⟨ys', k1, k2⟩ := fld_keep hs hmu (t2.trans t3) S3
      obtain ⟨zs, ev, q⟩ := h1 μ3 H3 (t2.trans t3) S3
      cases ev
      exact ⟨p.2, ys', rfl, SqL.of k1, q _ (cut_rel k2 lo hi')⟩
    · exact h1.elim
  · exact h1.elim
theorem v_fsl {lo hi' : Option Int} : ∀ ρ st v st', ev C (.fsl mo lo hi') ρ st = .ok v st' → ∃ xs, v = .lst xs := fun ρ st v st' h => by
  simp only [ev] at h
  cases h0 : ev C mo ρ st with
  | ok x st1 =>
    rw [h0, Res.bind_ok] at h
    split at h
    · split at h
      · cases h; exact ⟨_, rfl⟩
      · cases h
    · cases h
  | exc c s => rw [h0] at h; cases h
  | bad => rw [h0] at h; cases h
theorem n_flist (g : Good X G C W ck k) (hi : ck.av .t_init = true) (hg : glB X.env.scope "list" = true) (ho : PE X (.Name x np) (TM G C W mo)) :
    PE X (.Call (.Name "list" p) [.Attribute (.Name x np) "functions" ap] [] pos) (TMN G C W (.flist mo)) := by
  have T := g.tun hi
  have hs := plain_star (e := .Attribute (.Name x np) "functions" ap) (es := []) (env := X.env) rfl
  refine (pe_callTy call_list_of (gl_of hg) (g.fa.bt _ (by decide)) (by rfl) (pa_cons (pe_fn ho) pa_nil hs) (by decide) (by decide) hs rfl).mono fun σ H Q ⟨μ, ρ, st, S, E, h⟩ => ?_
  simp only [ev] at h
  refine tm_in S E h fun v μ1 st1 H1 t1 S1 E1 h1 x hx => ?_
  split at h1
  · split at h1
    · rename_i n _ path kept gen hs
      refine fld_rd (Q := fun w H1 => ∃ p ys, [w] = [V.ref p] ∧ (SqL X.K H1 p ys ∨ SqT X.K H1 p ys) ∧ ∀ l, H1 l = none → Q (.ref l) (upd H1 l (.lst ys))) T S1 hx hs fun p ys hmu g2 g3 => ?_
      obtain ⟨zs, ev, q⟩ := h1 μ1 H1 Step.refl S1
      cases ev
      exact ⟨p.2, ys, rfl, .inl (SqL.of g2), q ys g3⟩
    · exact h1.elim
  · exact h1.elim
theorem v_flist : ∀ ρ st v st', ev C (.flist mo) ρ st = .ok v st' → ∃ xs, v = .lst xs := fun ρ st v st' h => by
  simp only [ev] at h
  cases h0 : ev C mo ρ st with
  | ok x st1 =>
    rw [h0, Res.bind_ok] at h
    split at h
    · split at h
      · cases h; exact ⟨_, rfl⟩
      · cases h
    · cases h
  | exc c s => rw [h0] at h; cases h
  | bad => rw [h0] at h; cases h
theorem s_flen (g : Good X G C W ck k) (hi : ck.av .t_init = true) (hg : glB X.env.scope "len" = true) (ho : PE X (.Name x np) (TM G C W mo)) :
    PE X (.Call (.Name "len" p) [.Attribute (.Name x np) "functions" ap] [] pos) (TM G C W (.flen mo)) := by
  have T := g.tun hi
  have hs := plain_star (e := .Attribute (.Name x np) "functions" ap) (es := []) (env := X.env) rfl
  refine (pe_callB call_len_seq (gl_of hg) (g.fa.bt _ (by decide)) (by rfl) (pa_cons (pe_fn ho) pa_nil hs) (by decide) (by decide) hs rfl).mono fun σ H Q ⟨μ, ρ, st, S, E, h⟩ => ?_
  simp only [ev] at h
  refine tm_in S E h fun v μ1 st1 H1 t1 S1 E1 h1 x hx => ?_
  split at h1
  · split at h1
    · rename_i n _ path kept gen hs
      refine fld_rd (Q := fun w H1 => ∃ p ys, [w] = [V.ref p] ∧ (SqL X.K H1 p ys ∨ SqT X.K H1 p ys) ∧ Q (.int ys.length) H1) T S1 hx hs fun p ys hmu g2 g3 => ?_
      exact ⟨p.2, ys, rfl, .inl (SqL.of g2), h1 μ1 H1 Step.refl S1 _ (by show V.int _ = V.int _; rw [g3.length])⟩
    · exact h1.elim
  · exact h1.elim
theorem s_kept (g : Good X G C W ck k) (hi : ck.av .t_init = true) (ho : PE X (.Name x np) (TM G C W mo)) : PE X (.Attribute (.Name x np) "kept" ap) (TM G C W (.kept mo)) := by
  have T := g.tun hi
  refine (pe_fld (f := "kept") ho rfl).mono fun σ H Q ⟨μ, ρ, st, S, E, h⟩ => ?_
  simp only [ev] at h
  refine tm_in S E h fun v μ1 st1 H1 t1 S1 E1 h1 x hx => ?_
  split at h1
  · split at h1
    · rename_i n _ path kk gen hs
      obtain ⟨p, hm, rfl⟩ := hx
      obtain ⟨dx, k1, k2⟩ := S1.cell n p _ hm hs
      cases path with
      | none => exact absurd k2.2 (by simp)
      | some path => exact ⟨p.1, G.tc, dx, _, _, rfl, k1, T.cls, T.nk, flds_kp, h1 μ1 H1 Step.refl S1 _ rfl⟩
    · exact h1.elim
  · exact h1.elim
theorem feq_rd (T : TunF X.K X.mg G) {mq : Ex} (hv : ∀ ρ st, ev C mq ρ st = .bad ∨ ∃ v, ev C mq ρ st = .ok v st) {σ : LSt} {H : Hp} {Q : VK} (h : TM G C W (.feq mo mq) σ H Q) :
    tOp (rCmp G .eq) (tFld X.K (TM G C W mo) "functions") (tFld X.K (TM G C W mq) "functions") σ H Q := by
  obtain ⟨μ, ρ, st, S, E, h⟩ := h
  simp only [ev] at h
  refine tm_in S E h fun v μ1 st1 H1 t1 S1 E1 h1 x hx => ?_
  rcases hv ρ st1 with hb | ⟨w, hw⟩
  · rw [hb] at h1; exact h1.elim
  rw [hw, Res.bind_ok] at h1
  split at h1
  · split at h1
    · rename_i n m _ _ path kept gen path' kept' gen' hs hs'
      refine fld_rd (Q := fun z H1 => tFld X.K (TM G C W mq) "functions" σ H1 fun y H2 => rCmp G .eq z y H2 Q) T S1 hx hs fun p ys hmu g2 g3 => ?_
      refine ⟨μ1, ρ, st1, S1, E1, ?_⟩
      rw [hw]
      intro μ2 H2 t2 S2 x2 hx2
      refine fld_rd (Q := fun y H2 => rCmp G .eq (.ref p.2) y H2 Q) T S2 hx2 hs' fun p' ys' hmu' g2' g3' => ?_
      obtain ⟨zs, k1, k2⟩ := fld_keep hs hmu t2 S2
      split at h1
      · rename_i hd
        simp only [Bool.and_eq_true] at hd
        refine ⟨μ2, st1, .lst path, .lst path', veqs path path', S2, ⟨p.2, zs, rfl, k1, k2⟩, ⟨p'.2, ys', rfl, g2', g3'⟩, ?_, h1 μ2 H2 t2 S2 _ rfl⟩
        have e1 : unS (.lst path) = .lst path := rfl
        simp only [cmpop, e1, hd.1, hd.2, Bool.and_self, if_true, veq]
      · exact h1.elim
    · exact h1.elim
  · exact h1.elim
theorem s_feq (g : Good X G C W ck k) (hi : ck.av .t_init = true) {x' : Str} {np' ap' : Pos} {mq : Ex} (ho : PE X (.Name x np) (TM G C W mo)) (hq : PE X (.Name x' np') (TM G C W mq)) (hv : ∀ ρ st, ev C mq ρ st = .bad ∨ ∃ v, ev C mq ρ st = .ok v st) :
    PE X (.Compare (.Attribute (.Name x np) "functions" ap) [.Eq] [.Attribute (.Name x' np') "functions" ap'] pos) (TM G C W (.feq mo mq)) ∧ PT X (.Compare (.Attribute (.Name x np) "functions" ap) [.Eq] [.Attribute (.Name x' np') "functions" ap'] pos) (TMT G C W (.feq mo mq)) :=
  ⟨(pe_cmpR (or_cmp g.K g.u .eq) (pe_fn ho) (pe_fn hq) rfl).mono fun σ H Q h => feq_rd (g.tun hi) hv h, (pt_cmpR (or_cmp g.K g.u .eq) (pe_fn ho) (pe_fn hq) rfl).mono fun σ H Q h => feq_rd (g.tun hi) hv (tmt_val h)⟩
end
end Sw
end

section
/-! SwTun2: len(t), str(t), t == u by the class's own defs. -/
namespace Sw
open PySem L2 PyProof.Rows
section
variable {X : Cx} {G : Gx} {C : Orc} {W : WX} {ck : Ck} {k : Nat} {a b e : Expr} {ma mb mo : Ex} {pos p np ap : Pos} {x : Str}
/-- a def runs below a builtin -/
theorem run_in {CX : CXT} {j : Nat} {f : Addr} {fd : FuncData} {ps : List Str} {sp : Sp} {E : LSt → XK} {A : Around} {pins : List (Addr × Obj)} {σ : LSt} {H : Hp} {s : Shared} {Q : VK} {us : List Value} {vs : List V} (F : FnOk X.prog X.w X.K X.mg X.base CX j f fd ps sp) (hr : Room j A) (hA : A.frames = X.A.frames) (hb : Binds X.K fd ps []) (hx : PassesAt CX X σ (E σ))
    (I : Inv X pins σ H s) (r : Vals vs us) (h : sp vs H Q (E σ)) : wpAny (model X.prog X.w) A (call (.ref f) us) (EP X pins σ Q) X.xe s := by
  have hl : us.length = ps.length := by rw [← r.length]; exact F.len _ _ _ _ h
  have b := hb s us I.kIn (by rw [List.append_nil]; exact hl)
  rw [List.append_nil] at b
  have e0 : Env0 X.prog X.w X.K X.mg X.base A X.stack s H := by
    have e := I.env0
    exact ⟨by rw [hA]; exact e.frames, e.mod, e.bs, e.bsz, e.funs, e.frf, e.hok, e.bare⟩
  refine wpAny_call (codeAny_mono (F.run A X.stack s H ⟨us, []⟩ us vs Q (E σ) hr e0 b r h) fun r s' hq => ?_)
  cases r with
  | error e => exact hx pins H s e s' I hq
  | ok fl =>
    cases fl with
    | ret u => exact I.after hq
    | next => exact False.elim hq
    | brk => exact False.elim hq
    | cont => exact False.elim hq
theorem s_tlen (g : Good X G C W ck k) (hi : ck.av .t_init = true) (hf : ck.av .t_len = true) (hg : glB X.env.scope "len" = true) (ho : PE X (.Name x np) (TM G C W mo)) : PE X (.Call (.Name "len" p) [.Name x np] [] pos) (TM G C W (.tlen mo)) := by
  obtain ⟨fd, ps, h1, h3, h4⟩ := g.fa.fn .t_len (g.fa.av _ hf)
  have T := g.tun hi
  have M := T.mt .t_len (g.fa.av _ hf) rfl
  refine ⟨fun pins s σ H Q I ⟨μ, ρ, st, S, E, h⟩ => ?_⟩
  simp only [ev] at h
  refine Call_ (ld_blt I (gl_of hg) (g.fa.bt _ (by decide)) boot_len ?_)
  refine PyProof.Rows.callWith_builtin1 (PyProof.Rows.args_cons (thn (ho.run pins s σ H (fun x H1 => ∃ a dx fs, x = .ref a ∧ H1 a = some (.ins G.tc dx fs) ∧ spF G C .t_len [.ref a] H1 (fun v H2 => ∃ n : Int, v = .int n ∧ (0 ≤ n ∧ n < 2 ^ 63) ∧ Q v H2) (WE W σ)) I ?_) fun v s1 ⟨x, H1, I1, r1, a, dx, fs, ex, ea, q⟩ => PyProof.Rows.args_nil ?_) rfl) rfl rfl
  · refine tm_in S E h fun v μ1 st1 H1 t1 S1 E1 h1 x hx => ?_
    split at h1
    · rename_i ht
      obtain ⟨n, p, dx, path, kept, gen, ys, rfl, hs, hmu, rfl, g1, g2, g3⟩ := tun_at S1 hx ht
      refine ⟨p.1, dx, _, rfl, g1, μ1, [.box n], st1, S1, .cons hx .nil, rpost_at (h1.bind.mono fun v μ2 st2 H2 t2 S2 r2 x hx2 => ?_)⟩
      obtain ⟨z, ez, q⟩ := lift_ok S2 r2
      unfold lenV at ez
      split at ez
      · split at ez
        · rename_i i hc
          cases ez
          simp only [Bool.and_eq_true, decide_eq_true_eq] at hc
          cases (show x = .int _ from hx2)
          exact ⟨_, rfl, by omega, q μ2 H2 Step.refl S2 _ rfl⟩
        · cases ez
      · cases ez
    · exact h1.elim
  · subst ex
    obtain rfl : v = Value.ref a := r1
    obtain ⟨mA, J, _⟩ := ins_get I1.hok ea
    obtain ⟨od, J, _⟩ := J.look
    obtain ⟨m, hF⟩ := I1.fr
    refine PySem.W.len_K hF I1.ok.mod.kin J M.at_ M.fn ?_
    refine wpAny_mono (run_in (E := WE W) (us := [.ref a]) (vs := [.ref a]) h1 ((g.room.mono (by omega) : Room (k + 1) X.A).in1) rfl h4 (L2N.passAt g.tk σ) I1 (.cons rfl .nil) q) (fun u s2 ⟨y, H2, I2, r2, n, ey, hn, q2⟩ => ?_) fun _ _ z => z
    subst ey
    obtain ⟨t, rfl⟩ := (show ∃ t, u = Value.int n t from r2)
    exact ⟨hn, ⟨.int n, H2, I2.tok _, ⟨_, rfl⟩, q2⟩⟩
theorem s_tstr (g : Good X G C W ck k) (hi : ck.av .t_init = true) (hf : ck.av .t_str = true) (hg : glB X.env.scope "str" = true) (ho : PE X (.Name x np) (TM G C W mo)) : PE X (.Call (.Name "str" p) [.Name x np] [] pos) (TM G C W (.tstr mo)) := by
  obtain ⟨fd, ps, h1, h3, h4⟩ := g.fa.fn .t_str (g.fa.av _ hf)
  have T := g.tun hi
  have M := T.mt .t_str (g.fa.av _ hf) rfl
  refine ⟨fun pins s σ H Q I ⟨μ, ρ, st, S, E, h⟩ => ?_⟩
  simp only [ev] at h
  refine Call_ (ld_blt I (gl_of hg) (g.fa.bt _ (by decide)) boot_str ?_)
  refine PyProof.Rows.callWith_type1 (PyProof.Rows.args_cons (thn (ho.run pins s σ H (fun x H1 => ∃ a dx fs, x = .ref a ∧ H1 a = some (.ins G.tc dx fs) ∧ spF G C .t_str [.ref a] H1 (fun v H2 => ∃ z : Str, v = .str z ∧ Q v H2) (WE W σ)) I ?_) fun v s1 ⟨x, H1, I1, r1, a, dx, fs, ex, ea, q⟩ => PyProof.Rows.args_nil ?_) rfl) rfl rfl
  · refine tm_in S E h fun v μ1 st1 H1 t1 S1 E1 h1 x hx => ?_
    split at h1
    · rename_i ht
      obtain ⟨n, p, dx, path, kept, gen, ys, rfl, hs, hmu, rfl, g1, g2, g3⟩ := tun_at S1 hx ht
      refine ⟨p.1, dx, _, rfl, g1, μ1, [.box n], st1, S1, .cons hx .nil, rpost_at (h1.bind.mono fun v μ2 st2 H2 t2 S2 r2 x hx2 => ?_)⟩
      obtain ⟨z, ez, q⟩ := lift_ok S2 r2
      unfold strV at ez
      split at ez
      · cases ez
        cases (show x = .str _ from hx2)
        exact ⟨_, rfl, q μ2 H2 Step.refl S2 _ rfl⟩
      · cases ez
    · exact h1.elim
  · subst ex
    obtain rfl : v = Value.ref a := r1
    obtain ⟨mA, J, _⟩ := ins_get I1.hok ea
    obtain ⟨od, J, _⟩ := J.look
    have hr2 : Room k X.A.in1.in1 := ((g.room.mono (by omega) : Room (k + 2) X.A).in1).in1
    refine PySem.W.kso_call hr2.units0 I1.kIn J M.at_ M.fn ?_
    refine wpAny_mono (run_in (E := WE W) (us := [.ref a]) (vs := [.ref a]) h1 hr2 rfl h4 (L2N.passAt g.tk σ) I1 (.cons rfl .nil) q) (fun u s2 ⟨y, H2, I2, r2, z, ey, q2⟩ => ?_) fun _ _ z => z
    subst ey
    obtain ⟨t, rfl⟩ := (show ∃ t, u = Value.str z t from r2)
    exact ⟨.str z, H2, I2, ⟨_, rfl⟩, q2⟩
def rTeq (G : Gx) (C : Orc) (E : XK) : R2 := fun x y H Q => ∃ a b dx dy fs gs, x = .ref a ∧ y = .ref b ∧ H a = some (.ins G.tc dx fs) ∧ H b = some (.ins G.tc dy gs) ∧ spF G C .t_eq [.ref a, .ref b] H (fun v H2 => ∃ r : Bool, v = .bl r ∧ Q v H2) E
theorem teq_rd {σ : LSt} {H : Hp} {Q : VK} (h : TM G C W (.teq ma mb) σ H Q) : TM G C W ma σ H fun x H1 => TM G C W mb σ H1 fun y H2 => rTeq G C (WE W σ) x y H2 Q := by
  obtain ⟨μ, ρ, st, S, E, h⟩ := h
  simp only [ev] at h
  refine tm_in S E h fun v μ1 st1 H1 t1 S1 E1 h1 x hx => tm_in S1 E1 h1 fun w μ2 st2 H2 t2 S2 E2 h2 y hy => ?_
  split at h2
  · rename_i ht
    simp only [Bool.and_eq_true] at ht
    have hx2 := hx.step S1 t2
    obtain ⟨n, p, dx, path, kept, gen, ys, rfl, hs, hmu, rfl, g1, g2, g3⟩ := tun_at S2 hx2 ht.1
    obtain ⟨n', p', dx', path', kept', gen', ys', rfl, hs', hmu', rfl, g1', g2', g3'⟩ := tun_at S2 hy ht.2
    refine ⟨p.1, p'.1, dx, dx', _, _, rfl, rfl, g1, g1', μ2, [.box n, .box n'], st2, S2, .cons hx2 (.cons hy .nil), rpost_at (h2.bind.mono fun v μ3 st3 H3 t3 S3 r3 z hz => ?_)⟩
    obtain ⟨r, er, q⟩ := lift_ok S3 r3
    obtain ⟨bb, eb, rfl⟩ := Option.map_eq_some_iff.mp er
    cases v <;> simp only [boolV, reduceCtorEq, Option.some.injEq] at eb
    subst eb
    cases (show z = .bl _ from hz)
    exact ⟨_, rfl, q μ3 H3 Step.refl S3 _ rfl⟩
  · exact h2.elim
theorem teq_op (g : Good X G C W ck k) (hi : ck.av .t_init = true) (hf : ck.av .t_eq = true) {pins : List (Addr × Obj)} {s2 : Shared} {σ : LSt} {H2 : Hp} {x y : V} {v u : Value} {Q : VK} (I2 : Inv X pins σ H2 s2) (rx : RelV x v) (ry : RelV y u) (q : rTeq G C (WE W σ) x y H2 Q) :
    wpAny (model X.prog X.w) X.A (compareOp .Eq v u) (EP X pins σ Q) X.xe s2 := by
  obtain ⟨fd, ps, h1, h3, h4⟩ := g.fa.fn .t_eq (g.fa.av _ hf)
  have T := g.tun hi
  have M := T.mt .t_eq (g.fa.av _ hf) rfl
  obtain ⟨aa, bb, dx, dy, fs, gs, rfl, rfl, ea, eb, q⟩ := q
  obtain rfl : v = Value.ref aa := rx
  obtain rfl : u = Value.ref bb := ry
  obtain ⟨mA, J, _⟩ := ins_get I2.hok ea
  obtain ⟨mB, J', _⟩ := ins_get I2.hok eb
  obtain ⟨od, J, _⟩ := J.look
  obtain ⟨od', J', _⟩ := J'.look
  obtain ⟨m, hF⟩ := I2.fr
  have hr : Room k X.A := g.room.mono (by omega)
  refine PySem.W.cmp_K (op := .Eq) (tb := .ref G.tc) hr.units0 hF I2.ok.mod.kin J J'.type (by simp [PySem.W.notFirst]) M.at_ M.fn ?_
  refine wpAny_mono (run_in (E := WE W) (us := [.ref aa, .ref bb]) (vs := [.ref aa, .ref bb]) h1 hr rfl h4 (L2N.passAt g.tk σ) I2 (.cons rfl (.cons rfl .nil)) q) (fun w s3 ⟨z, H3, I3, r3, r, ez, q3⟩ => ?_) fun _ _ z => z
  subst ez
  cases (show w = Value.bool r from r3)
  exact ⟨.bl r, H3, I3, rfl, q3⟩
theorem s_teq (g : Good X G C W ck k) (hi : ck.av .t_init = true) (hf : ck.av .t_eq = true) (hp : plainE b = true) (ha : PE X a (TM G C W ma)) (hb : PE X b (TM G C W mb)) : PE X (.Compare a [.Eq] [b] pos) (TM G C W (.teq ma mb)) ∧ PT X (.Compare a [.Eq] [b] pos) (TMT G C W (.teq ma mb)) := by
  constructor
  · refine ⟨fun pins s σ H Q I h => ?_⟩
    exact wpAny_Compare1 (binT ha hb I (teq_rd h) fun v u s2 x y H2 I2 rx ry q => teq_op g hi hf I2 rx ry q) (plain_in hp _)
  · refine ⟨fun pins s σ H Q I h => ?_⟩
    refine wpAny_isTrue_Compare1 (thn (ha.run pins s σ H _ I (teq_rd (tmt_val h))) fun v s1 ⟨x, H1, I1, r1, q1⟩ => thn (hb.run pins s1 σ H1 _ I1 q1) fun u s2 ⟨y, H2, I2, r2, q2⟩ =>
      thn (teq_op g hi hf I2 r1 r2 q2) fun c s3 ⟨z, H3, I3, r3, kk, e, q3⟩ => ?_) (plain_in hp _)
    subst e
    cases r3
    exact wpAny_truthy_bool ⟨H3, I3, q3⟩
theorem s_tis (g : Good X G C W ck k) (hi : ck.av .t_init = true) (hg : glB X.env.scope "isinstance" = true) (hg2 : glB X.env.scope "Tuner" = true) {q : Pos} (ho : PE X (.Name x np) (TM G C W mo)) : PE X (.Call (.Name "isinstance" p) [.Name x np, .Name "Tuner" q] [] pos) (TM G C W (.tis mo)) := by
  have T := g.tun hi
  have hb : PE X (.Name "Tuner" q) (tC (.ref G.tc)) := pe_glob (gl_of hg2) T.mgt rfl
  refine (pe_callB (C8.call_isC T.ic) (gl_of hg) (g.fa.bt _ (by decide)) (by rfl) (pa_cons ho (pa_cons hb pa_nil) rfl) (by decide) (by decide) rfl rfl).mono fun σ H Q ⟨μ, ρ, st, S, E, h⟩ => ?_
  simp only [ev] at h
  refine tm_in S E h fun v μ1 st1 H1 t1 S1 E1 h1 x hx => ?_
  split at h1
  · rename_i ht
    obtain ⟨n, p, dx, path, kept, gen, ys, rfl, hs, hmu, rfl, g1, g2, g3⟩ := tun_at S1 hx ht
    exact ⟨p.1, dx, _, rfl, g1, h1 μ1 H1 Step.refl S1 _ rfl⟩
  · exact h1.elim
theorem const_pe (g : Good X G C W ck k) {i : Int} {e : Expr} (h : constI i e = true) : ∃ mb, PE X e (TM G C W mb) ∧ (∀ ρ st, ev C mb ρ st = .ok (.int i) st) ∧ plainE e = true := by
  unfold constI at h
  split at h
  · simp only [decide_eq_true_eq] at h
    subst h
    exact ⟨.ci i, s_const (v := .int i) pe_int (fun ρ st => by simp only [ev]) (fun _ _ => rfl), fun ρ st => by simp only [ev], rfl⟩
  · rename_i j _ _ _
    simp only [decide_eq_true_eq] at h
    subst h
    exact ⟨.neg (.ci j), s_neg g (s_const (v := .int j) pe_int (fun ρ st => by simp only [ev]) (fun _ _ => rfl)), fun ρ st => by simp [ev, intV], rfl⟩
  · cases h
theorem const_po (g : Good X G C W ck k) {i : Option Int} {e : Option Expr} (h : constO i e = true) : ∃ mb, PO X e (TMO G C W mb) ∧ (∀ ρ st, evo C mb ρ st = .ok i st) := by
  unfold constO at h
  split at h
  · exact ⟨.none, s_onone, fun ρ st => by simp only [evo]⟩
  · obtain ⟨mb, h1, h2, _⟩ := const_pe (W := W) (G := G) (C := C) g h
    exact ⟨.some mb, s_osome h1, fun ρ st => by simp only [evo, h2, Res.bind_ok, intV, Option.map_some, lift_some]⟩
  · cases h
end
end Sw
end

section
/-! SwSound5: the checker of expressions is right. -/
namespace Sw
open PySem L2
section
variable {G : Gx} {C : Orc} {ck : Ck} {k : Nat}
def isBO : Expr → Bool
  | .BoolOp .. => true
  | _ => false
/-- what the checker's word on an expression is worth -/
structure SE (X : Cx) (W : WX) (G : Gx) (C : Orc) (m : Ex) (e : Expr) : Prop where
  pe : PE X e (TM G C W m)
  pt : isBool m = true → PT X e (TMT G C W m)
  pw : isBO e = true → PW X e (TMT G C W m)
theorem SE.of {X : Cx} {W : WX} {m : Ex} {e : Expr} (h : PE X e (TM G C W m)) (hb : isBO e = false) (he : isBool m = true → ∀ whole, isTrue e X.env whole = (do let v ← whole; standAt e.pos; holding [v] (truthy v))) : SE X W G C m e :=
  ⟨h, fun q => (pt_val h (he q)).mono fun σ H Q r => tmt_val r, fun q => by rw [hb] at q; cases q⟩
theorem own_of {sc' scope : Scope} {x : Str} (h : ownB sc' scope x = true) : Loc sc' x ∧ ((scope.names.lookup x == some .cell) = true ∨ sc'.names.lookup x = some .local) := by
  unfold ownB at h
  simp only [Bool.or_eq_true, Bool.and_eq_true] at h
  rcases h with h | ⟨h1, h2⟩
  · exact ⟨.inl (ploc_of h), .inr (ploc_of h)⟩
  · exact ⟨loc_of h1, .inl h2⟩
theorem zip_snd : ∀ {xs : List Str} {tg : List Nat}, xs.length = tg.length → (xs.zip tg).map (·.2) = tg
  | [], [], _ => rfl
  | x :: xs, t :: tg, h => by
    simp only [List.zip_cons_cons, List.map_cons]
    rw [zip_snd (by simpa using h)]
theorem blk_ix {N : List Str} {sc scope : Scope} {own : List (Str × Nat)} (h : blkC N sc scope own = true) : ∀ p ∈ own, N[p.2]? = some p.1 := (blkOk_by h).ix
mutual
theorem sndE : ∀ (m : Ex) (X : Cx) (W : WX) (e : Expr), Good X G C W ck k → chkE ck X.env.scope m e = true → SE X W G C m e
  | .var i, X, W, e, g, h => by
    simp only [chkE] at h
    split at h
    · simp only [Bool.and_eq_true, decide_eq_true_eq] at h
      exact .of (s_var (by rw [g.hN]; exact h.1.1) h.1.2 h.2) rfl fun _ _ => rfl
    · cases h
  | .ci i, X, W, e, g, h => by
    simp only [chkE] at h
    split at h
    · simp only [decide_eq_true_eq] at h
      subst h
      exact .of (s_const (v := .int i) pe_int (fun ρ st => by simp only [ev]) fun _ _ => rfl) rfl fun _ _ => rfl
    · cases h
  | .cb b, X, W, e, g, h => by
    simp only [chkE] at h
    split at h
    · simp only [beq_iff_eq] at h
      subst h
      exact .of (s_const (v := .bl b) pe_bl (fun ρ st => by simp only [ev]) fun _ _ => rfl) rfl fun _ _ => rfl
    · cases h
  | .cn, X, W, e, g, h => by
    simp only [chkE] at h
    split at h
    · exact .of (s_const (v := .non) pe_non (fun ρ st => by simp only [ev]) fun _ _ => rfl) rfl fun _ _ => rfl
    · cases h
  | .cs s, X, W, e, g, h => by
    simp only [chkE] at h
    split at h
    · simp only [decide_eq_true_eq] at h
      subst h
      exact .of (s_const (v := .str s) pe_str (fun ρ st => by simp only [ev]) fun _ _ => rfl) rfl fun _ _ => rfl
    · cases h
  | .sizes, X, W, e, g, h => by
    simp only [chkE] at h
    split at h
    · simp only [Bool.and_eq_true, decide_eq_true_eq] at h
      obtain ⟨rfl, h2⟩ := h
      exact .of (s_sizes g h2) rfl fun _ _ => rfl
    · cases h
  | .fv f, X, W, e, g, h => by
    simp only [chkE] at h
    split at h
    · simp only [Bool.and_eq_true, decide_eq_true_eq] at h
      obtain ⟨⟨⟨⟨rfl, h2⟩, h3⟩, h4⟩, h5⟩ := h
      exact .of (s_fv g f h2 h3 h4 (by simpa using h5)) rfl fun _ _ => rfl
    · cases h
  | .bin o a b, X, W, e, g, h => by
    simp only [chkE] at h
    split at h
    · simp only [Bool.and_eq_true] at h
      obtain ⟨⟨h1, h2⟩, h3⟩ := h
      have := bop_of h1
      subst this
      exact .of (s_bin g o (sndE a X W _ g h2).pe (sndE b X W _ g h3).pe) rfl fun _ _ => rfl
    · cases h
  | .neg a, X, W, e, g, h => by
    simp only [chkE] at h
    split at h
    · exact .of (s_neg g (sndE a X W _ g h).pe) rfl fun _ _ => rfl
    · cases h
  | .cmp o a b, X, W, e, g, h => by
    simp only [chkE] at h
    split at h
    · simp only [Bool.and_eq_true] at h
      obtain ⟨⟨⟨h1, h2⟩, h3⟩, h4⟩ := h
      have := cop_of h1
      subst this
      have qa := (sndE a X W _ g h3).pe
      have qb := (sndE b X W _ g h4).pe
      exact ⟨(s_cmp g o h2 qa qb).1, fun _ => (s_cmp g o h2 qa qb).2, fun w => by cases w⟩
    · cases h
  | .chain o p a b c, X, W, e, g, h => by
    simp only [chkE] at h
    split at h
    · simp only [Bool.and_eq_true] at h
      obtain ⟨⟨⟨⟨⟨⟨h1, h2⟩, h3⟩, h4⟩, h5⟩, h6⟩, h7⟩ := h
      have := cop_of h1
      subst this
      have := cop_of h2
      subst this
      have qa := (sndE a X W _ g h5).pe
      have qb := (sndE b X W _ g h6).pe
      have qc := (sndE c X W _ g h7).pe
      exact ⟨(s_chain g o p h3 h4 qa qb qc).1, fun _ => (s_chain g o p h3 h4 qa qb qc).2, fun w => by cases w⟩
    · cases h
  | .not a, X, W, e, g, h => by
    simp only [chkE] at h
    split at h
    · simp only [Bool.and_eq_true] at h
      exact ⟨s_not (sndE a X W _ g h.2).pe, fun _ => s_notT ((sndE a X W _ g h.2).pt h.1), fun w => by cases w⟩
    · cases h
  | .and a b, X, W, e, g, h => by
    simp only [chkE] at h
    split at h
    · rename_i x y rest pos
      simp only [Bool.and_eq_true] at h
      obtain ⟨⟨h1, h2⟩, h3⟩ := h
      have qa := sndE a X W _ g h2
      split at h3
      · simp only [Bool.and_eq_true] at h3
        have qb := sndE b X W _ g h3.2
        have w : PW X (.BoolOp .And [x, y] pos) (TMT G C W (.and a b)) := (pw_and (qa.pt h1) (pw_and1 (qb.pt h3.1))).mono fun σ H Q r => and_rdT r
        exact ⟨(pe_and qa.pe (pe_one qb.pe)).mono fun σ H Q r => and_rd r, fun _ => w.pt, fun _ => w⟩
      · simp only [Bool.and_eq_true] at h3
        have qb := sndE b X W _ g h3.2
        have w : PW X _ (TMT G C W (.and a b)) := (pw_and (qa.pt h1) (qb.pw rfl)).mono fun σ H Q r => and_rdT r
        exact ⟨(pe_and qa.pe qb.pe).mono fun σ H Q r => and_rd r, fun _ => w.pt, fun _ => w⟩
    · cases h
  | .or a b, X, W, e, g, h => by
    simp only [chkE] at h
    split at h
    · rename_i x y rest pos
      simp only [Bool.and_eq_true] at h
      obtain ⟨⟨h1, h2⟩, h3⟩ := h
      have qa := sndE a X W _ g h2
      split at h3
      · simp only [Bool.and_eq_true] at h3
        have qb := sndE b X W _ g h3.2
        have w : PW X (.BoolOp .Or [x, y] pos) (TMT G C W (.or a b)) := (pw_or (qa.pt h1) (pw_or1 (qb.pt h3.1))).mono fun σ H Q r => or_rdT r
        exact ⟨(pe_or qa.pe (pe_one qb.pe)).mono fun σ H Q r => or_rd r, fun _ => w.pt, fun _ => w⟩
      · simp only [Bool.and_eq_true] at h3
        have qb := sndE b X W _ g h3.2
        have w : PW X _ (TMT G C W (.or a b)) := (pw_or (qa.pt h1) (qb.pw rfl)).mono fun σ H Q r => or_rdT r
        exact ⟨(pe_or qa.pe qb.pe).mono fun σ H Q r => or_rd r, fun _ => w.pt, fun _ => w⟩
    · cases h
  | .ife c a b, X, W, e, g, h => by
    simp only [chkE] at h
    split at h
    · simp only [Bool.and_eq_true] at h
      obtain ⟨⟨⟨h1, h2⟩, h3⟩, h4⟩ := h
      exact .of (s_ife ((sndE c X W _ g h2).pt h1) (sndE a X W _ g h3).pe (sndE b X W _ g h4).pe) rfl fun w => by cases w
    · cases h
  | .call f as, X, W, e, g, h => by
    simp only [chkE] at h
    split at h
    · simp only [Bool.and_eq_true, decide_eq_true_eq] at h
      obtain ⟨⟨⟨⟨rfl, h2⟩, h3⟩, h4⟩, h5⟩ := h
      exact .of (s_call g f h2 h3 h4.1 (by simpa using h4.2) (chkA_plain h5) (sndA as X W _ g h5)) rfl fun _ _ => rfl
    · simp only [Bool.and_eq_true, decide_eq_true_eq] at h
      obtain ⟨⟨⟨⟨rfl, h2⟩, h3⟩, h4⟩, h5⟩ := h
      cases as with
      | nil => exact .of (s_call0 g f h2 h3 h4.1 (by simpa using h4.2)) rfl fun _ _ => rfl
      | cons a b => simp [chkA] at h5
    · cases h
  | .callv q as, X, W, e, g, h => by
    simp only [chkE] at h
    split at h
    · simp only [Bool.and_eq_true] at h
      obtain ⟨⟨h1, h2⟩, h3⟩ := h
      exact .of (s_callv g h1 (chkA_plain h3) (sndE q X W _ g h2).pe (sndA as X W _ g h3)) rfl fun _ _ => rfl
    · cases h
  | .meth o m as, X, W, e, g, h => by
    simp only [chkE] at h
    split at h
    · rename_i x np y ap args cp
      simp only [Bool.and_eq_true, decide_eq_true_eq] at h
      obtain ⟨⟨⟨⟨⟨⟨⟨rfl, h2⟩, h3⟩, h4⟩, h5⟩, h6⟩, h7⟩, h8⟩ := h
      have po := (sndE o X W _ g h7).pe
      match args, h6, h8 with
      | [], _, h8 =>
        cases as with
        | nil => exact .of (s_meth0 g m h3 h2 h4 h5 po) rfl fun _ _ => rfl
        | cons a b => simp [chkA] at h8
      | [a], _, h8 =>
        have hp := chkA_plain h8
        simp only [List.all_cons, List.all_nil, Bool.and_true] at hp
        exact .of (s_meth g m h3 h2 h4 hp h5 po (sndA as X W _ g h8)) rfl fun _ _ => rfl
      | a :: b :: r, h6, _ => simp at h6
    · cases h
  | .mk a, X, W, e, g, h => by
    simp only [chkE] at h
    split at h
    · simp only [Bool.and_eq_true, decide_eq_true_eq] at h
      obtain ⟨⟨⟨⟨rfl, h2⟩, h3⟩, h4⟩, h5⟩ := h
      exact .of (s_mk g h2 h3 h4 (sndE a X W _ g h5).pe) rfl fun _ _ => rfl
    · cases h
  | .b1 f a, X, W, e, g, h => by
    simp only [chkE] at h
    split at h
    · split at h
      · split at h
        · simp only [Bool.and_eq_true, decide_eq_true_eq] at h
          obtain ⟨⟨⟨⟨⟨rfl, rfl⟩, h3⟩, h4⟩, h5⟩, h6⟩ := h
          exact .of (s_lenset g h3 h4 h5 (sndE a X W _ g h6).pe) rfl fun _ _ => rfl
        · cases h
      · rename_i hf
        simp only [Bool.and_eq_true, decide_eq_true_eq] at h
        obtain ⟨⟨⟨rfl, h2⟩, h3⟩, h4⟩ := h
        exact .of (s_b1 g f (fun w => by subst w; exact hf rfl) h2 h3 (sndE a X W _ g h4).pe) rfl fun _ _ => rfl
    · cases h
  | .b2 f a b, X, W, e, g, h => by
    simp only [chkE] at h
    split at h
    · simp only [Bool.and_eq_true, decide_eq_true_eq] at h
      obtain ⟨⟨⟨⟨⟨rfl, h2⟩, h3⟩, h4⟩, h5⟩, h6⟩ := h
      exact .of (s_b2 g f h2 h3 h4 (sndE a X W _ g h5).pe (sndE b X W _ g h6).pe) rfl fun _ _ => rfl
    · cases h
  | .m1 f o a, X, W, e, g, h => by
    simp only [chkE] at h
    split at h
    · rename_i r m ap y cp
      simp only [Bool.and_eq_true, decide_eq_true_eq] at h
      obtain ⟨⟨⟨⟨⟨⟨rfl, h2⟩, h3⟩, h4⟩, h5⟩, h6⟩, h7⟩ := h
      by_cases hf : f = .tix
      · subst hf
        simp only [recvM] at h2
        cases o <;> simp only [isSizes, reduceCtorEq] at h2
        simp only [chkE] at h6
        split at h6
        · simp only [Bool.and_eq_true, decide_eq_true_eq] at h6
          obtain ⟨rfl, h8⟩ := h6
          exact .of (s_tix g h8 h4 h5 (sndE a X W _ g h7).pe) rfl fun _ _ => rfl
        · cases h6
      · exact .of (s_m1 g f hf h3 h4 h5 (sndE o X W _ g h6).pe (sndE a X W _ g h7).pe) rfl fun _ _ => rfl
    · cases h
  | .isi a t, X, W, e, g, h => by
    simp only [chkE] at h
    split at h
    · simp only [Bool.and_eq_true, decide_eq_true_eq] at h
      obtain ⟨⟨⟨⟨⟨⟨rfl, h2⟩, rfl⟩, h4⟩, h5⟩, h6⟩, h7⟩ := h
      exact .of (s_isi g t h7 h2 h4 h5 (sndE a X W _ g h6).pe) rfl fun _ _ => rfl
    · cases h
  | .tup es, X, W, e, g, h => by
    simp only [chkE] at h
    split at h
    · exact .of (s_tup (sndA es X W _ g h)) rfl fun _ _ => rfl
    · cases h
  | .lst es, X, W, e, g, h => by
    simp only [chkE] at h
    split at h
    · exact .of (s_lst (sndA es X W _ g h)) rfl fun _ _ => rfl
    · cases h
  | .idx a i, X, W, e, g, h => by
    simp only [chkE] at h
    split at h
    · simp only [Bool.and_eq_true] at h
      exact .of (s_idx g h.1.1 (sndE a X W _ g h.1.2).pe (sndE i X W _ g h.2).pe) rfl fun _ _ => rfl
    · cases h
  | .sl a lo hi, X, W, e, g, h => by
    simp only [chkE] at h
    split at h
    · simp only [Bool.and_eq_true] at h
      exact .of (s_sl g (sndE a X W _ g h.1.1).pe (sndO lo X W _ g h.1.2) (sndO hi X W _ g h.2)) rfl fun _ _ => rfl
    · cases h
  | .rev a, X, W, e, g, h => by
    simp only [chkE] at h
    split at h
    · simp only [Bool.and_eq_true, decide_eq_true_eq] at h
      obtain ⟨rfl, h2⟩ := h
      exact .of (s_rev g (sndE a X W _ g h2).pe) rfl fun _ _ => rfl
    · cases h
  | .lc elt tg it cond, X, W, e, g, h => by
    simp only [chkE] at h
    split at h
    · rename_i y t i ifs n scope pos
      simp only [Bool.and_eq_true, decide_eq_true_eq] at h
      obtain ⟨rfl, h⟩ := h
      split at h
      · rename_i xs hxs
        simp only [Bool.and_eq_true, decide_eq_true_eq] at h
        obtain ⟨⟨⟨⟨⟨⟨⟨⟨h1, h2⟩, h3⟩, h4⟩, h5⟩, h6⟩, h7⟩, h8⟩, h9⟩ := h
        have hN : X.N.Nodup := by rw [g.hN]; exact g.nd
        have hz := zip_snd h1
        rw [← g.hN] at h3
        have ht : ∀ (s : Shared) (H : Hp) (Cc : Addr) (cl : List (Str × Addr)) (fp : List Addr), PTs (X.blk s H scope (compEnvC scope cl Cc X.env) fp) ifs (TMC G C noW cond) := by
          intro s H Cc cl fp
          have gb := g.blk s H scope (compEnvC scope cl Cc X.env) fp
          split at h8
          · exact sndC cond _ noW none gb h8
          · exact sndC cond _ noW (some _) gb h8
          · cases h8
        have key := pe_lc (g := gT X.K tg) (pos := pos) g.calm hN (sndI it X W i t g h7 (by
            cases hp : pairI it
            · exact .inl rfl
            · right
              rw [hp] at h2
              unfold tgNames at hxs
              split at hxs
              · cases hxs; simp at h1; rw [← h1] at h2; simp at h2
              · exact ⟨_, _, _, rfl⟩
              · cases hxs)) (blkOk_by h3)
          (fun s H Cc cl fp => s_tg (X := X.blk s H scope (compEnvC scope cl Cc X.env) fp) g.calm hN hxs h1 (blk_ix h3) fun x hx => own_of (List.all_eq_true.mp h4 x hx))
          ht (fun s H Cc cl fp => (sndE elt _ noW y (g.blk s H scope (compEnvC scope cl Cc X.env) fp) h9).pe) (plain_fold h6)
        rw [hz] at key
        exact .of (key.mono fun σ H Q r => by rw [g.K]; exact lc_rd h2 r) rfl fun _ _ => rfl
      · cases h
    · cases h
  | .fidx o i, X, W, e, g, h => by
    simp only [chkE] at h
    split at h
    · simp only [Bool.and_eq_true, decide_eq_true_eq] at h
      obtain ⟨⟨⟨rfl, h2⟩, h3⟩, h4⟩ := h
      obtain ⟨mb, b1, b2, b3⟩ := const_pe (W := W) (G := G) (C := C) g h3
      exact .of (s_fidx g h2 b3 (sndE o X W _ g h4).pe b1 b2) rfl fun _ _ => rfl
    · cases h
  | .fsl o lo hi, X, W, e, g, h => by
    simp only [chkE] at h
    split at h
    · simp only [Bool.and_eq_true, decide_eq_true_eq] at h
      obtain ⟨⟨⟨⟨rfl, h2⟩, h3⟩, h4⟩, h5⟩ := h
      obtain ⟨ml, l1, l2⟩ := const_po (W := W) (G := G) (C := C) g h3
      obtain ⟨mh, u1, u2⟩ := const_po (W := W) (G := G) (C := C) g h4
      exact .of ((n_fsl g h2 (sndE o X W _ g h5).pe l1 u1 l2 u2).mono fun σ H Q q => tmn_tm v_fsl q) rfl fun _ _ => rfl
    · cases h
  | .flen o, X, W, e, g, h => by
    simp only [chkE] at h
    split at h
    · simp only [Bool.and_eq_true, decide_eq_true_eq] at h
      obtain ⟨⟨⟨⟨rfl, h2⟩, rfl⟩, h4⟩, h5⟩ := h
      exact .of (s_flen g h4 h2 (sndE o X W _ g h5).pe) rfl fun _ _ => rfl
    · cases h
  | .flist o, X, W, e, g, h => by
    simp only [chkE] at h
    split at h
    · simp only [Bool.and_eq_true, decide_eq_true_eq] at h
      obtain ⟨⟨⟨⟨rfl, h2⟩, rfl⟩, h4⟩, h5⟩ := h
      exact .of ((n_flist g h4 h2 (sndE o X W _ g h5).pe).mono fun σ H Q q => tmn_tm v_flist q) rfl fun _ _ => rfl
    · cases h
  | .feq o q, X, W, e, g, h => by
    simp only [chkE] at h
    split at h
    · simp only [Bool.and_eq_true, decide_eq_true_eq] at h
      obtain ⟨⟨⟨⟨⟨rfl, rfl⟩, h3⟩, h4⟩, h5⟩, h6⟩ := h
      have hv : ∀ ρ st, ev C q ρ st = .bad ∨ ∃ v, ev C q ρ st = .ok v st := fun ρ st => by
        cases q <;> first | (simp [isVar] at h4; done) | skip
        simp only [ev]
        split
        · exact .inr ⟨_, rfl⟩
        · exact .inl rfl
      have po := (sndE o X W _ g h5).pe
      have pq := (sndE q X W _ g h6).pe
      exact ⟨(s_feq g h3 po pq hv).1, fun _ => (s_feq g h3 po pq hv).2, fun w => by cases w⟩
    · cases h
  | .kept o, X, W, e, g, h => by
    simp only [chkE] at h
    split at h
    · simp only [Bool.and_eq_true, decide_eq_true_eq] at h
      obtain ⟨⟨rfl, h2⟩, h3⟩ := h
      exact .of (s_kept g h2 (sndE o X W _ g h3).pe) rfl fun _ _ => rfl
    · cases h
  | .tlen o, X, W, e, g, h => by
    simp only [chkE] at h
    split at h
    · simp only [Bool.and_eq_true, decide_eq_true_eq] at h
      obtain ⟨⟨⟨⟨rfl, h2⟩, h3⟩, h4⟩, h5⟩ := h
      exact .of (s_tlen g h3 h4 h2 (sndE o X W _ g h5).pe) rfl fun _ _ => rfl
    · cases h
  | .tstr o, X, W, e, g, h => by
    simp only [chkE] at h
    split at h
    · simp only [Bool.and_eq_true, decide_eq_true_eq] at h
      obtain ⟨⟨⟨⟨rfl, h2⟩, h3⟩, h4⟩, h5⟩ := h
      exact .of (s_tstr g h3 h4 h2 (sndE o X W _ g h5).pe) rfl fun _ _ => rfl
    · cases h
  | .teq o q, X, W, e, g, h => by
    simp only [chkE] at h
    split at h
    · simp only [Bool.and_eq_true] at h
      obtain ⟨⟨⟨⟨h1, h2⟩, h3⟩, h4⟩, h5⟩ := h
      have po := (sndE o X W _ g h4).pe
      have pq := (sndE q X W _ g h5).pe
      exact ⟨(s_teq g h1 h2 h3 po pq).1, fun _ => (s_teq g h1 h2 h3 po pq).2, fun w => by cases w⟩
    · cases h
  | .tne _ _, X, W, e, g, h => by simp [chkE] at h
  | .tis o, X, W, e, g, h => by
    simp only [chkE] at h
    split at h
    · simp only [Bool.and_eq_true, decide_eq_true_eq] at h
      obtain ⟨⟨⟨⟨⟨rfl, h2⟩, rfl⟩, h4⟩, h5⟩, h6⟩ := h
      exact .of (s_tis g h5 h2 h4 (sndE o X W _ g h6).pe) rfl fun _ _ => rfl
    · cases h
theorem sndA : ∀ (m : Exs) (X : Cx) (W : WX) (es : List Expr), Good X G C W ck k → chkA ck X.env.scope m es = true → PA X es (TMA G C W m)
  | .nil, X, W, [], g, h => s_nil
  | .nil, X, W, _ :: _, g, h => by simp [chkA] at h
  | .cons m ms, X, W, [], g, h => by simp [chkA] at h
  | .cons m ms, X, W, e :: es, g, h => by
    simp only [chkA, Bool.and_eq_true] at h
    exact s_cons h.1.1 (sndE m X W e g h.1.2).pe (sndA ms X W es g h.2)
theorem sndO : ∀ (m : OEx) (X : Cx) (W : WX) (e : Option Expr), Good X G C W ck k → chkO ck X.env.scope m e = true → PO X e (TMO G C W m)
  | .none, X, W, none, g, h => s_onone
  | .none, X, W, some _, g, h => by simp [chkO] at h
  | .some m, X, W, none, g, h => by simp [chkO] at h
  | .some m, X, W, some e, g, h => by
    simp only [chkO] at h
    exact s_osome (sndE m X W e g h).pe
theorem sndC : ∀ (m : OEx) (X : Cx) (W : WX) (e : Option Expr), Good X G C W ck k → chkC ck X.env.scope m e = true → PTs X e.toList (TMC G C W m)
  | .none, X, W, none, g, h => s_cnone
  | .none, X, W, some _, g, h => by simp [chkC] at h
  | .some m, X, W, none, g, h => by simp [chkC] at h
  | .some m, X, W, some e, g, h => by
    simp only [chkC, Bool.and_eq_true] at h
    exact s_csome ((sndE m X W e g h.2).pt h.1)
theorem sndI : ∀ (m : It) (X : Cx) (W : WX) (e t : Expr), Good X G C W ck k → chkI ck X.env.scope m e = true → (pairI m = false ∨ ∃ elts kk tp, t = .Tuple elts kk tp) → PI X t e (TMI G C W m)
  | .over a, X, W, e, t, g, h, _ => by
    simp only [chkI] at h
    exact s_over g (sndE a X W e g h).pe
  | .range a, X, W, e, t, g, h, _ => by
    simp only [chkI] at h
    split at h
    · simp only [Bool.and_eq_true, decide_eq_true_eq] at h
      obtain ⟨⟨⟨rfl, h2⟩, h3⟩, h4⟩ := h
      exact s_range g h2 h3 (sndE a X W _ g h4).pe
    · cases h
  | .zip a b, X, W, e, t, g, h, ht => by
    simp only [chkI] at h
    split at h
    · simp only [Bool.and_eq_true, decide_eq_true_eq] at h
      obtain ⟨⟨⟨⟨⟨rfl, h2⟩, h3⟩, h4⟩, h5⟩, h6⟩ := h
      rcases ht with ht | ⟨elts, kk, tp, rfl⟩
      · cases ht
      · exact s_zip g h2 h3 h4 (sndE a X W _ g h5).pe (sndE b X W _ g h6).pe
    · cases h
  | .enum a, X, W, e, t, g, h, ht => by
    simp only [chkI] at h
    split at h
    · simp only [Bool.and_eq_true, decide_eq_true_eq] at h
      obtain ⟨⟨⟨rfl, h2⟩, h3⟩, h4⟩ := h
      rcases ht with ht | ⟨elts, kk, tp, rfl⟩
      · cases ht
      · exact s_enum g h2 h3 (sndE a X W _ g h4).pe
    · cases h
end
end
end Sw
end

section
/-! SwStmt: statements. -/
namespace Sw
open PySem L2
def SPost (G : Gx) (μ : Mu) (st : Store) (H : Hp) (W : WX) (r : SRes) (D : Ends) : Prop := match r with
  | .next ρ st' => ∀ μ' H' σ', Step μ st H μ' st' H' → StOk G μ' st' H' → EnvOk G μ' H' ρ σ' → D.nx σ' H'
  | .ret v st' => ∀ μ' H' x, Step μ st H μ' st' H' → StOk G μ' st' H' → Rv G μ' H' v x → D.rt x H'
  | .exc c st' => ∀ μ' H' σ', Step μ st H μ' st' H' → StOk G μ' st' H' → W (.ref (G.ex c)) none σ' H'
  | .bad => False
def TMS (G : Gx) (C : Orc) (W : WX) (m : St) : TS := fun D σ H => ∃ μ ρ st, StOk G μ st H ∧ EnvOk G μ H ρ σ ∧ SPost G μ st H W (exec C m ρ st) D
def TMSs (G : Gx) (C : Orc) (W : WX) (m : Sts) : TS := fun D σ H => ∃ μ ρ st, StOk G μ st H ∧ EnvOk G μ H ρ σ ∧ SPost G μ st H W (execs C m ρ st) D
/-- a list that becomes a cell -/
def TMB (G : Gx) (C : Orc) (W : WX) (m : Ex) : TE := fun σ H Q => ∃ μ ρ st, StOk G μ st H ∧ EnvOk G μ H ρ σ ∧ RPost G μ st H σ W (ev C m ρ st) fun v μ' st' H' => ∃ xs, v = .lst xs ∧
  ∀ μ2 H2 x, Step μ' st' H' μ2 (st' ++ [.list xs]) H2 → StOk G μ2 (st' ++ [.list xs]) H2 → Rv G μ2 H2 (.box st'.length) x → Q x H2
section
variable {G : Gx} {C : Orc} {W : WX} {μ μ1 : Mu} {st st1 : Store} {H H1 : Hp} {σ : LSt} {ρ : Env} {D : Ends} {α : Type}
theorem SPost.later {r : SRes} (h : SPost G μ st H W r D) (t : Step μ st H μ1 st1 H1) : SPost G μ1 st1 H1 W r D := by
  cases r with
  | next ρ st' => exact fun μ' H' σ' s S => h μ' H' σ' (t.trans s) S
  | ret v st' => exact fun μ' H' x s S => h μ' H' x (t.trans s) S
  | exc c st' => exact fun μ' H' σ' s S => h μ' H' σ' (t.trans s) S
  | bad => exact h
theorem SPost.sbind {r : Res α} {f : α → Store → SRes} (h : SPost G μ st H W (r.sbind f) D) : RPost G μ st H σ W r fun a μ1 st1 H1 => SPost G μ1 st1 H1 W (f a st1) D := by
  cases r with
  | ok a st' => exact fun μ' H' s S => SPost.later h s
  | exc c st' => exact fun μ' H' s S => h μ' H' σ s S
  | bad => exact h
theorem SPost.bind {r : SRes} {f : Env → Store → SRes} {N B K : LSt → Hp → Prop} (h : SPost G μ st H W (r.bind f) D)
    (hN : ∀ ρ' st' μ' H' σ', r = .next ρ' st' → Step μ st H μ' st' H' → StOk G μ' st' H' → EnvOk G μ' H' ρ' σ' → SPost G μ' st' H' W (f ρ' st') D → N σ' H') : SPost G μ st H W r { nx := N, rt := D.rt, bk := B, ct := K } := by
  cases r with
  | next ρ st' => exact fun μ' H' σ' s S E => hN ρ st' μ' H' σ' rfl s S E (SPost.later h s)
  | ret v st' => exact h
  | exc c st' => exact h
  | bad => exact h
theorem ts_in {m : Ex} {f : Val → Store → SRes} {Q : VK} (S : StOk G μ st H) (E : EnvOk G μ H ρ σ) (h : SPost G μ st H W ((ev C m ρ st).sbind f) D)
    (q : ∀ v μ1 st1 H1, Step μ st H μ1 st1 H1 → StOk G μ1 st1 H1 → EnvOk G μ1 H1 ρ σ → SPost G μ1 st1 H1 W (f v st1) D → ∀ x, Rv G μ1 H1 v x → Q x H1) : TM G C W m σ H Q :=
  ⟨μ, ρ, st, S, E, h.sbind.mono fun v μ1 st1 H1 t S1 r x hx => q v μ1 st1 H1 t S1 (E.step S t) r x hx⟩
theorem tst_in {m : Ex} {f : Val → Store → SRes} {Q : Bool → Hp → Prop} (S : StOk G μ st H) (E : EnvOk G μ H ρ σ) (h : SPost G μ st H W ((ev C m ρ st).sbind f) D)
    (q : ∀ v μ1 st1 H1, Step μ st H μ1 st1 H1 → StOk G μ1 st1 H1 → EnvOk G μ1 H1 ρ σ → SPost G μ1 st1 H1 W (f v st1) D → ∃ b, v = .bl b ∧ Q b H1) : TMT G C W m σ H Q :=
  ⟨μ, ρ, st, S, E, h.sbind.mono fun v μ1 st1 H1 t S1 r => q v μ1 st1 H1 t S1 (E.step S t) r⟩
theorem tsa_in {m : Exs} {f : List Val → Store → SRes} {Q : List V → Hp → Prop} (S : StOk G μ st H) (E : EnvOk G μ H ρ σ) (h : SPost G μ st H W ((evs C m ρ st).sbind f) D)
    (q : ∀ v μ1 st1 H1, Step μ st H μ1 st1 H1 → StOk G μ1 st1 H1 → EnvOk G μ1 H1 ρ σ → SPost G μ1 st1 H1 W (f v st1) D → ∀ x, Rvs G μ1 H1 v x → Q x H1) : TMA G C W m σ H Q :=
  ⟨μ, ρ, st, S, E, h.sbind.mono fun v μ1 st1 H1 t S1 r x hx => q v μ1 st1 H1 t S1 (E.step S t) r x hx⟩
theorem tsi_in {m : It} {f : Items → Store → SRes} {Q : L2.It → Hp → Prop} (S : StOk G μ st H) (E : EnvOk G μ H ρ σ) (h : SPost G μ st H W ((evi C m ρ st).sbind f) D)
    (q : ∀ v μ1 st1 H1, Step μ st H μ1 st1 H1 → StOk G μ1 st1 H1 → EnvOk G μ1 H1 ρ σ → SPost G μ1 st1 H1 W (f v st1) D → ∀ J, Yields G (pairI m) J v μ1 st1 H1 → Q J H1) : TMI G C W m σ H Q :=
  ⟨μ, ρ, st, S, E, h.sbind.mono fun v μ1 st1 H1 t S1 r J hJ => q v μ1 st1 H1 t S1 (E.step S t) r J hJ⟩
theorem tsb_in {m : Ex} {f : Val → Store → SRes} {Q : VK} (S : StOk G μ st H) (E : EnvOk G μ H ρ σ) (h : SPost G μ st H W ((ev C m ρ st).sbind f) D)
    (q : ∀ v μ1 st1 H1, Step μ st H μ1 st1 H1 → StOk G μ1 st1 H1 → EnvOk G μ1 H1 ρ σ → SPost G μ1 st1 H1 W (f v st1) D → ∃ xs, v = .lst xs ∧ ∀ μ2 H2 x, Step μ1 st1 H1 μ2 (st1 ++ [.list xs]) H2 → StOk G μ2 (st1 ++ [.list xs]) H2 → Rv G μ2 H2 (.box st1.length) x → Q x H2) : TMB G C W m σ H Q :=
  ⟨μ, ρ, st, S, E, h.sbind.mono fun v μ1 st1 H1 t S1 r => q v μ1 st1 H1 t S1 (E.step S t) r⟩
end
/-- for statements -/
structure GoodS (X : Cx) (G : Gx) (C : Orc) (W : WX) (ck : Ck) (k : Nat) : Prop extends Good X G C W ck k where
  po : PassesOwn (model X.prog X.w) X.A X.env X.xe
  kd : X.env.scope.kind = .function
  fn : ∀ x, X.fn x = true
  ex : ∀ c, c < 9 → ck.xs c = true → ∃ B newId initId bmB, ExcBaseFacts B newId initId bmB ∧ PySem.W.excIn X.K (G.ex c) bmB newId = true ∧ X.mg (excNm c) = some (.ref (G.ex c)) ∧ PySem.W.keepIn X.K (.ref (G.ex c)) = true ∧ Raises X (.ref (G.ex c))
section
variable {X : Cx} {G : Gx} {C : Orc} {W : WX} {ck : Ck} {k : Nat} {a b c e : Expr} {es : List Expr} {ma mb mc me : Ex} {ms : Exs} {pos p q : Pos}
theorem GoodS.N (g : GoodS X G C W ck k) : X.N.Nodup := by rw [g.hN]; exact g.nd
theorem s_skip : PSs X [] (TMSs G C W .nil) := by
  refine pss_nil.mono fun D σ H ⟨μ, ρ, st, S, E, h⟩ => ?_
  simp only [execs] at h
  exact h μ H σ Step.refl S E
theorem s_seq {s : Stmt} {ss : List Stmt} {m : St} {ms : Sts} (h1 : PS X s (TMS G C W m)) (h2 : PSs X ss (TMSs G C W ms)) : PSs X (s :: ss) (TMSs G C W (.cons m ms)) := by
  refine (pss_cons h1 h2).mono fun D σ H ⟨μ, ρ, st, S, E, h⟩ => ?_
  simp only [execs] at h
  exact ⟨μ, ρ, st, S, E, h.bind fun ρ' st' μ' H' σ' _ t S' E' r => ⟨μ', ρ', st', S', E', r⟩⟩
theorem s_expr (hs : swapsWith e none pos.line X.env = pure false) (he : PE X e (TM G C W me)) : PS X (.Expr e pos) (TMS G C W (.expr me)) := by
  refine (ps_expr he hs).mono fun D σ H ⟨μ, ρ, st, S, E, h⟩ => ?_
  simp only [exec] at h
  exact ts_in S E h fun v μ1 st1 H1 t1 S1 E1 h1 x hx => h1 μ1 H1 σ Step.refl S1 E1
theorem s_ret (he : PE X e (TM G C W me)) : PS X (.Return (some e) pos) (TMS G C W (.ret me)) := by
  refine (ps_ret he).mono fun D σ H ⟨μ, ρ, st, S, E, h⟩ => ?_
  simp only [exec] at h
  exact ts_in S E h fun v μ1 st1 H1 t1 S1 E1 h1 x hx => h1 μ1 H1 x Step.refl S1 hx
theorem s_retN : PS X (.Return none pos) (TMS G C W (.ret .cn)) := by
  refine ps_retN.mono fun D σ H ⟨μ, ρ, st, S, E, h⟩ => ?_
  simp only [exec, ev, Res.sbind_ok] at h
  exact h μ H _ Step.refl S rfl
theorem s_if {ts fs : List Stmt} {mt mf : Sts} (hc : PT X c (TMT G C W mc)) (ha : PSs X ts (TMSs G C W mt)) (hb : PSs X fs (TMSs G C W mf)) : PS X (.If c ts fs pos) (TMS G C W (.ife mc mt mf)) := by
  refine (ps_if hc ha hb).mono fun D σ H ⟨μ, ρ, st, S, E, h⟩ => ?_
  simp only [exec] at h
  refine tst_in S E h fun v μ1 st1 H1 t1 S1 E1 h1 => ?_
  split at h1
  · exact ⟨true, rfl, μ1, ρ, st1, S1, E1, h1⟩
  · exact ⟨false, rfl, μ1, ρ, st1, S1, E1, h1⟩
  · exact h1.elim
theorem set_rd {i : Nat} {D : Ends} {σ : LSt} {H : Hp} (h : TMS G C W (.set i me) D σ H) : tAsg (TM G C W me) (gName i) D σ H := by
  obtain ⟨μ, ρ, st, S, E, h⟩ := h
  simp only [exec] at h
  exact ts_in S E h fun v μ1 st1 H1 t1 S1 E1 h1 x hx => h1 μ1 H1 _ Step.refl S1 (E1.set hx i)
theorem s_set (g : GoodS X G C W ck k) {i : Nat} {x : Str} (hi : ck.N[i]? = some x) (hx : locB X.env.scope x = true) (hs : swapsWith e (some (.Name x p)) pos.line X.env = pure false) (he : PE X e (TM G C W me)) : PS X (.Assign [.Name x p] e pos) (TMS G C W (.set i me)) :=
  (ps_set g.N (by rw [g.hN]; exact hi) (loc_of hx) he hs (.inl (g.fn x))).mono fun D σ H h => set_rd h
theorem boxset_rd {i : Nat} {D : Ends} {σ : LSt} {H : Hp} (h : TMS G C W (.boxset i me) D σ H) : tAsg (TMB G C W me) (gName i) D σ H := by
  obtain ⟨μ, ρ, st, S, E, h⟩ := h
  simp only [exec] at h
  refine tsb_in S E h fun v μ1 st1 H1 t1 S1 E1 h1 => ?_
  split at h1
  · rename_i xs
    exact ⟨xs, rfl, fun μ2 H2 x t2 S2 hx => h1 μ2 H2 _ t2 S2 ((E1.step S1 t2).set hx i)⟩
  · exact h1.elim
theorem s_boxset (g : GoodS X G C W ck k) {i : Nat} {x : Str} (hi : ck.N[i]? = some x) (hx : locB X.env.scope x = true) (hs : swapsWith e (some (.Name x p)) pos.line X.env = pure false) (he : PE X e (TMB G C W me)) : PS X (.Assign [.Name x p] e pos) (TMS G C W (.boxset i me)) :=
  (ps_set g.N (by rw [g.hN]; exact hi) (loc_of hx) he hs (.inl (g.fn x))).mono fun D σ H h => boxset_rd h
/-- a fresh list becomes a cell -/
theorem new_box {μ : Mu} {st : Store} {H : Hp} {xs : List Val} {ys : List V} {Q : VK} (S : StOk G μ st H) (h : RvPs G μ H xs ys) (q : ∀ μ2 H2 x, Step μ st H μ2 (st ++ [.list xs]) H2 → StOk G μ2 (st ++ [.list xs]) H2 → Rv G μ2 H2 (.box st.length) x → Q x H2) : ∀ p, H p = none → Q (.ref p) (upd H p (.lst ys)) :=
  fun p n => q (μ ++ [(p, p)]) _ _ (Step.box S n) (S.box n h) ⟨(p, p), by rw [← S.len]; simp, rfl⟩
theorem b_lst (hs : PA X es (TMA G C W ms)) : PE X (.List es pos) (TMB G C W (.lst ms)) := by
  refine (pe_lst hs).mono fun σ H Q ⟨μ, ρ, st, S, E, h⟩ => ?_
  simp only [ev] at h
  refine tma_in S E h fun vs μ1 st1 H1 t1 S1 E1 h1 xs hxs => ?_
  split at h1
  · rename_i hl
    simp only [Bool.and_eq_true, decide_eq_true_eq] at hl
    have := hxs.length
    have := lim_le
    obtain ⟨zs, ez, q⟩ := h1 μ1 H1 Step.refl S1
    cases ez
    exact ⟨by omega, new_box S1 (hxs.p hl.1) q⟩
  · exact h1.elim
theorem b_list (g : GoodS X G C W ck k) (hg : glB X.env.scope "list" = true) (hp : plainE e = true) (ha : PE X e (TM G C W ma)) : PE X (.Call (.Name "list" p) [e] [] pos) (TMB G C W (.b1 .list ma)) := by
  have hs := plain_star (es := []) (env := X.env) hp
  refine (pe_callTy call_list_of (gl_of hg) (g.fa.bt _ (by decide)) (by rfl) (pa_cons ha pa_nil hs) (by decide) (by decide) hs rfl).mono fun σ H Q ⟨μ, ρ, st, S, E, h⟩ => ?_
  simp only [ev] at h
  refine tm_in S E h fun v μ1 st1 H1 t1 S1 E1 h1 x hx => ?_
  obtain ⟨z, ez, q0⟩ := lift_ok S1 h1
  obtain ⟨zs, rfl, q⟩ := q0 μ1 H1 Step.refl S1
  have hd := S1.deref hx
  generalize deref st1 v = w at hd ez
  cases w <;> simp only [op1, reduceCtorEq, Option.some.injEq, Val.lst.injEq] at ez
  · subst ez
    have hd' : RvP G μ1 H1 (.tup _) x := hd
    simp only [RvP] at hd'
    obtain ⟨a, ys, rfl, h2, h3⟩ := hd'
    rw [← g.K] at h2
    exact ⟨a, ys, rfl, .inr h2, new_box S1 h3 q⟩
  · subst ez
    obtain ⟨a, ys, rfl, h2, h3⟩ := hd
    exact ⟨a, ys, rfl, .inl (SqL.of h2), new_box S1 h3 q⟩
theorem s_raise (g : GoodS X G C W ck k) {n : Nat} {m : Str} {j : _} (hn : n < 9) (hx : ck.xs n = true) (hg : glB X.env.scope (excNm n) = true) : PS X (.Raise (some (.Call (.Name (excNm n) p) [.Constant (.str m) j q] [] pos)) none pos') (TMS G C W (.raise n)) := by
  obtain ⟨B, newId, initId, bmB, F, h1, h2, h3, h4⟩ := g.ex n hn hx
  have hdb : (excNm n == ("__debug__" : Str)) = false := by
    have : ∀ n : Fin 9, (excNm n == ("__debug__" : Str)) = false := by decide
    exact this ⟨n, hn⟩
  refine (L2N.ps_raise g.calm g.tk (L2N.pmk_own F h1 h2 h3 h4 (gl_of hg) hdb)).mono fun D σ H ⟨μ, ρ, st, S, E, h⟩ => ?_
  simp only [exec] at h
  exact h μ H σ Step.refl S
def ipA (o : Bop) : TIp := fun x y H Q => ∃ i j z, x = .int i ∧ y = .int j ∧ augV o i j = some z ∧ Q (.int z) H
theorem ip_aug (o : Bop) (ho : o = .add ∨ o = .sub) : PIp X o.op (ipA o) := by
  rcases ho with rfl | rfl
  · intro pins s σ H x y v u Q I rx ry ⟨i, j, z, e1, e2, e3, q⟩
    cases e3
    exact ip_add pins s σ H x y v u Q I rx ry ⟨i, j, e1, e2, q⟩
  · intro pins s σ H x y v u Q I rx ry ⟨i, j, z, e1, e2, e3, q⟩
    cases e3
    exact ip_sub pins s σ H x y v u Q I rx ry ⟨i, j, e1, e2, q⟩
theorem s_aug (g : GoodS X G C W ck k) {i : Nat} {x : Str} {o : Bop} (ho : o = .add ∨ o = .sub) (hi : ck.N[i]? = some x) (hx : locB X.env.scope x = true) (he : PE X e (TM G C W me)) : PS X (.AugAssign (.Name x p) o.op e pos) (TMS G C W (.aug i o me)) := by
  refine (ps_aug g.N (by rw [g.hN]; exact hi) (loc_of hx) he (ip_aug o ho) (.inl (g.fn x))).mono fun D σ H ⟨μ, ρ, st, S, E, h⟩ => ?_
  simp only [exec] at h
  split at h
  · rename_i v ev
    obtain ⟨y, ey, hy⟩ := E.get i v ev
    refine ⟨y, ey, ts_in S E h fun w μ1 st1 H1 t1 S1 E1 h1 z hz => ?_⟩
    split at h1
    · rename_i a b
      split at h1
      · rename_i r er
        cases (show y = .int a from hy)
        cases (show z = .int b from hz)
        exact ⟨a, b, r, rfl, rfl, er, h1 μ1 H1 _ Step.refl S1 (E1.set (v := .int r) (x := .int r) rfl i)⟩
      · exact h1.elim
    · exact h1.elim
  · exact h.elim
theorem s_setidx (g : GoodS X G C W ck k) {o i : Expr} {mo mi : Ex} (hpi : plainE i = true) (hs : swapsWithSole [.Subscript o i p] e pos.line X.env = pure false) (hw : swappedStores [.Subscript o i p] e X.env = pure none) (he : PE X e (TM G C W me)) (ho : PE X o (TM G C W mo)) (hi : PE X i (TM G C W mi)) :
    PS X (.Assign [.Subscript o i p] e pos) (TMS G C W (.setidx mo mi me)) := by
  refine (ps_asg he (pg_sub ho hi set_list (fun v => by cases i <;> first | rfl | cases hpi)) hs hw).mono fun D σ H ⟨μ, ρ, st, S, E, h⟩ => ?_
  simp only [exec] at h
  refine ts_in S E h fun v μ1 st1 H1 t1 S1 E1 h1 x hx => ts_in S1 E1 h1 fun u μ2 st2 H2 t2 S2 E2 h2 y hy => ts_in S2 E2 h2 fun w μ3 st3 H3 t3 S3 E3 h3 z hz => ?_
  split at h3
  · rename_i n kk
    split at h3
    · rename_i xs hst
      split at h3
      · rename_i j hj
        split at h3
        · rename_i hp
          obtain ⟨pr, hm, e1⟩ := hy.step S2 t3
          cases e1
          cases (show z = .int kk from hz)
          obtain ⟨_, ys, g1, g2⟩ := S3.cell n pr _ hm hst
          have hv := ((hx.step S1 t2).step S2 t3).p hp
          refine ⟨pr.1, ys, kk, j, rfl, rfl, g1, ?_, ?_⟩
          · rw [← g2.length, ← ixOf_eq]; exact hj
          · exact h3 μ3 _ σ (Step.write (ys := ys) S3 hm hst) (S3.write hm hst (g2.set j hv)) (E3.step S3 (Step.write (xs' := xs.set j v) (ys := ys) (ys' := ys.set j x) S3 hm hst))
        · exact h3.elim
      · exact h3.elim
    · exact h3.elim
  · exact h3.elim
theorem list_ty {μ : Mu} {st : Store} {H : Hp} {v : Val} {x : V} {xs : List Val} (K : PySem.W.Frag) (S : StOk G μ st H) (h : Rv G μ H v x) (e : deref st v = .lst xs) : tyV K "list" x H := by
  have hd := S.deref h
  rw [e] at hd
  obtain ⟨l, zs, rfl, h2, h3⟩ := hd
  exact .inl ⟨rfl, zs, SqL.of h2⟩
theorem s_app (g : GoodS X G C W ck k) {o : Expr} {mo : Ex} {ap cp : Pos} (hr : recvB o = true) (hl : (ap.endLine == cp.line) = true) (hp : plainE e = true) (ho : PE X o (TM G C W mo)) (he : PE X e (TM G C W me)) :
    PS X (.Expr (.Call (.Attribute o "append" ap) [e] [] cp) pos) (TMS G C W (.app mo me)) := by
  have hs := plain_star (es := []) (env := X.env) hp
  have hfew : ((backTo cp (starEach [e] X.env)).all (fun x => !x.1) && (backToKw cp (keywordEach [] X.env)).all (fun x => x.1.isSome) && decide ([e].length + ([] : List Keyword).length + (if ([] : List Keyword).isEmpty then 0 else 1) < 30)) = true := by
    rw [hs]; rfl
  refine (ps_expr (pe_bm PySem.F.plainAttrs_list PySem.F.slot_list_append PySem.F.type_list_append mt_append ho (pa_cons he pa_nil hs) (recv_ok hr) hfew hl hs rfl)).mono fun D σ H ⟨μ, ρ, st, S, E, h⟩ => ?_
  simp only [exec] at h
  refine ts_in S E h fun v μ1 st1 H1 t1 S1 E1 h1 x hx => ?_
  split at h1
  · rename_i xs0 hd
    refine ⟨list_ty X.K S1 hx hd, ?_⟩
    refine ts_in S1 E1 h1 fun w μ2 st2 H2 t2 S2 E2 h2 y hy => ?_
    split at h2
    · rename_i n
      split at h2
      · rename_i xs hst
        split at h2
        · rename_i hc
          simp only [Bool.and_eq_true, decide_eq_true_eq] at hc
          obtain ⟨pr, hm, e1⟩ := hx.step S1 t2
          cases e1
          obtain ⟨_, ys, g1, g2⟩ := S2.cell n pr _ hm hst
          have := lim_le
          have := g2.length
          exact ⟨pr.1, ys, y, rfl, rfl, g1, by omega, h2 μ2 _ σ (Step.write (ys := ys) S2 hm hst) (S2.write hm hst (g2.append (RvPs.one (hy.p hc.1)))) (E2.step S2 (Step.write (xs' := xs ++ [w]) (ys := ys) (ys' := ys ++ [y]) S2 hm hst))⟩
        · exact h2.elim
      · exact h2.elim
    · exact h2.elim
  · exact h1.elim
theorem s_ext (g : GoodS X G C W ck k) {o : Expr} {mo : Ex} {ap cp : Pos} (hr : recvB o = true) (hl : (ap.endLine == cp.line) = true) (hp : plainE e = true) (ho : PE X o (TM G C W mo)) (he : PE X e (TM G C W me)) :
    PS X (.Expr (.Call (.Attribute o "extend" ap) [e] [] cp) pos) (TMS G C W (.ext mo me)) := by
  have hs := plain_star (es := []) (env := X.env) hp
  have hfew : ((backTo cp (starEach [e] X.env)).all (fun x => !x.1) && (backToKw cp (keywordEach [] X.env)).all (fun x => x.1.isSome) && decide ([e].length + ([] : List Keyword).length + (if ([] : List Keyword).isEmpty then 0 else 1) < 30)) = true := by
    rw [hs]; rfl
  refine (ps_expr (pe_bm PySem.F.plainAttrs_list PySem.F.slot_list_extend PySem.F.type_list_extend mt_extend ho (pa_cons he pa_nil hs) (recv_ok hr) hfew hl hs rfl)).mono fun D σ H ⟨μ, ρ, st, S, E, h⟩ => ?_
  simp only [exec] at h
  refine ts_in S E h fun v μ1 st1 H1 t1 S1 E1 h1 x hx => ?_
  split at h1
  · rename_i xs0 hd
    refine ⟨list_ty X.K S1 hx hd, ?_⟩
    refine ts_in S1 E1 h1 fun w μ2 st2 H2 t2 S2 E2 h2 y hy => ?_
    split at h2
    · rename_i n zs
      split at h2
      · rename_i xs hst
        split at h2
        · rename_i hc
          obtain ⟨pr, hm, e1⟩ := hx.step S1 t2
          cases e1
          obtain ⟨_, ys, g1, g2⟩ := S2.cell n pr _ hm hst
          have hy' : RvP G μ2 H2 (.lst zs) y := hy
          simp only [RvP] at hy'
          obtain ⟨b, us, rfl, k1, k2, k3⟩ := hy'
          have := lim_le
          have := g2.length
          have := k3.length
          exact ⟨pr.1, b, ys, us, rfl, rfl, g1, k1, by omega, h2 μ2 _ σ (Step.write (ys := ys) S2 hm hst) (S2.write hm hst (g2.append k3)) (E2.step S2 (Step.write (xs' := xs ++ zs) (ys := ys) (ys' := ys ++ us) S2 hm hst))⟩
        · exact h2.elim
      · exact h2.elim
    · exact h2.elim
  · exact h1.elim
/-! ### loops -/
theorem s_while (g : GoodS X G C W ck k) {body : List Stmt} {mb : Sts} (hc : PT X c (TMT G C W mc)) (hb : PSs X body (TMSs G C W mb)) : PS X (.While c body [] pos) (TMS G C W (.while_ mc mb)) := by
  refine (ps_while g.po hc hb).mono fun D σ H ⟨μ, ρ, st, S, E, h⟩ => ?_
  simp only [exec] at h
  refine ⟨fun m σ H => ∃ μ ρ st, StOk G μ st H ∧ EnvOk G μ H ρ σ ∧ SPost G μ st H W (whileLoop (ev C mc) (execs C mb) m ρ st) D, ⟨100, μ, ρ, st, S, E, h⟩, ?_⟩
  rintro m σ H ⟨μ, ρ, st, S, E, h⟩
  cases m with
  | zero => exact h.elim
  | succ m =>
    simp only [whileLoop] at h
    refine tst_in S E h fun v μ1 st1 H1 t1 S1 E1 h1 => ?_
    split at h1
    · refine ⟨true, rfl, ?_⟩
      rw [if_pos rfl]
      exact ⟨_, fun σ' H' w => ⟨m, Nat.lt_succ_self m, w⟩, μ1, ρ, st1, S1, E1, h1.bind fun ρ' st' μ' H' σ' _ t S' E' r => ⟨μ', ρ', st', S', E', r⟩⟩
    · refine ⟨false, rfl, ?_⟩
      rw [if_neg (by simp)]
      exact h1 μ1 H1 σ Step.refl S1 E1
    · exact h1.elim
theorem s_for (g : GoodS X G C W ck k) {t i : Expr} {tg : List Nat} {mi : It} {body : List Stmt} {mb : Sts} (hlen : tg.length = if pairI mi then 2 else 1) (hi : PI X t i (TMI G C W mi)) (ht : PG X t (gT X.K tg)) (hb : PSs X body (TMSs G C W mb))
    (hs : ∀ x, foldedSetIterable i X.env x = pure x) : PS X (.For t i body [] pos) (TMS G C W (.for_ tg mi mb)) := by
  refine (ps_for g.po g.calm hi ht hb hs).mono fun D σ H ⟨μ, ρ, st, S, E, h⟩ => ?_
  simp only [exec] at h
  rw [g.K]
  refine tsi_in S E h fun is μ1 st1 H1 t1 S1 E1 h1 J hJ => ?_
  refine ⟨fun i m σ Hh => m + i = is.1.length ∧ ∃ μ' ρ' st', StOk G μ' st' Hh ∧ Step μ1 st1 H1 μ' st' Hh ∧ EnvOk G μ' Hh ρ' σ ∧ SPost G μ' st' Hh W (forLoop is.2 (fun vs ρ1 s => execs C mb (setAll ρ1 tg vs) s) (is.1.drop i) ρ' st') D,
    ⟨is.1.length, rfl, μ1, ρ, st1, S1, Step.refl, E1, by simpa using h1⟩, ?_⟩
  rintro i m σ Hh ⟨hm, μ', ρ', st', S', t', E', h'⟩
  cases hd : is.1.drop i with
  | nil =>
    have hi : is.1.length = i := by
      have := List.drop_eq_nil_iff.mp hd
      omega
    rw [hd] at h'
    simp only [forLoop] at h'
    split at h'
    · rename_i hb
      exact .inl ⟨(hJ _ _ _ t' S' hb i).2 hi, h' μ' Hh σ Step.refl S' E'⟩
    · exact h'.elim
  | cons vs rest =>
    have hvs : is.1[i]? = some vs := by
      have := List.getElem?_drop (xs := is.1) (i := i) (j := 0)
      rw [hd] at this
      simpa using this.symm
    have hrest : is.1.drop (i + 1) = rest := by
      have := List.drop_drop (l := is.1) (i := 1) (j := i)
      rw [hd] at this
      simpa using this.symm
    have hi : i < is.1.length := (List.getElem?_eq_some_iff.mp hvs).1
    rw [hd] at h'
    simp only [forLoop] at h'
    split at h'
    rotate_left 1
    · exact h'.elim
    rename_i hb
    have hy := (hJ _ _ _ t' S' hb i).1 vs hvs
    refine .inr ⟨hy.1, fun σ Hn => (m - 1) + (i + 1) = is.1.length ∧ ∃ μ' ρ' st', StOk G μ' st' Hn ∧ Step μ1 st1 H1 μ' st' Hn ∧ EnvOk G μ' Hn ρ' σ ∧ SPost G μ' st' Hn W (forLoop is.2 (fun vs ρ1 s => execs C mb (setAll ρ1 tg vs) s) (is.1.drop (i + 1)) ρ' st') D,
      fun σ' H' w => ⟨m - 1, by omega, w⟩, fun x H2 hx => ?_⟩
    refine put S' E' hlen (hy.2 x H2 hx) fun σ2 t2 S2 E2 _ => ?_
    refine ⟨μ', _, st', S2, E2, (h'.later t2).bind fun ρ3 st3 μ3 H3 σ3 _ t3 S3 E3 r => ?_⟩
    exact ⟨by omega, μ3, ρ3, st3, S3, (t'.trans t2).trans t3, E3, by rw [hrest]; exact r⟩
end
end Sw
end

section
/-! SwTry0: a def that is handed the exception that is being handled. -/
namespace Sw
open PySem PySem.Spec L2 L2H PyProof.Rows
/-- a def's promise that speaks of the handled exception p -/
structure FnP (P : Program) (w : World) (K : PySem.W.Frag) (mg : Str → Option Value) (base : Heap) (f : Addr) (fd : FuncData) (ps : List Str) (sp : Addr × Obj → Sp) : Prop where
  len : ∀ p vs H Q E, sp p vs H Q E → vs.length = ps.length
  go : ∀ (p : Addr × Obj) (A : Around) (outer : List PySem.Env) (s : Shared) (H : Hp) (args : Args) (us : List Value) (vs : List V) (Q : VK) (E : XK), Hot1 A p → PinOk outer H s p → RoomH 0 A →
    Env0 P w K mg base A outer s H → BindsTo s fd args (ps.zip us) → Vals vs us → sp p vs H Q E → codeAny (model P w) A (.call (.ref f) args) (CR (L2N.CX P w) outer P w H s Q E) s
section
variable {P : Program} {w : World} {K : PySem.W.Frag} {mg : Str → Option Value} {base : Heap} {k : Nat} {f : Addr} {name qual : Str} {params : Arguments} {body : List Stmt} {scope : Scope} {dV kV doc pm cdv ct oc : Value} {an od : Option Addr} {osl : Array (Option Value)} {N ps : List Str} {sp : Addr × Obj → Sp}
theorem fnP_of (lk : K.lookup f = some ⟨oc, od, .func (PySem.W.fnOf name qual params body scope dV kV doc pm an cdv ct), osl⟩) (hcd : PySem.W.codeIn K cdv qual = true) (S : FnScope N ps scope) (len : ∀ p vs H Q E, sp p vs H Q E → vs.length = ps.length)
    (bd : ∀ (p : Addr × Obj) (A : Around) (outer : List PySem.Env) (s : Shared) (H : Hp) (vs : List V) (Q : VK) (E : XK), Hot1 A p → sp p vs H Q E →
      ∃ t, PSs (cxH (L2N.CX P w) P w K mg base N qual scope f cdv A outer s H E p) body t ∧ t { nx := fun _ H' => Q .non H', rt := Q } (L2.start N vs) H) :
    FnP P w K mg base f (PySem.W.fnOf name qual params body scope dV kV doc pm an cdv ct) ps sp := by
  refine ⟨len, ?_⟩
  intro p A outer s H args us vs Q E hot pin room e0 bt rv hp
  have inK : K.In s.heap := e0.mod.kin.keeps fun b o q => (e0.bs b o q).1
  have nl : s.heap.NoLimit := e0.mod.nolimit.keeps fun b o q => (e0.bs b o q).1
  refine codeAny_call_function room.depth (inK _ _ lk) rfl S.co S.gen rfl (PySem.W.codeRec_of inK hcd) (bt _ _ _ _ ?_)
  refine wpAny_newFunctionEnv_cells S.kind (fun y hy => ?_) ?_
  · rcases S.par y.1 (List.of_mem_zip hy).1 with z | z
    · exact Or.inl z
    · exact Or.inr ⟨z, PySem.W.cellsFrom_some _ _ _ (Or.inl z)⟩
  · rintro env rfl s1 x
    refine ⟨nl.keeps x.toInCall.keep, codeAny_func ?_⟩
    obtain ⟨t, h1, h2⟩ := bd p A outer s H vs Q E hot hp
    have J := inv_startH (CX := L2N.CX P w) (E := E) S pin e0 (len _ _ _ _ _ hp) rv x
    refine wpAny_mono (h1.run [] s1 _ H _ J h2) ?_ (fun _ _ z => z)
    intro fl s' hs
    cases fl with
    | next =>
      obtain ⟨_, H', J', q⟩ := hs
      exact ⟨.non, H', J'.os, J'.bare, J'.base, J'.hok, rfl, q⟩
    | ret u =>
      obtain ⟨v, _, H', J', r', q⟩ := hs
      exact ⟨v, H', J'.os, J'.bare, J'.base, J'.hok, r', q⟩
    | brk => exact hs.elim fun _ z => z.elim fun _ z => z.2.elim
    | cont => exact hs.elim fun _ z => z.elim fun _ z => z.2.elim
end
section
variable {X : Cx} {k : Nat} {f a : Addr} {oe : Obj} {fd : FuncData} {ps : List Str} {sp : Addr × Obj → Sp} {x : Str} {q pos : Pos} {e : Expr} {t : TA} {E : L2.St → XK} {p : Addr × Obj}
/-- such a def is called in the suite -/
theorem pe_callP (F : FnP X.prog X.w X.K X.mg X.base f fd ps sp) (hr : RoomH 0 X.A) (hot : Hot1 X.A p) (hp : p ∈ X.pn) (hg : Gl X x) (hm : X.mg x = some (.ref f)) (hk : PySem.W.keepIn X.K (.ref f) = true) (hb : Binds X.K fd ps []) (hx : ∀ σ, PassesAt (L2N.CX X.prog X.w) X σ (E σ))
    (ha : PA X [e] t) (hdb : (x == ("__debug__" : Str)) = false) (he : starEach [e] X.env = (false, eval e X.env) :: starEach [] X.env) : PE X (.Call (.Name x q) [e] [] pos) (tCallS (sp p) E t) := by
  refine ⟨?_⟩
  intro pins s σ H Q I h
  refine wpAny_Call_Name_kw (ld_glob I hg hm (PySem.W.callWith_K (h₀ := X.base) I.ok.mod.kin hk (thn (ha.run pos pins s σ H _ I h) ?_) he rfl) hdb)
  rintro us s1 ⟨vs, H1, I1, r, w1⟩
  refine ⟨I1.kIn, ?_⟩
  have hl : us.length = ps.length := by rw [← r.length]; exact F.len _ _ _ _ _ w1
  have b := hb s1 us I1.kIn (by simpa using hl)
  rw [List.append_nil] at b
  have hpin := I1.pin p (List.mem_append_left _ hp)
  have pin : PinOk X.stack H1 s1 p := ⟨hpin.1, hpin.2.1, fun hm => by
    rcases List.mem_cons.mp (I1.stkSub p.1 hm) with z | z
    · exact hpin.2.2.1 z
    · exact hpin.2.2.2.1 z, hpin.2.2.2.2⟩
  refine wpAny_call (codeAny_mono (F.go p X.A X.stack s1 H1 ⟨us, []⟩ us vs Q (E σ) hot pin hr I1.env0 b r w1) ?_)
  intro res s' hq
  cases res with
  | error er => exact hx σ pins H1 s1 er s' I1 hq
  | ok fl =>
    cases fl with
    | ret u => exact I1.after hq
    | next => exact hq.elim
    | brk => exact hq.elim
    | cont => exact hq.elim
/-- isinstance(e, C), e pinned -/
theorem cr_isP {D : Addr} (C : ExcC X.K D) (hz : Zc (.ref D) none oe) (hf : ∃ vs, oe.data = .fields vs) (hp : (a, oe) ∈ X.pn) : CallR X (.builtin "isinstance") (rIsE X.K D a) := by
  intro pins s σ H xs us Q I r h
  obtain ⟨c, cv, b, rfl, hcv, e1, q1⟩ := h
  obtain ⟨vs, hv⟩ := hf
  have hget := (I.pin (a, oe) (List.mem_append_left _ hp)).1
  have J : PySem.W.InstAt s.heap a oe D none := by
    obtain ⟨o1, o2, o3, o4⟩ := oe
    obtain ⟨z1, z2⟩ := hz
    dsimp only at z1 z2 hv
    subst z1 z2 hv
    exact ⟨hget, rfl, rfl, trivial⟩
  match us, r with
  | [u0, u1], .cons rx (.cons rt .nil) =>
    cases rx
    have ec := hcv _ rt
    subst ec
    refine PySem.W.kia_one (PySem.W.handS_kitx_exc C.hg C.hk C.hs C.hd C.ha C.hn C.ht C.hm) I.kIn J e1 (fun z => nomatch z) fun tk => ?_
    exact ⟨.bl b, H, I.kept (t' := tk) fun _ _ z => z, rfl, q1⟩
end
end Sw
end

section
/-! SwTry1: the def that tells which exception it was. -/
namespace Sw
open PySem PySem.Spec L2 L2H PyProof.Rows
/-! the look at the text -/
def isiB (cn : Str) : Expr → Bool
  | .Call (.Name f _) [.Name x _, .Name c _] [] _ => decide (f = "isinstance") && decide (x = "e") && decide (c = cn)
  | _ => false
def l3B (a b c : Str) : Expr → Bool
  | .List [i, j, k] _ => isiB a i && isiB b j && isiB c k
  | _ => false
def st1B : Stmt → Bool
  | .Assign [.Name o _] v _ => decide (o = "own") && l3B "InvalidFunction" "InvalidWave" "InvalidNumber" v
  | _ => false
def extB (a b c : Str) : Stmt → Bool
  | .Expr (.Call (.Attribute (.Name o _) m ap) [y] [] cp) _ => decide (o = "own") && decide (m = "extend") && (ap.endLine == cp.line) && l3B a b c y
  | _ => false
def cntB : Expr → Bool
  | .Compare (.Call (.Attribute (.Name o _) m ap) [.Constant (.bool b) _ _] [] cp) [.NotEq] [.Constant (.int i) _ _] _ => decide (o = "own") && decide (m = "count") && (ap.endLine == cp.line) && b && decide (i = 1)
  | _ => false
def testB : Expr → Bool
  | .BoolOp .Or [c, .UnaryOp .Not i _] _ => cntB c && isiB "ValueError" i
  | _ => false
def lastB : Stmt → Bool
  | .Return (some (.Tuple [.Constant (.str s) _ _, .Call (.Attribute (.Name o _) m ap) [.Constant (.bool b) _ _] [] cp] _ _)) _ => decide (s = "raised") && decide (o = "own") && decide (m = "index") && (ap.endLine == cp.line) && b
  | _ => false
def whichB : List Stmt → Bool
  | [s1, s2, s3, .If t _ [] _, s5] => st1B s1 && extB "InvalidMask" "InvalidTerms" "NotEven" s2 && extB "TooLarge" "NothingToUndo" "ParseError" s3 && testB t && lastB s5
  | _ => false
def whScB (sc : Scope) : Bool := locB sc "e" && locB sc "own" && glB sc "isinstance" && glB sc "ValueError" && (List.range 9).all fun c => glB sc (excNm c)
/-- what the fragment says of the exceptions' classes -/
structure Whi (K : PySem.W.Frag) (mg : Str → Option Value) (ex : Nat → Addr) : Prop where
  cls : ∀ c < 9, ExcC K (ex c)
  one : ∀ c < 9, ∀ d < 9, PySem.W.kitOne K (.ref (ex c)) (.ref (ex d)) = some (decide (c = d))
  ve : ∀ c < 9, PySem.W.kitOne K (.ref (ex c)) (.type "ValueError") = some true
  glo : ∀ c < 9, mg (excNm c) = some (.ref (ex c))
  isi : mg "isinstance" = none
  val : mg "ValueError" = none
section
variable {X : Cx} {ex : Nat → Addr} {a : Addr} {oe : Obj} {c : Nat}
def tIs (a : Addr) (b : Bool) : TE := fun σ H Q => σ[0]? = some (some (.ref a)) ∧ Q (.bl b) H
theorem pe_isi (Wh : Whi X.K X.mg ex) (hc : c < 9) (hz : Zc (.ref (ex c)) none oe) (hf : ∃ vs, oe.data = .fields vs) (hp : (a, oe) ∈ X.pn) (h0 : X.N[0]? = some ("e" : Str)) (hs : whScB X.env.scope = true) {d : Nat} (hd : d < 9) {e : Expr} (h : isiB (excNm d) e = true) : PE X e (tIs a (decide (c = d))) := by
  simp only [whScB, Bool.and_eq_true, List.all_eq_true, List.mem_range] at hs
  obtain ⟨⟨⟨⟨s1, s2⟩, s3⟩, s4⟩, s5⟩ := hs
  unfold isiB at h
  split at h
  · simp only [Bool.and_eq_true, decide_eq_true_eq] at h
    obtain ⟨⟨rfl, rfl⟩, rfl⟩ := h
    have l1 : ∀ ps : Pos, PE X (.Name "e" ps) (tVar 0) := fun _ => pe_var h0 (by rcases loc_of s1 with w | w; exact .inl w; exact .inr (.inl w))
    have l2 : ∀ ps : Pos, PE X (.Name (excNm d) ps) (tC (.ref (ex d))) := fun _ => pe_glob (gl_of (s5 d hd)) (Wh.glo d hd) rfl (by
      have : d = 0 ∨ d = 1 ∨ d = 2 ∨ d = 3 ∨ d = 4 ∨ d = 5 ∨ d = 6 ∨ d = 7 ∨ d = 8 := by omega
      rcases this with rfl | rfl | rfl | rfl | rfl | rfl | rfl | rfl | rfl <;> decide)
    refine (pe_callB (cr_isP (Wh.cls c hc) hz hf hp) (gl_of s3) Wh.isi (by rfl) (pa_cons (l1 _) (pa_cons (l2 _) pa_nil rfl) rfl) (by decide) (by decide) rfl rfl).mono ?_
    rintro σ H Q ⟨q1, q2⟩
    exact ⟨.ref a, q1, .ref (ex d), .ref (ex d), decide (c = d), rfl, fun u r => by cases r; rfl, Wh.one c hc d hd, q2⟩
  · cases h
theorem pe_isiV (Wh : Whi X.K X.mg ex) (hc : c < 9) (hz : Zc (.ref (ex c)) none oe) (hf : ∃ vs, oe.data = .fields vs) (hp : (a, oe) ∈ X.pn) (h0 : X.N[0]? = some ("e" : Str)) (hs : whScB X.env.scope = true) {e : Expr} (h : isiB "ValueError" e = true) : PE X e (tIs a true) := by
  simp only [whScB, Bool.and_eq_true, List.all_eq_true, List.mem_range] at hs
  obtain ⟨⟨⟨⟨s1, s2⟩, s3⟩, s4⟩, s5⟩ := hs
  unfold isiB at h
  split at h
  · simp only [Bool.and_eq_true, decide_eq_true_eq] at h
    obtain ⟨⟨rfl, rfl⟩, rfl⟩ := h
    have l1 : ∀ ps : Pos, PE X (.Name "e" ps) (tVar 0) := fun _ => pe_var h0 (by rcases loc_of s1 with w | w; exact .inl w; exact .inr (.inl w))
    have l2 : ∀ ps : Pos, PE X (.Name "ValueError" ps) (tC (.ty "ValueError")) := fun _ => pe_bltn (gl_of s4) Wh.val (by rfl) rfl (by decide) (by decide)
    refine (pe_callB (cr_isP (Wh.cls c hc) hz hf hp) (gl_of s3) Wh.isi (by rfl) (pa_cons (l1 _) (pa_cons (l2 _) pa_nil rfl) rfl) (by decide) (by decide) rfl rfl).mono ?_
    rintro σ H Q ⟨q1, q2⟩
    exact ⟨.ref a, q1, .ty "ValueError", .type "ValueError", true, rfl, fun u r => by cases r; rfl, Wh.ve c hc, q2⟩
  · cases h
theorem isi_plain {cn : Str} {e : Expr} (h : isiB cn e = true) : plainE e = true := by
  unfold isiB at h
  split at h
  · rfl
  · cases h
/-- a list of three looks -/
theorem pe_l3 (Wh : Whi X.K X.mg ex) (hc : c < 9) (hz : Zc (.ref (ex c)) none oe) (hf : ∃ vs, oe.data = .fields vs) (hp : (a, oe) ∈ X.pn) (h0 : X.N[0]? = some ("e" : Str)) (hs : whScB X.env.scope = true) {i j k : Nat} (hi : i < 9) (hj : j < 9) (hk : k < 9) {e : Expr} (h : l3B (excNm i) (excNm j) (excNm k) e = true) :
    PE X e (fun σ H Q => σ[0]? = some (some (.ref a)) ∧ ∀ p, H p = none → Q (.ref p) (upd H p (.lst [.bl (decide (c = i)), .bl (decide (c = j)), .bl (decide (c = k))]))) := by
  unfold l3B at h
  split at h
  · simp only [Bool.and_eq_true] at h
    obtain ⟨⟨h1, h2⟩, h3⟩ := h
    have e1 := pe_isi Wh hc hz hf hp h0 hs hi h1
    have e2 := pe_isi Wh hc hz hf hp h0 hs hj h2
    have e3 := pe_isi Wh hc hz hf hp h0 hs hk h3
    refine (pe_lst (pa_cons e1 (pa_cons e2 (pa_cons e3 pa_nil (plain_star (isi_plain h3))) (plain_star (isi_plain h2))) (plain_star (isi_plain h1)))).mono ?_
    rintro σ H Q ⟨q1, q2⟩
    exact ⟨q1, q1, q1, by show 3 ≤ sizeLine; decide, q2⟩
  · cases h
theorem l3_plain {i j k : Str} {e : Expr} (h : l3B i j k e = true) : plainE e = true := by
  unfold l3B at h
  split at h
  · rfl
  · cases h
theorem few {X : Cx} {cp : Pos} {e : Expr} (hs : starEach [e] X.env = (false, eval e X.env) :: starEach [] X.env) : ((backTo cp (starEach [e] X.env)).all (fun x => !x.1) && (backToKw cp (keywordEach [] X.env)).all (fun x => x.1.isSome) && decide ([e].length + ([] : List Keyword).length + (if ([] : List Keyword).isEmpty then 0 else 1) < 30)) = true := by
  rw [hs]; rfl
theorem pe_own (h1 : X.N[1]? = some ("own" : Str)) (hs : whScB X.env.scope = true) {pos : Pos} : PE X (.Name "own" pos) (tVar 1) := by
  simp only [whScB, Bool.and_eq_true, List.all_eq_true, List.mem_range] at hs
  exact pe_var h1 (by rcases loc_of hs.1.1.1.2 with w | w; exact .inl w; exact .inr (.inl w))
theorem ps_ext3 (Wh : Whi X.K X.mg ex) (hc : c < 9) (hz : Zc (.ref (ex c)) none oe) (hf : ∃ vs, oe.data = .fields vs) (hp : (a, oe) ∈ X.pn) (h0 : X.N[0]? = some ("e" : Str)) (h1 : X.N[1]? = some ("own" : Str)) (hs : whScB X.env.scope = true) {i j k : Nat} (hi : i < 9) (hj : j < 9) (hk : k < 9) {s : Stmt} (h : extB (excNm i) (excNm j) (excNm k) s = true) :
    PS X s (fun D σ H => ∃ l xs, σ[0]? = some (some (.ref a)) ∧ σ[1]? = some (some (.ref l)) ∧ H l = some (.lst xs) ∧ xs.length ≤ 100 ∧ ∀ p, H p = none → D.nx σ (upd (upd H p (.lst [.bl (decide (c = i)), .bl (decide (c = j)), .bl (decide (c = k))])) l (.lst (xs ++ [.bl (decide (c = i)), .bl (decide (c = j)), .bl (decide (c = k))])))) := by
  unfold extB at h
  split at h
  · simp only [Bool.and_eq_true, decide_eq_true_eq] at h
    obtain ⟨⟨⟨rfl, rfl⟩, hl⟩, h3⟩ := h
    have e1 := pe_l3 Wh hc hz hf hp h0 hs hi hj hk h3
    have st := plain_star (es := []) (env := X.env) (l3_plain h3)
    refine (ps_expr (pe_bm PySem.F.plainAttrs_list PySem.F.slot_list_extend PySem.F.type_list_extend mt_extend (pe_own h1 hs) (pa_cons e1 pa_nil st) (recv_ok rfl) (few st) hl st rfl)).mono ?_
    rintro D σ H ⟨l, xs, q0, q1, q2, q3, q4⟩
    refine ⟨.ref l, q1, .inl ⟨rfl, xs, .inl (.inl q2)⟩, q0, fun p hn => ?_⟩
    have ne : l ≠ p := fun w => by rw [w, hn] at q2; cases q2
    refine ⟨l, p, xs, _, rfl, rfl, ?_, ?_, ?_, q4 p hn⟩
    · simp [upd, ne, q2]
    · simp [upd]
    · have : (103 : Nat) ≤ sizeLine := by decide
      simp only [List.length_cons, List.length_nil]
      omega
  · cases h
/-! counting True -/
theorem bools_vals : ∀ {bs : List Bool} {us : List Value}, Vals (bs.map V.bl) us → us = bs.map Value.bool
  | [], us, r => by cases r; rfl
  | b :: bs, us, r => by
    cases r with
    | cons r1 r2 =>
      cases r1
      rw [bools_vals r2]
      rfl
theorem reads_bools (h : Heap) : ∀ bs : List Bool, ∃ as, ReadsAll h (bs.map Value.bool) (bs.map PyData.bool) as
  | [] => ⟨[], .nil⟩
  | b :: bs => by
    obtain ⟨as, r⟩ := reads_bools h bs
    exact ⟨_, .cons (.bool b) r⟩
def rCntB (K : PySem.W.Frag) : V → List V → Hp → VK → Prop := fun x xs H Q => ∃ (p : Addr) (bs : List Bool), x = .ref p ∧ xs = [.bl true] ∧ SqL K H p (bs.map V.bl) ∧ Q (.int (countIn (.bool true) (bs.map PyData.bool))) H
theorem mt_cntB : MtR X "list.count" (rCntB X.K) := by
  intro pins s σ H x xs v us Q I rx rxs h
  obtain ⟨p, bs, rfl, rfl, hs, q⟩ := h
  cases rx
  match us, rxs with
  | [u], .cons ru .nil =>
    cases ru
    obtain ⟨its, rv, pl, _⟩ := I.list hs
    have e := bools_vals rv
    subst e
    obtain ⟨as, ra⟩ := reads_bools s.heap bs
    refine count_list_bools pl.isList ra (by simp only [List.all_map, List.all_eq_true]; intro b _; rfl) ?_
    exact ⟨.int (countIn (.bool true) (bs.map PyData.bool)), H, I.tok _, ⟨s.toks, rfl⟩, q⟩
end
end Sw
end

section
/-! SwTry2: the whole of that def. -/
namespace Sw
open PySem PySem.Spec L2 L2H PyProof.Rows
/-- the nine looks -/
def nine (c : Nat) : List Bool := (List.range 9).map fun d => decide (c = d)
theorem nine_one : ∀ c < 9, countIn (.bool true) ((nine c).map PyData.bool) = 1 := by decide +kernel
theorem nine_at : ∀ c < 9, (nine c)[c]? = some true ∧ ∀ m < c, (nine c)[m]? = some false := by decide +kernel
theorem nine_three (c : Nat) : (nine c).map V.bl = [V.bl (decide (c = 0)), .bl (decide (c = 1)), .bl (decide (c = 2))] ++ [.bl (decide (c = 3)), .bl (decide (c = 4)), .bl (decide (c = 5))] ++ [.bl (decide (c = 6)), .bl (decide (c = 7)), .bl (decide (c = 8))] := rfl
section
variable {X : Cx} {ex : Nat → Addr} {a : Addr} {oe : Obj} {c : Nat}
theorem pt_test (Wh : Whi X.K X.mg ex) (hc : c < 9) (hz : Zc (.ref (ex c)) none oe) (hf : ∃ vs, oe.data = .fields vs) (hp : (a, oe) ∈ X.pn) (h0 : X.N[0]? = some ("e" : Str)) (h1 : X.N[1]? = some ("own" : Str)) (hs : whScB X.env.scope = true) {e : Expr} (h : testB e = true) :
    PT X e (fun σ H Q => ∃ l, σ[0]? = some (some (.ref a)) ∧ σ[1]? = some (some (.ref l)) ∧ H l = some (.lst ((nine c).map V.bl)) ∧ Q false H) := by
  unfold testB at h
  split at h
  · simp only [Bool.and_eq_true] at h
    obtain ⟨g1, g2⟩ := h
    unfold cntB at g1
    split at g1
    · simp only [Bool.and_eq_true, decide_eq_true_eq] at g1
      obtain ⟨⟨⟨⟨rfl, rfl⟩, hl⟩, rfl⟩, rfl⟩ := g1
      have hb : ∀ k ps, PE X (.Constant (.bool true) k ps) (tC (.bl true)) := fun _ _ => pe_bl
      refine (PW.pt (pw_or (pt_cmpR op_ne (pe_bm PySem.F.plainAttrs_list PySem.F.slot_list_count PySem.F.type_list_count mt_cntB (pe_own h1 hs) (pa_cons (hb _ _) pa_nil rfl) (recv_ok rfl) (few rfl) hl rfl rfl) pe_int rfl) (pw_or1 (pt_not (pt_val (pe_isiV Wh hc hz hf hp h0 hs g2) ?_))))).mono ?_
      · unfold isiB at g2
        split at g2
        · intro _; rfl
        · cases g2
      · rintro σ H Q ⟨l, q0, q1, q2, q3⟩
        refine ⟨.ref l, q1, .inl ⟨rfl, _, .inl (.inl q2)⟩, l, nine c, rfl, rfl, .inl (.inl q2), ?_⟩
        rw [nine_one c hc]
        refine ⟨rfl, false, by simp, ?_⟩
        simp only [Bool.false_eq_true, if_false]
        exact ⟨q0, true, rfl, q3⟩
    · cases g1
  · cases h
theorem ps_last (h1 : X.N[1]? = some ("own" : Str)) (hs : whScB X.env.scope = true) (hc : c < 9) {s : Stmt} (h : lastB s = true) :
    PS X s (fun D σ H => ∃ l, σ[1]? = some (some (.ref l)) ∧ H l = some (.lst ((nine c).map V.bl)) ∧ ∀ p, H p = none → D.rt (.ref p) (upd H p (.tup [.str "raised", .int (c : Nat)]))) := by
  unfold lastB at h
  split at h
  · simp only [Bool.and_eq_true, decide_eq_true_eq] at h
    obtain ⟨⟨⟨⟨rfl, rfl⟩, rfl⟩, hl⟩, rfl⟩ := h
    have hb : ∀ k ps, PE X (.Constant (.bool true) k ps) (tC (.bl true)) := fun _ _ => pe_bl
    have hst : ∀ k ps, PE X (.Constant (.str "raised") k ps) (tC (.str "raised")) := fun _ _ => pe_str
    refine (ps_ret (pe_tup (pa_cons (hst _ _) (pa_cons (pe_bm PySem.F.plainAttrs_list PySem.F.slot_list_index PySem.F.type_list_index mt_index (pe_own h1 hs) (pa_cons (hb _ _) pa_nil rfl) (recv_ok rfl) (few rfl) hl rfl rfl) pa_nil rfl) rfl))).mono ?_
    rintro D σ H ⟨l, q1, q2, q3⟩
    obtain ⟨n1, n2⟩ := nine_at c hc
    refine ⟨.ref l, q1, .inl ⟨rfl, _, .inl (.inl q2)⟩, l, (nine c).map V.bl, .bl true, c, .bl true, rfl, rfl, .inl (.inl q2), rfl, ?_, ?_, rfl, fun m z' hm hz' => ?_, by show 2 ≤ sizeLine; decide, q3⟩
    · simp only [List.all_map, List.all_eq_true]
      intro b _; rfl
    · rw [List.getElem?_map, n1]; rfl
    · rw [List.getElem?_map, n2 m hm] at hz'
      cases hz'
      rfl
  · cases h
/-- what the def's call gives -/
theorem pss_which (Wh : Whi X.K X.mg ex) (hc : c < 9) (hz : Zc (.ref (ex c)) none oe) (hf : ∃ vs, oe.data = .fields vs) (hp : (a, oe) ∈ X.pn) (hN : X.N.Nodup) (h0 : X.N[0]? = some ("e" : Str)) (h1 : X.N[1]? = some ("own" : Str)) (hfn : ∀ x, X.fn x = true) (hs : whScB X.env.scope = true) {b : List Stmt} (h : whichB b = true) :
    PSs X b (fun D σ H => σ.length = 2 ∧ σ[0]? = some (some (.ref a)) ∧ ∀ H' p, (∀ q o, H q = some o → H' q = some o) → H' p = none → D.rt (.ref p) (upd H' p (.tup [.str "raised", .int (c : Nat)]))) := by
  unfold whichB at h
  split at h
  · rename_i s1 s2 s3 t x pos s5
    simp only [Bool.and_eq_true] at h
    obtain ⟨⟨⟨⟨g1, g2⟩, g3⟩, g4⟩, g5⟩ := h
    have p2 := ps_ext3 (i := 3) (j := 4) (k := 5) Wh hc hz hf hp h0 h1 hs (by omega) (by omega) (by omega) g2
    have p3 := ps_ext3 (i := 6) (j := 7) (k := 8) Wh hc hz hf hp h0 h1 hs (by omega) (by omega) (by omega) g3
    have p4 := pt_test Wh hc hz hf hp h0 h1 hs g4
    have p5 := ps_last (c := c) h1 hs hc g5
    unfold st1B at g1
    split at g1
    · simp only [Bool.and_eq_true, decide_eq_true_eq] at g1
      obtain ⟨rfl, g1⟩ := g1
      have e1 := pe_l3 (i := 0) (j := 1) (k := 2) Wh hc hz hf hp h0 hs (by omega) (by omega) (by omega) g1
      have hloc : Loc X.env.scope "own" := by
        simp only [whScB, Bool.and_eq_true] at hs
        exact loc_of hs.1.1.1.2
      have p1 := fun (ps1 ps2 : Pos) => ps_set (X := X) (pos := ps1) (pos' := ps2) (hf := Or.inl (hfn _)) hN h1 hloc e1 (by unfold l3B at g1; split at g1; rfl; cases g1)
      refine (pss_cons (p1 _ _) (pss_cons p2 (pss_cons p3 (pss_cons (ps_if p4 pss_never pss_nil) (pss_cons p5 pss_nil))))).mono ?_
      rintro D σ H ⟨q0, q1, q2⟩
      refine ⟨q1, fun l hl => ?_⟩
      have n0 : (σ.set 1 (some (V.ref l)))[0]? = some (some (.ref a)) := by rw [List.getElem?_set_ne (by decide)]; exact q1
      have n1 : (σ.set 1 (some (V.ref l)))[1]? = some (some (.ref l)) := by rw [List.getElem?_set_self (by omega)]
      refine ⟨l, [V.bl (decide (c = 0)), .bl (decide (c = 1)), .bl (decide (c = 2))], n0, n1, by simp [upd], by simp, fun b2 hb2 => ?_⟩
      refine ⟨l, [V.bl (decide (c = 0)), .bl (decide (c = 1)), .bl (decide (c = 2))] ++ [.bl (decide (c = 3)), .bl (decide (c = 4)), .bl (decide (c = 5))], n0, n1, by simp [upd], by simp, fun b3 hb3 => ?_⟩
      refine ⟨l, n0, n1, by simp [upd, nine_three], ?_⟩
      simp only [Bool.false_eq_true, if_false]
      refine ⟨l, n1, by simp [upd, nine_three], fun p hp' => ?_⟩
      refine q2 _ p (fun q o hq => ?_) hp'
      have nl : q ≠ l := fun w => by rw [w, hl] at hq; cases hq
      have e2 : upd H l (.lst [V.bl (decide (c = 0)), .bl (decide (c = 1)), .bl (decide (c = 2))]) q = some o := by simp [upd, nl, hq]
      have n2 : q ≠ b2 := fun w => by rw [← w, e2] at hb2; cases hb2
      have n3 : q ≠ b3 := fun w => by
        rw [← w] at hb3
        simp [upd, nl, n2, hq] at hb3
      simp [upd, nl, n2, n3, hq]
    · cases g1
  · cases h
end
end Sw
end

section
/-! SwTry3: try .. except WaveError as e: return _law_which(e). -/
namespace Sw
open PySem PySem.Spec L2 L2H PyProof.Rows
def Ext (H H' : Hp) : Prop := ∀ b o, H b = some o → H' b = some o
/-- what is asked of the def: the code of the exception -/
def spW (ex : Nat → Addr) : Addr × Obj → Sp := fun p vs H Q _ => ∃ c, c < 9 ∧ Zc (.ref (ex c)) none p.2 ∧ (∃ fs, p.2.data = .fields fs) ∧ vs = [.ref p.1] ∧ ∀ H' q, Ext H H' → H' q = none → Q (.ref q) (upd H' q (.tup [.str "raised", .int (c : Nat)]))
theorem which_fn {P : Program} {w : World} {K : PySem.W.Frag} {mg : Str → Option Value} {base : Heap} {x qual : Str} {params : Arguments} {body : List Stmt} {scope : Scope} {f : Addr} {fd : FuncData} {ex : Nat → Addr}
    (F : FunD K x qual params body scope [] [] f fd) (S : FnScope ["e", "own"] ["e"] scope) (hs : whScB scope = true) (hw : whichB body = true) (Wh : Whi K mg ex) : FnP P w K mg base f fd ["e"] (spW ex) := by
  obtain ⟨oc, od, dV, kV, doc, pm, an, cdv, ct, osl, rfl, lk, hcd, _, _⟩ := F.ex
  refine fnP_of (N := ["e", "own"]) lk hcd S ?_ ?_
  · rintro p vs H Q E ⟨c, _, _, _, rfl, _⟩
    rfl
  · rintro p A outer s H vs Q E hot ⟨c, hc, hz, hf, rfl, q⟩
    have h := pss_which (X := cxH (L2N.CX P w) P w K mg base ["e", "own"] qual scope f cdv A outer s H E p) (a := p.1) (oe := p.2) (ex := ex) (c := c) Wh hc hz hf (by show p ∈ [p]; simp) S.nd rfl rfl (fun _ => rfl) hs hw
    exact ⟨_, h, rfl, rfl, fun H' p' hx hn => q H' p' hx hn⟩
section
variable {G : Gx} {μ : Mu} {st : Store} {H H' : Hp} {X : Cx} {C : Orc} {W : WX} {ck : Ck} {k : Nat}
theorem ext_step (S : StOk G μ st H) (x : Ext H H') : Step μ st H μ st H' ∧ StOk G μ st H' := by
  have t : Step μ st H μ st H' := ⟨Nat.le_refl _, fun _ p h => ⟨p, h, rfl⟩, fun a o h n => ⟨x a o h, n⟩, fun _ c p h q => ⟨c, p, h, q, Nat.le_refl _, fun _ => rfl⟩⟩
  exact ⟨t, ⟨S.len, fun n p c h1 h2 => (S.cell n p c h1 h2).step S t fun a o _ h => x a o h, S.sep⟩⟩
/-- the suite -/
theorem suite_ok {a : Addr} {oe : Obj} {cls : Value} {d : Option Addr} {pn : List (Addr × Obj)} {i : Nat} {n : Str} {fw : Addr} {fd : FuncData} {p1 p2 p3 p4 : Pos} (hz : L2N.Zn cls d oe) (hf : ∃ vs, oe.data = .fields vs) (hi : X.N[i]? = some n) (hv : Vis X.env.scope n) (hr : RoomH 0 X.A)
    (F : FnP X.prog X.w X.K X.mg X.base fw fd ["e"] (spW G.ex)) (hm : X.mg "_law_which" = some (.ref fw)) (hk : PySem.W.keepIn X.K (.ref fw) = true) (hb : Binds X.K fd ["e"] []) (hg : Gl X "_law_which") (d1 : (n == ("__debug__" : Str)) = false) (d2 : (n == ("__classdict__" : Str)) = false) :
    PSs (X.suite a ((a, oe) :: pn)) [.Return (some (.Call (.Name "_law_which" p1) [.Name n p2] [] p3)) p4] (fun D σ H => (i < σ.length → σ[i]? = some (some (.ref a))) ∧ ∃ c, c < 9 ∧ cls = .ref (G.ex c) ∧ d = none ∧ ∀ H' q, Ext H H' → H' q = none → D.rt (.ref q) (upd H' q (.tup [.str "raised", .int (c : Nat)]))) := by
  have hot : Hot1 (X.suite a ((a, oe) :: pn)).A (a, oe) := by
    obtain ⟨vs, hv'⟩ := hf
    exact ⟨rfl, vs, hv', hz.2.2 vs hv'⟩
  have hx : ∀ σ : L2.St, PassesAt (L2N.CX X.prog X.w) (X.suite a ((a, oe) :: pn)) σ (fun _ _ _ => False) := fun σ pins H s e s' I c => by
    obtain ⟨_, _, _, _, _, _, _, _, _, _, _, _, h⟩ := c
    exact h
  have pv : PE (X.suite a ((a, oe) :: pn)) (.Name n p2) (tVar i) := pe_var hi hv d1 d2
  have key := pss_one (ps_ret (pos := p4) (pe_callP (X := X.suite a ((a, oe) :: pn)) (p := (a, oe)) (q := p1) (pos := p3) (E := fun _ _ _ _ => False) F ⟨hr.dp, hr.un⟩ hot (by simp) hg hm hk hb hx (pa_cons pv pa_nil rfl) rfl rfl))
  refine ⟨fun pins s σ H D I h => key.run pins s σ H D I ?_⟩
  obtain ⟨h0, c, hc, rfl, rfl, q⟩ := h
  have hl : i < σ.length := by
    rw [I.len]
    exact (List.getElem?_eq_some_iff.mp hi).1
  exact ⟨.ref a, h0 hl, c, hc, ⟨hz.1, hz.2.1⟩, hf, rfl, q⟩
theorem s_try {body : List Stmt} {mb : Sts} {i : Nat} {n : Str} {fw we : Addr} {fd : FuncData} {np p1 p2 p3 p4 p5 pos : Pos} (hst : X.stack = X.env :: X.outer) (hfr : X.env.frame = some X.env.locals) (hN : X.N.Nodup) (tk : L2N.Takes X W) (hi : X.N[i]? = some n) (hln : X.env.scope.names.lookup n = some .local) (hr : RoomH 0 X.A)
    (F : FnP X.prog X.w X.K X.mg X.base fw fd ["e"] (spW G.ex)) (hm : X.mg "_law_which" = some (.ref fw)) (hk : PySem.W.keepIn X.K (.ref fw) = true) (hb : Binds X.K fd ["e"] []) (hg : Gl X "_law_which") (hg2 : Gl X "WaveError") (hwe : X.mg "WaveError" = some (.ref we)) (hex : ∀ c < 9, PySem.W.exmOne X.K (.ref (G.ex c)) (.ref we) = some true)
    (d1 : (n == ("__debug__" : Str)) = false) (d2 : (n == ("__classdict__" : Str)) = false)
    (hbody : ∀ (W' : WX) (pn : List (Addr × Obj)) (xe : Value → Shared → Prop), L2N.Takes (X.tr pn xe) W' → PassesOwn (model X.prog X.w) X.A X.env xe → PSs (X.tr pn xe) body (TMSs G C W' mb)) :
    PS X (.Try body [.ExceptHandler (some (.Name "WaveError" np)) (some n) [.Return (some (.Call (.Name "_law_which" p1) [.Name n p2] [] p3)) p4] p5] [] [] pos) (TMS G C W (.tryw i mb)) := by
  refine (L2N.ps_try_as (c := .ref we) hst hfr hN hi hln ⟨hg2, by decide, .inl hwe⟩ tk hbody (fun a oe cls d pn hz hf => suite_ok (G := G) (i := i) hz hf hi (.inl hln) hr F hm hk hb hg d1 d2)).mono ?_
  rintro D σ H ⟨μ, ρ, st, S, E, h⟩
  refine ⟨μ, ρ, st, S, E, ?_⟩
  simp only [exec] at h
  generalize execs C mb ρ st = r at h ⊢
  cases r with
  | ret v st1 => exact h
  | next ρ' st1 => exact h.elim
  | bad => exact h.elim
  | exc c st1 =>
    intro μ' H' σ' t S'
    simp only at h
    by_cases hc : c < 9
    · rw [if_pos hc] at h
      refine ⟨true, hex c hc, fun _ a ha => ⟨fun hl => by rw [List.getElem?_set_self (by simpa using hl)], c, hc, rfl, rfl, fun H2 q x hn => ?_⟩, fun w => by cases w⟩
      obtain ⟨t2, S2⟩ := ext_step S' x
      refine new_tup (xs := [.str "raised", .int (c : Nat)]) S2 ?_ (fun μ3 H3 x3 t3 S3 r3 => h μ3 H3 x3 ((t.trans t2).trans t3) S3 r3) q hn
      exact ⟨_, _, rfl, rfl, _, _, rfl, rfl, rfl⟩
    · rw [if_neg hc] at h
      exact h.elim
end
end Sw
end

section
/-! SwTunS: stores to a tuner's fields. -/
namespace Sw
open PySem L2
section
variable {G : Gx} {μ μ' μ1 μ2 : Mu} {st st1 : Store} {H H' H1 H2 : Hp}
theorem sqT_move (S : StOk G μ st H) (fr : ∀ a o, H a = some o → ¬ Own μ a → H' a = some o) {a : Addr} {xs : List V} (h : SqT G.K H a xs) : SqT G.K H' a xs := by
  rcases h with h | h
  · left
    rcases h with h | ⟨o, h⟩
    · exact .inl (fr a _ h (S.notOwn h (fun _ z => by cases z) fun _ _ _ z => by cases z))
    · exact .inr ⟨o, fr a _ h (S.notOwn h (fun _ z => by cases z) fun _ _ _ z => by cases z)⟩
  · exact .inr h
mutual
theorem RvP.move (S : StOk G μ st H) (ow : ∀ a, Own μ' a → Own μ a) (fr : ∀ a o, H a = some o → ¬ Own μ a → H' a = some o) : ∀ (v : Val) (x : V), RvP G μ H v x → RvP G μ' H' v x
  | .non, x, h => by simpa only [RvP] using h
  | .bl _, x, h => by simpa only [RvP] using h
  | .int _, x, h => by simpa only [RvP] using h
  | .str _, x, h => by simpa only [RvP] using h
  | .tup xs, x, h => by
    simp only [RvP] at h ⊢
    obtain ⟨a, ys, e, h1, h2⟩ := h
    exact ⟨a, ys, e, sqT_move S fr h1, RvPs.move S ow fr xs ys h2⟩
  | .lst xs, x, h => by
    simp only [RvP] at h ⊢
    obtain ⟨a, ys, e, h1, n, h2⟩ := h
    exact ⟨a, ys, e, fr a _ h1 n, fun z => n (ow a z), RvPs.move S ow fr xs ys h2⟩
  | .slst _, x, h => by simp only [RvP] at h
  | .fn _, x, h => by simpa only [RvP] using h
  | .box _, x, h => by simp only [RvP] at h
theorem RvPs.move (S : StOk G μ st H) (ow : ∀ a, Own μ' a → Own μ a) (fr : ∀ a o, H a = some o → ¬ Own μ a → H' a = some o) : ∀ (vs : List Val) (xs : List V), RvPs G μ H vs xs → RvPs G μ' H' vs xs
  | [], xs, h => by simpa only [RvPs] using h
  | v :: vs, xs, h => by
    simp only [RvPs] at h ⊢
    obtain ⟨y, r, e, h1, h2⟩ := h
    exact ⟨y, r, e, RvP.move S ow fr v y h1, RvPs.move S ow fr vs r h2⟩
end
theorem CellOk.move (S : StOk G μ st H) (ow : ∀ a, Own μ' a → Own μ a) (fr : ∀ a o, H a = some o → ¬ Own μ a → H' a = some o) {p : Addr × Addr} {c : Cell} (h : CellOk G μ H p c) (k : ∀ a o, (a = p.1 ∨ a = p.2) → H a = some o → H' a = some o) : CellOk G μ' H' p c := by
  cases c with
  | list xs =>
    obtain ⟨e, ys, h1, h2⟩ := h
    exact ⟨e, ys, k _ _ (.inl rfl) h1, RvPs.move S ow fr xs ys h2⟩
  | tun path kept g =>
    obtain ⟨dx, h1, r⟩ := h
    refine ⟨dx, k _ _ (.inl rfl) h1, ?_⟩
    cases path with
    | none => exact r
    | some xs =>
      obtain ⟨ys, h2, h3⟩ := r
      exact ⟨ys, k _ _ (.inr rfl) h2, RvPs.move S ow fr xs ys h3⟩
theorem flds_put {l l' : Addr} {path : Option (List Val)} {kept : Option Int} {xs : List Val} (h : path = none → kept = none) : putF "functions" (.ref l') (fldsOf l path kept) = fldsOf l' (some xs) kept := by
  cases path with
  | none => rw [h rfl]; rfl
  | some p => cases kept <;> simp [fldsOf, putF]
theorem kf_ne2 : ¬ (("functions" : Str) = ("kept" : Str)) := by decide +kernel
theorem flds_putK {l : Addr} {path : List Val} {kept : Option Int} {k : Int} : putF "kept" (.int k) (fldsOf l (some path) kept) = fldsOf l (some path) (some k) := by
  cases kept <;> simp [fldsOf, putF, kf_ne2]
/-- the tuner's list is a new one -/
theorem fset_ok {n : Nat} {p q : Addr × Addr} {dx : Addr} {path : Option (List Val)} {kept : Option Int} {gen : Nat} {xs : List Val} (S1 : StOk G μ1 st1 H1) (t2 : Step μ1 st1 H1 μ2 (st1 ++ [.list xs]) H2) (S2 : StOk G μ2 (st1 ++ [.list xs]) H2) (hs : st1[n]? = some (.tun path kept gen)) (hp : μ2[n]? = some p) (hq : μ2[st1.length]? = some q) (hi : H2 p.1 = some (.ins G.tc dx (fldsOf p.2 path kept))) (hk : path = none → kept = none) :
    Step μ1 st1 H1 ((μ2.take st1.length).set n (p.1, q.1)) (st1.set n (.tun (some xs) kept (gen + 1))) (upd H2 p.1 (.ins G.tc dx (putF "functions" (.ref q.1) (fldsOf p.2 path kept)))) ∧
    StOk G ((μ2.take st1.length).set n (p.1, q.1)) (st1.set n (.tun (some xs) kept (gen + 1))) (upd H2 p.1 (.ins G.tc dx (putF "functions" (.ref q.1) (fldsOf p.2 path kept)))) := by
  have hn : n < st1.length := (List.getElem?_eq_some_iff.mp hs).1
  have hl2 : μ2.length = st1.length + 1 := by rw [S2.len]; simp
  have hnl : n < (μ2.take st1.length).length := by rw [List.length_take]; omega
  obtain ⟨eq2, yq, hq1, hq2⟩ := S2.cell st1.length q (.list xs) hq (by simp)
  have pOwn : Own μ2 p.1 := ⟨p, List.mem_of_getElem? hp, .inl rfl⟩
  have qOwn : Own μ2 q.1 := ⟨q, List.mem_of_getElem? hq, .inl rfl⟩
  have ow : ∀ a, Own ((μ2.take st1.length).set n (p.1, q.1)) a → Own μ2 a := by
    rintro a ⟨r, hr, e⟩
    rcases List.mem_or_eq_of_mem_set hr with hr | rfl
    · exact ⟨r, List.mem_of_mem_take hr, e⟩
    · rcases e with rfl | rfl
      · exact pOwn
      · exact qOwn
  have fr : ∀ a o, H2 a = some o → ¬ Own μ2 a → (upd H2 p.1 (.ins G.tc dx (putF "functions" (.ref q.1) (fldsOf p.2 path kept)))) a = some o := fun a o h w => by
    rw [upd_ne (fun z => w (by rw [z]; exact pOwn))]; exact h
  have npq : n ≠ st1.length := by omega
  have spq := S2.sep n st1.length p q hp hq npq
  constructor
  · refine ⟨?_, fun j r hr => ?_, fun a o h w => ?_, fun j c r hc hr => ?_⟩
    · rw [List.length_set, List.length_take, S1.len, hl2]; omega
    · have hj : j < st1.length := by rw [← S1.len]; exact (List.getElem?_eq_some_iff.mp hr).1
      obtain ⟨r', h1, h2⟩ := t2.fst j r hr
      by_cases e : j = n
      · subst e
        rw [hp] at h1
        cases h1
        exact ⟨(p.1, q.1), by rw [List.getElem?_set_self hnl], h2⟩
      · exact ⟨r', by rw [List.getElem?_set_ne (Ne.symm e), List.getElem?_take, if_pos hj]; exact h1, h2⟩
    · obtain ⟨k1, k2⟩ := t2.frame a o h w
      exact ⟨fr a o k1 k2, fun z => k2 (ow a z)⟩
    · have hj : j < st1.length := (List.getElem?_eq_some_iff.mp hc).1
      obtain ⟨c', r', h1, h2, h3, h4⟩ := t2.gen j c r hc hr
      rw [List.getElem?_append_left hj, hc] at h1
      cases h1
      by_cases e : j = n
      · subst e
        rw [hs] at hc
        cases hc
        exact ⟨.tun (some xs) kept (gen + 1), (p.1, q.1), by rw [List.getElem?_set_self hn], by rw [List.getElem?_set_self hnl], Nat.le_succ _, fun w => absurd w (by show ¬ (gen + 1 = gen); omega)⟩
      · exact ⟨c, r', by rw [List.getElem?_set_ne (Ne.symm e)]; exact hc, by rw [List.getElem?_set_ne (Ne.symm e), List.getElem?_take, if_pos hj]; exact h2, h3, h4⟩
  · refine ⟨by rw [List.length_set, List.length_take, List.length_set, hl2]; omega, fun j r c h1 h2 => ?_, fun i j r r' h1 h2 d => ?_⟩
    · rcases get_set h2 with ⟨rfl, rfl, _⟩ | ⟨ne, h2⟩
      · rw [List.getElem?_set_self hnl] at h1
        cases h1
        refine ⟨dx, by rw [upd_same, flds_put (xs := xs) hk], yq, ?_, RvPs.move S2 ow fr xs yq hq2⟩
        rw [upd_ne (fun z => spq.1 z.symm)]; exact hq1
      · rw [List.getElem?_set_ne (Ne.symm ne), List.getElem?_take] at h1
        split at h1
        · rename_i hj
          have sp := S2.sep j n r p h1 hp ne
          refine (S2.cell j r c h1 (by rw [List.getElem?_append_left hj]; exact h2)).move S2 ow fr fun a o ha ho => ?_
          rw [upd_ne ?_]; exact ho
          rcases ha with rfl | rfl
          · exact sp.1
          · exact sp.2.2.1
        · cases h1
    · have get : ∀ (i : Nat) r, ((μ2.take st1.length).set n (p.1, q.1))[i]? = some r → (i = n ∧ r = (p.1, q.1)) ∨ (i ≠ n ∧ i < st1.length ∧ μ2[i]? = some r) := fun i r h => by
        rcases get_set h with ⟨rfl, rfl, _⟩ | ⟨ne, h⟩
        · exact .inl ⟨rfl, rfl⟩
        · rw [List.getElem?_take] at h
          split at h
          · exact .inr ⟨ne, by assumption, h⟩
          · cases h
      rcases get i r h1 with ⟨rfl, rfl⟩ | ⟨n1, l1, g1⟩ <;> rcases get j r' h2 with ⟨rfl, rfl⟩ | ⟨n2, l2, g2⟩
      · exact absurd rfl d
      · have s1 := S2.sep i j p r' hp g2 d
        have s2 := S2.sep st1.length j q r' hq g2 (by omega)
        exact ⟨s1.1, s1.2.1, s2.1, s2.2.1⟩
      · have s1 := S2.sep i j r p g1 hp d
        have s2 := S2.sep i st1.length r q g1 hq (by omega)
        exact ⟨s1.1, s2.1, s1.2.2.1, s2.2.2.1⟩
      · exact S2.sep i j r r' g1 g2 d
/-- a tuner's field or list is written -/
theorem tw_step {n : Nat} {p : Addr × Addr} {a : Addr} {o : HO} {path path' : Option (List Val)} {kept kept' : Option Int} {gen : Nat} (S : StOk G μ st H) (hs : st[n]? = some (.tun path kept gen)) (hp : μ[n]? = some p) (ha : a = p.1 ∨ a = p.2) : Step μ st H μ (st.set n (.tun path' kept' gen)) (upd H a o) where
  len := Nat.le_refl _
  fst := fun i q h => ⟨q, h, rfl⟩
  frame := fun b u h w => ⟨by rw [upd_ne (fun z => w (by rw [z]; exact ⟨p, List.mem_of_getElem? hp, ha⟩))]; exact h, w⟩
  gen := fun i c q h r => by
    by_cases e : i = n
    · subst e
      rw [hs] at h; cases h
      exact ⟨.tun path' kept' gen, q, by rw [List.getElem?_set_self (List.getElem?_eq_some_iff.mp hs).1], r, Nat.le_refl _, fun _ => rfl⟩
    · exact ⟨c, q, by rw [List.getElem?_set_ne (Ne.symm e)]; exact h, r, Nat.le_refl _, fun _ => rfl⟩
theorem tw_ok {n : Nat} {p : Addr × Addr} {a : Addr} {o : HO} {path path' : Option (List Val)} {kept kept' : Option Int} {gen : Nat} (S : StOk G μ st H) (hs : st[n]? = some (.tun path kept gen)) (hp : μ[n]? = some p) (ha : a = p.1 ∨ a = p.2) (hc : CellOk G μ (upd H a o) p (.tun path' kept' gen)) : StOk G μ (st.set n (.tun path' kept' gen)) (upd H a o) where
  len := by rw [List.length_set]; exact S.len
  cell := fun i q c e1 e2 => by
    have t : Step μ st H μ (st.set n (.tun path' kept' gen)) (upd H a o) := tw_step S hs hp ha
    rcases get_set e2 with ⟨rfl, rfl, _⟩ | ⟨ne, e2⟩
    · rw [hp] at e1; cases e1
      exact hc
    · refine (S.cell i q c e1 e2).step S t fun b u hb hu => ?_
      have sp := S.sep i n q p e1 hp ne
      rw [upd_ne ?_]; exact hu
      rcases hb with rfl | rfl <;> rcases ha with rfl | rfl
      · exact sp.1
      · exact sp.2.1
      · exact sp.2.2.1
      · exact sp.2.2.2
  sep := S.sep
end
section
variable {X : Cx} {G : Gx} {C : Orc} {W : WX} {ck : Ck} {k : Nat} {e : Expr} {me mo : Ex} {pos p np ap cp : Pos} {x : Str} {i : Nat}
theorem tmb_tmn {m : Ex} {σ : LSt} {H : Hp} {Q : VK} (h : TMB G C W m σ H Q) : TMN G C W m σ H Q := by
  obtain ⟨μ, ρ, st, S, E, h⟩ := h
  exact ⟨μ, ρ, st, S, E, h.mono fun v μ' st' H' t S' ⟨xs, ev, q⟩ => ⟨xs, ev, fun ys r => new_box S' r q⟩⟩
theorem s_fset (g : GoodS X G C W ck k) (hi : ck.av .t_init = true) (hs : swapsWith e (some (.Attribute (.Name x np) "functions" ap)) pos.line X.env = pure false) (ho : PE X (.Name x np) (TM G C W (.var i))) (he : PE X e (TMB G C W me)) :
    PS X (.Assign [.Attribute (.Name x np) "functions" ap] e pos) (TMS G C W (.fset (.var i) me)) := by
  have T := g.toGood.tun hi
  refine (ps_fld ho he hs).mono fun D σ H ⟨μ, ρ, st, S, E, h⟩ => ?_
  simp only [exec] at h
  refine tsb_in S E h fun v μ1 st1 H1 t1 S1 E1 h1 => ?_
  have hv : ∀ st, (ev C (.var i) ρ st = .bad) ∨ ∃ w, ρ[i]? = some (some w) ∧ ev C (.var i) ρ st = .ok w st := fun st => by
    simp only [ev]
    split
    · rename_i w hw
      exact .inr ⟨w, hw, rfl⟩
    · exact .inl rfl
  rcases hv st1 with hb | ⟨w, hw, hw1⟩
  · rw [hb] at h1; exact h1.elim
  rw [hw1, Res.sbind_ok] at h1
  split at h1
  · rename_i n xs
    split at h1
    · rename_i path kept gen hst
      refine ⟨xs, rfl, fun μ2 H2 y t2 S2 hy => ?_⟩
      have hev : ev C (.var i) ρ (st1 ++ [.list xs]) = .ok (.box n) (st1 ++ [.list xs]) := by simp only [ev, hw]
      refine ⟨μ2, ρ, st1 ++ [.list xs], S2, E1.step S1 t2, ?_⟩
      rw [hev]
      intro μ3 H3 t3 S3 z hz
      have hnl : n < st1.length := (List.getElem?_eq_some_iff.mp hst).1
      have hst2 : (st1 ++ [.list xs])[n]? = some (.tun path kept gen) := by rw [List.getElem?_append_left hnl]; exact hst
      have t23 := t2.trans t3
      obtain ⟨pr, hm, rfl⟩ := hz
      obtain ⟨q, hq, rfl⟩ := hy.step S2 t3
      obtain ⟨dx, k1, k2⟩ := S3.cell n pr _ hm hst2
      have hk : path = none → kept = none := fun e => by subst e; exact k2.2
      obtain ⟨t4, S4⟩ := fset_ok S1 t23 S3 hst hm hq k1 hk
      refine ⟨pr.1, G.tc, dx, _, rfl, k1, T.cls, T.nf, ?_, h1 _ _ σ t4 S4 (E1.step S1 t4)⟩
      cases path <;> cases kept <;> simp [fldsOf]
    · exact h1.elim
  · exact h1.elim
theorem s_kset (g : GoodS X G C W ck k) (hi : ck.av .t_init = true) (hs : swapsWith e (some (.Attribute (.Name x np) "kept" ap)) pos.line X.env = pure false) (ho : PE X (.Name x np) (TM G C W mo)) (he : PE X e (TM G C W me)) :
    PS X (.Assign [.Attribute (.Name x np) "kept" ap] e pos) (TMS G C W (.kset mo me)) := by
  have T := g.toGood.tun hi
  refine (ps_fld ho he hs).mono fun D σ H ⟨μ, ρ, st, S, E, h⟩ => ?_
  simp only [exec] at h
  refine ts_in S E h fun v μ1 st1 H1 t1 S1 E1 h1 y hy => ts_in S1 E1 h1 fun w μ2 st2 H2 t2 S2 E2 h2 z hz => ?_
  split at h2
  · rename_i n kk
    split at h2
    · rename_i path kept gen hst
      obtain ⟨pr, hm, rfl⟩ := hz
      cases (show y = .int _ from hy)
      obtain ⟨dx, k1, ys, k2, k3⟩ := S2.cell n pr _ hm hst
      have hc : CellOk G μ2 (upd H2 pr.1 (.ins G.tc dx (putF "kept" (.int kk) (fldsOf pr.2 (some path) kept)))) pr (.tun (some path) (some kk) gen) := by
        have t : Step μ2 st2 H2 μ2 (st2.set n (.tun (some path) (some kk) gen)) (upd H2 pr.1 (.ins G.tc dx (putF "kept" (.int kk) (fldsOf pr.2 (some path) kept)))) := tw_step S2 hst hm (.inl rfl)
        refine ⟨dx, by rw [upd_same, flds_putK], ys, ?_, RvPs.step S2 t path ys k3⟩
        rw [upd_ne ?_]; exact k2
        intro z
        rw [z, k1] at k2
        cases k2
      have t := tw_step (o := .ins G.tc dx (putF "kept" (.int kk) (fldsOf pr.2 (some path) kept))) (path' := some path) (kept' := some kk) S2 hst hm (.inl rfl)
      refine ⟨pr.1, G.tc, dx, _, rfl, k1, T.cls, T.nk, ?_, h2 _ _ σ t (tw_ok S2 hst hm (.inl rfl) hc) (E2.step S2 t)⟩
      cases kept <;> simp [fldsOf]
    · exact h2.elim
  · exact h2.elim
theorem s_fapp (g : GoodS X G C W ck k) (hi : ck.av .t_init = true) (hl : (ap.endLine == cp.line) = true) {fp : Pos} (hp : plainE e = true) (ho : PE X (.Name x np) (TM G C W mo)) (he : PE X e (TM G C W me)) :
    PS X (.Expr (.Call (.Attribute (.Attribute (.Name x np) "functions" fp) "append" ap) [e] [] cp) pos) (TMS G C W (.fapp mo me)) := by
  have T := g.toGood.tun hi
  have hs := plain_star (es := []) (env := X.env) hp
  have hfew : ((backTo cp (starEach [e] X.env)).all (fun x => !x.1) && (backToKw cp (keywordEach [] X.env)).all (fun x => x.1.isSome) && decide ([e].length + ([] : List Keyword).length + (if ([] : List Keyword).isEmpty then 0 else 1) < 30)) = true := by
    rw [hs]; rfl
  refine (ps_expr (pe_bm PySem.F.plainAttrs_list PySem.F.slot_list_append PySem.F.type_list_append mt_append (pe_fn (ap := fp) ho) (pa_cons he pa_nil hs) rfl hfew hl hs rfl)).mono fun D σ H ⟨μ, ρ, st, S, E, h⟩ => ?_
  simp only [exec] at h
  refine ts_in S E h fun v μ1 st1 H1 t1 S1 E1 h1 x hx => ?_
  split at h1
  · rename_i n
    split at h1
    · rename_i path0 kept0 gen hst
      obtain ⟨pr, hmu, rfl⟩ := hx
      obtain ⟨dx0, g1, ys, g2, g3⟩ := S1.cell n pr _ hmu hst
      refine ⟨pr.1, G.tc, dx0, _, _, rfl, g1, T.cls, T.nf, flds_fn, .inl ⟨rfl, ys, SqL.of g2⟩, ?_⟩
      refine ts_in S1 E1 h1 fun w μ2 st2 H2 t2 S2 E2 h2 y hy => ?_
      split at h2
      · rename_i path kept gen' hst2
        split at h2
        · rename_i hc
          simp only [Bool.and_eq_true, decide_eq_true_eq, beq_iff_eq] at hc
          obtain ⟨⟨c1, c2⟩, rfl⟩ := hc
          obtain ⟨c', pr', e1, e2, e3, e4⟩ := t2.gen n _ pr hst hmu
          rw [hst2] at e1
          cases e1
          have := e4 rfl
          subst this
          obtain ⟨dx, k1, zs, k2, k3⟩ := S2.cell n pr' _ e2 hst2
          have := lim_le
          have := k3.length
          have t := tw_step (o := .lst (zs ++ [y])) (path' := some (path ++ [w])) (kept' := kept) S2 hst2 e2 (.inr rfl)
          have hne : pr'.1 ≠ pr'.2 := fun z => by rw [← z, k1] at k2; cases k2
          have hcell : CellOk G μ2 (upd H2 pr'.2 (.lst (zs ++ [y]))) pr' (.tun (some (path ++ [w])) kept gen') := by
            refine ⟨dx, ?_, zs ++ [y], upd_same, RvPs.step S2 t _ _ (k3.append (RvPs.one (hy.p c1)))⟩
            rw [upd_ne hne, k1]
            cases kept <;> rfl
          exact ⟨pr'.2, zs, y, rfl, rfl, k2, by omega, h2 _ _ σ t (tw_ok S2 hst2 e2 (.inr rfl) hcell) (E2.step S2 t)⟩
        · exact h2.elim
      · exact h2.elim
    · exact h1.elim
  · exact h1.elim
end
end Sw
end

section
/-! SwStmt2: comprehensions that are stored, tuples that are taken apart; the checker of statements. -/
namespace Sw
open PySem L2 L2H
open PySem (Env.blockKind)
/-- is the store of a comprehension swapped with its end? -/
def swB (sc : Scope) (x : Str) (p : Pos) : Expr → Bool
  | .ListComp _ _ s q => plocB sc x && (p.line == q.line) && !(s.names.any fun (n, k) => n == x && (k == .local || k == .cell))
  | _ => false
def noComp : Expr → Bool
  | .SetComp .. => false
  | .DictComp .. => false
  | _ => true
def isLc : Expr → Bool
  | .ListComp .. => true
  | _ => false
theorem sw_no {env : PySem.Env} {x : Str} {p : Pos} {e : Expr} {l : Nat} (hk : env.scope.kind = .function) (h : swB env.scope x p e = false) (hc : noComp e = true) : swapsWith e (some (.Name x p)) l env = pure false := by
  cases e <;> first | rfl | (cases hc) | skip
  rename_i elt gs s q
  simp only [swB] at h
  have hb : env.blockKind = .function := by unfold Env.blockKind; rw [hk]; rfl
  show pure _ = pure false
  congr 1
  rw [← h, hb]
  have hp : (env.kindOf x == some .local) = plocB env.scope x := by
    show (env.scope.names.lookup x == some .local) = _
    unfold plocB
    cases env.scope.names.lookup x with
    | none => rfl
    | some kd => cases kd <;> rfl
  rw [hp]
  rfl
theorem sw_yes {env : PySem.Env} {x : Str} {p q : Pos} {elt : Expr} {gs : List Comprehension} {s : Scope} {l : Nat} (hk : env.scope.kind = .function) (h : swB env.scope x p (.ListComp elt gs s q) = true) : swapsWith (.ListComp elt gs s q) (some (.Name x p)) l env = pure true ∧ env.scope.names.lookup x = some .local := by
  simp only [swB, Bool.and_eq_true, Bool.not_eq_true'] at h
  exact ⟨sw_true hk (ploc_of h.1.1) h.1.2 h.2, ploc_of h.1.1⟩
theorem sw_none {env : PySem.Env} {e : Expr} {l : Nat} (h : noComp e = true) (h' : isLc e = false) : swapsWith e none l env = pure false := by
  cases e with
  | ListComp => cases h'
  | SetComp => cases h
  | DictComp => cases h
  | _ => rfl
theorem sw_sub {env : PySem.Env} {e o i : Expr} {p : Pos} {l : Nat} : swapsWithSole [.Subscript o i p] e l env = pure false ∧ swappedStores [.Subscript o i p] e env = pure none := by
  cases e <;> exact ⟨rfl, rfl⟩
theorem sw_tup {env : PySem.Env} {ts vs : List Expr} {k1 k2 : Nat} {p q : Pos} {l : Nat} : swapsWithSole [.Tuple ts k1 p] (.Tuple vs k2 q) l env = pure false := rfl
section
variable {X : Cx} {G : Gx} {C : Orc} {W : WX} {ck : Ck} {k : Nat} {a b c e : Expr} {es : List Expr} {ma mb mc me : Ex} {ms : Exs} {pos p q : Pos}
structure LcParts (X : Cx) (W : WX) (G : Gx) (C : Orc) (elt : Ex) (tg : List Nat) (it : It) (cond : OEx) (y t i : Expr) (ifs : List Expr) (scope : Scope) (own : List (Str × Nat)) : Prop where
  pi : PI X t i (TMI G C W it)
  blk : BlkOk X.N X.env.scope scope own
  own : own.map (·.2) = tg
  pg : ∀ (s : Shared) (H : Hp) (Cc : Addr) (cl : List (Str × Addr)) (fp : List Addr), PG (X.blk s H scope (compEnvC scope cl Cc X.env) fp) t (gT X.K tg)
  pts : ∀ (s : Shared) (H : Hp) (Cc : Addr) (cl : List (Str × Addr)) (fp : List Addr), PTs (X.blk s H scope (compEnvC scope cl Cc X.env) fp) ifs (TMC G C noW cond)
  pe : ∀ (s : Shared) (H : Hp) (Cc : Addr) (cl : List (Str × Addr)) (fp : List Addr), PE (X.blk s H scope (compEnvC scope cl Cc X.env) fp) y (TM G C noW elt)
  fold : ∀ x, foldedSetIterable i X.env x = pure x
  len : tg.length = if pairI it then 2 else 1
theorem lc_parts (g : Good X G C W ck k) {elt : Ex} {tg : List Nat} {it : It} {cond : OEx} (h : chkE ck X.env.scope (.lc elt tg it cond) e = true) :
    ∃ y t i ifs scope pos own, e = .ListComp y [⟨t, i, ifs, 0⟩] scope pos ∧ LcParts X W G C elt tg it cond y t i ifs scope own := by
  simp only [chkE] at h
  split at h
  · rename_i y t i ifs n scope pos
    simp only [Bool.and_eq_true, decide_eq_true_eq] at h
    obtain ⟨rfl, h⟩ := h
    split at h
    · rename_i xs hxs
      simp only [Bool.and_eq_true, decide_eq_true_eq] at h
      obtain ⟨⟨⟨⟨⟨⟨⟨⟨h1, h2⟩, h3⟩, h4⟩, h5⟩, h6⟩, h7⟩, h8⟩, h9⟩ := h
      have hN : X.N.Nodup := by rw [g.hN]; exact g.nd
      rw [← g.hN] at h3
      refine ⟨y, t, i, ifs, scope, pos, xs.zip tg, rfl, ?_, blkOk_by h3, zip_snd h1, ?_, ?_, ?_, plain_fold h6, h2⟩
      · refine sndI it X W i t g h7 ?_
        cases hp : pairI it
        · exact .inl rfl
        · right
          rw [hp] at h2
          unfold tgNames at hxs
          split at hxs
          · cases hxs; simp at h1; rw [← h1] at h2; simp at h2
          · exact ⟨_, _, _, rfl⟩
          · cases hxs
      · exact fun s H Cc cl fp => s_tg (X := X.blk s H scope (compEnvC scope cl Cc X.env) fp) g.calm hN hxs h1 (blk_ix h3) fun x hx => own_of (List.all_eq_true.mp h4 x hx)
      · intro s H Cc cl fp
        have gb := g.blk s H scope (compEnvC scope cl Cc X.env) fp
        split at h8
        · exact sndC cond _ noW none gb h8
        · exact sndC cond _ noW (some _) gb h8
        · cases h8
      · exact fun s H Cc cl fp => (sndE elt _ noW y (g.blk s H scope (compEnvC scope cl Cc X.env) fp) h9).pe
    · cases h
  · cases h
def del (H : Hp) (D : Addr) : Hp := fun b => if b = D then none else H b
theorem del_ne {H : Hp} {D b : Addr} (h : b ≠ D) : del H D b = H b := by simp [del, h]
theorem del_same {H : Hp} {D : Addr} : del H D D = none := by simp [del]
theorem upd_del {H : Hp} {D : Addr} {o : HO} (h : H D = some o) : upd (del H D) D o = H := by
  funext b
  by_cases e : b = D
  · subst e; rw [upd_same, h]
  · rw [upd_ne e, del_ne e]
theorem sqT_del {K : PySem.W.Frag} {H : Hp} {D a : Addr} {ys zs : List V} (hD : H D = some (.lst ys)) (h : SqT K H a zs) : SqT K (del H D) a zs := by
  rcases h with (h | ⟨o, h⟩) | h
  · exact .inl (.inl (by rw [del_ne (fun e => by rw [e, hD] at h; cases h)]; exact h))
  · exact .inl (.inr ⟨o, by rw [del_ne (fun e => by rw [e, hD] at h; cases h)]; exact h⟩)
  · exact .inr h
mutual
theorem RvP.del {μ : Mu} {H : Hp} {D : Addr} {ys : List V} (hD : H D = some (.lst ys)) : ∀ (v : Val) (x : V), RvP G (μ ++ [(D, D)]) H v x → RvP G μ (Sw.del H D) v x
  | .non, x, h => by simpa only [RvP] using h
  | .bl _, x, h => by simpa only [RvP] using h
  | .int _, x, h => by simpa only [RvP] using h
  | .str _, x, h => by simpa only [RvP] using h
  | .tup xs, x, h => by
    simp only [RvP] at h ⊢
    obtain ⟨a, zs, e, h1, h2⟩ := h
    exact ⟨a, zs, e, sqT_del hD h1, RvPs.del hD xs zs h2⟩
  | .lst xs, x, h => by
    simp only [RvP] at h ⊢
    obtain ⟨a, zs, e, h1, n, h2⟩ := h
    refine ⟨a, zs, e, ?_, fun z => n (own_append.mpr (.inl z)), RvPs.del hD xs zs h2⟩
    rw [del_ne (fun z => n (own_append.mpr (.inr (.inl z))))]
    exact h1
  | .slst _, x, h => by simp only [RvP] at h
  | .fn _, x, h => by simpa only [RvP] using h
  | .box _, x, h => by simp only [RvP] at h
theorem RvPs.del {μ : Mu} {H : Hp} {D : Addr} {ys : List V} (hD : H D = some (.lst ys)) : ∀ (vs : List Val) (xs : List V), RvPs G (μ ++ [(D, D)]) H vs xs → RvPs G μ (Sw.del H D) vs xs
  | [], xs, h => by simpa only [RvPs] using h
  | v :: vs, xs, h => by
    simp only [RvPs] at h ⊢
    obtain ⟨y, r, e, h1, h2⟩ := h
    exact ⟨y, r, e, RvP.del hD v y h1, RvPs.del hD vs r h2⟩
end
/-- the last cell taken away -/
theorem unboxD {μ1 μ : Mu} {st1 st : Store} {H1 H : Hp} {D : Addr} {acc : List Val} (S1 : StOk G μ1 st1 H1) (hD : H1 D = none) (hl : st.length = st1.length) (S : StOk G (μ ++ [(D, D)]) (st ++ [.list acc]) H) (t : Step (μ1 ++ [(D, D)]) (st1 ++ [.list []]) (upd H1 D (.lst [])) (μ ++ [(D, D)]) (st ++ [.list acc]) H) :
    ∃ ys, H D = some (.lst ys) ∧ Step μ1 st1 H1 μ st (Sw.del H D) ∧ StOk G μ st (Sw.del H D) ∧ RvPs G μ (Sw.del H D) acc ys := by
  have el : μ.length = st.length := by have := S.len; simp at this; exact this
  obtain ⟨_, ys, hy1, hy2⟩ := S.cell μ.length (D, D) (.list acc) (by simp) (by rw [el]; simp)
  have hne : ∀ (n : Nat) p, μ[n]? = some p → p.1 ≠ D ∧ p.2 ≠ D := fun n p h => by
    have hn : n < μ.length := (List.getElem?_eq_some_iff.mp h).1
    have := S.sep n μ.length p (D, D) (by rw [List.getElem?_append_left hn]; exact h) (by simp) (by omega)
    exact ⟨this.1, this.2.2.1⟩
  obtain ⟨u1, u2, u3⟩ := unbox S1 hD hl S t
  refine ⟨ys, hy1, ⟨u1.len, u1.fst, fun a o h w => ?_, u1.gen⟩, ⟨el, fun n p c h1 h2 => ?_, u2.sep⟩, RvPs.del hy1 _ _ hy2⟩
  · obtain ⟨k1, k2⟩ := u1.frame a o h w
    exact ⟨by rw [del_ne (fun e => by rw [e, hD] at h; cases h)]; exact k1, k2⟩
  · have hn : n < μ.length := (List.getElem?_eq_some_iff.mp h1).1
    obtain ⟨d1, d2⟩ := hne n p h1
    have hc := S.cell n p c (by rw [List.getElem?_append_left hn]; exact h1) (by rw [List.getElem?_append_left (by omega)]; exact h2)
    cases c with
    | list xs =>
      obtain ⟨e, zs, h3, h4⟩ := hc
      exact ⟨e, zs, by rw [del_ne d1]; exact h3, RvPs.del hy1 _ _ h4⟩
    | tun path kept gen =>
      obtain ⟨dx, h3, h4⟩ := hc
      refine ⟨dx, by rw [del_ne d1]; exact h3, ?_⟩
      cases path with
      | none => exact h4
      | some xs =>
        obtain ⟨zs, h5, h6⟩ := h4
        exact ⟨zs, by rw [del_ne d2]; exact h5, RvPs.del hy1 _ _ h6⟩
theorem lc_rdB {me : Ex} {tg : List Nat} {mi : It} {mc : OEx} (hlen : tg.length = if pairI mi then 2 else 1) {σ : LSt} {H : Hp} {Q : VK} (h : TMB G C W (.lc me tg mi mc) σ H Q) :
    tLc (TMI G C W mi) (gT G.K tg) (TMC G C noW mc) (TM G C noW me) tg σ H Q := by
  obtain ⟨μ, ρ, st, S, E, h⟩ := h
  simp only [ev] at h
  refine tmi_in S E h fun is μ1 st1 H1 t1 S1 E1 h1 J hJ => ?_
  split at h1
  rotate_left 1
  · exact h1.elim
  rename_i hlim
  change RPost G μ1 st1 H1 σ W ((compLoop is.2 (lcF C mc me ρ tg) is.1 st1 []).bind _) _ at h1
  cases hr : compLoop is.2 (lcF C mc me ρ tg) is.1 st1 [] with
  | bad => rw [hr] at h1; exact h1.elim
  | exc c s => exact absurd hr (compLoop_noexc _ _ _)
  | ok xsF stF =>
    rw [hr] at h1
    refine lc_go hlen S1 E1 hJ hr fun D μ' Hh hD hl' S' t' => ?_
    obtain ⟨ys, u0, u1, u2, u3⟩ := unboxD S1 hD hl' S' t'
    obtain ⟨xs, ex, q⟩ := h1 μ' _ u1 u2
    cases ex
    have := new_box u2 u3 q D del_same
    rw [upd_del u0] at this
    exact this
end
def allLoc (sc : Scope) (line : Nat) (ts : List (Str × Pos)) : Bool := ts.all fun t => plocB sc t.1 && (t.2.line == line)
def swT (sc : Scope) (ts : List (Str × Pos)) (vs : List Expr) : Option Bool :=
  if allLoc sc ((ts.head?.map (·.2.line)).getD 0) ts then (if vs.all (foldedForSure 8) then some false else if vs.all (constantsAlone 8) then none else some true) else some false
theorem kind_ploc {env : PySem.Env} {x : Str} : (env.kindOf x == some .local) = plocB env.scope x := by
  show (env.scope.names.lookup x == some .local) = _
  unfold plocB
  cases env.scope.names.lookup x with
  | none => rfl
  | some kd => cases kd <;> rfl
theorem no_star : ∀ e : Expr, plainE e = true → (match e with | .Starred .. => true | _ => false) = false := fun e h => by
  cases e <;> first | rfl | cases h
theorem sw_two {env : PySem.Env} {x y : Str} {px py pt q : Pos} {a b : Expr} {kt k2 : Nat} {r : Bool} (hk : env.scope.kind = .function) (ha : plainE a = true) (hb : plainE b = true) (hxy : x ≠ y) (h : swT env.scope [(x, px), (y, py)] [a, b] = some r) :
    swappedStores [.Tuple [.Name x px, .Name y py] kt pt] (.Tuple [a, b] k2 q) env = pure (if r then some [x, y] else none) := by
  have hbk : env.blockKind = .function := by unfold PySem.Env.blockKind; rw [hk]; rfl
  unfold swT allLoc at h
  simp only [List.head?_cons, Option.map_some, Option.getD_some, List.all_cons, List.all_nil, Bool.and_true, beq_self_eq_true] at h
  unfold swappedStores
  have na := no_star a ha
  have nb := no_star b hb
  simp only [hbk, List.any_cons, List.any_nil, List.head?_cons, Option.map_some, Option.getD_some, kind_ploc, List.filterMap_cons, List.filterMap_nil, List.all_cons, List.all_nil, Bool.and_true]
  have hp : (Expr.Name x px).pos.line = px.line := rfl
  have hxy' : (x == y) = false := by simpa using hxy
  rw [if_neg (by simp), if_neg (fun w => by
    simp only [Bool.or_false, Bool.or_eq_true] at w
    rcases w with w | w
    · exact absurd (na.symm.trans w) (by decide)
    · exact absurd (nb.symm.trans w) (by decide))]
  simp only [hp, beq_self_eq_true, Bool.and_true]
  generalize plocB env.scope x = b1 at h ⊢
  generalize plocB env.scope y = b2 at h ⊢
  generalize (py.line == px.line) = b3 at h ⊢
  generalize foldedForSure 8 a = b4 at h ⊢
  generalize foldedForSure 8 b = b5 at h ⊢
  generalize constantsAlone 8 a = b6 at h ⊢
  generalize constantsAlone 8 b = b7 at h ⊢
  have ed : [x, y].eraseDups = [x, y] := by simp [List.eraseDups_cons, hxy, Ne.symm hxy]
  cases b1 <;> cases b2 <;> cases b3 <;> simp [ed] at h ⊢ <;> (try (subst h; rfl))
  cases b4 <;> cases b5 <;> cases b6 <;> cases b7 <;> simp at h ⊢ <;> (subst h; rfl)
theorem sw_three {env : PySem.Env} {x y z : Str} {px py pz pt q : Pos} {a b c : Expr} {kt k2 : Nat} {r : Bool} (hk : env.scope.kind = .function) (ha : plainE a = true) (hb : plainE b = true) (hc : plainE c = true) (hxy : x ≠ y) (hxz : x ≠ z) (hyz : y ≠ z) (h : swT env.scope [(x, px), (y, py), (z, pz)] [a, b, c] = some r) :
    swappedStores [.Tuple [.Name x px, .Name y py, .Name z pz] kt pt] (.Tuple [a, b, c] k2 q) env = pure (if r then some [x, y, z] else none) := by
  have hbk : env.blockKind = .function := by unfold PySem.Env.blockKind; rw [hk]; rfl
  unfold swT allLoc at h
  simp only [List.head?_cons, Option.map_some, Option.getD_some, List.all_cons, List.all_nil, Bool.and_true, beq_self_eq_true] at h
  unfold swappedStores
  have na := no_star a ha
  have nb := no_star b hb
  have nc := no_star c hc
  simp only [hbk, List.any_cons, List.any_nil, List.head?_cons, Option.map_some, Option.getD_some, kind_ploc, List.filterMap_cons, List.filterMap_nil, List.all_cons, List.all_nil, Bool.and_true]
  have hp : (Expr.Name x px).pos.line = px.line := rfl
  rw [if_neg (by simp), if_neg (fun w => by
    simp only [Bool.or_false, Bool.or_eq_true] at w
    rcases w with w | w | w
    · exact absurd (na.symm.trans w) (by decide)
    · exact absurd (nb.symm.trans w) (by decide)
    · exact absurd (nc.symm.trans w) (by decide))]
  simp only [hp, beq_self_eq_true, Bool.and_true]
  generalize plocB env.scope x = b1 at h ⊢
  generalize plocB env.scope y = b2 at h ⊢
  generalize plocB env.scope z = b0 at h ⊢
  generalize (py.line == px.line) = b3 at h ⊢
  generalize (pz.line == px.line) = b8 at h ⊢
  generalize (foldedForSure 8 a && (foldedForSure 8 b && foldedForSure 8 c)) = b4 at h ⊢
  generalize (constantsAlone 8 a && (constantsAlone 8 b && constantsAlone 8 c)) = b6 at h ⊢
  have ed : [x, y, z].eraseDups = [x, y, z] := by simp [List.eraseDups_cons, hxy, Ne.symm hxy, hxz, Ne.symm hxz, hyz, Ne.symm hyz]
  cases b1 <;> cases b2 <;> cases b0 <;> cases b3 <;> cases b8 <;> simp [ed] at h ⊢ <;> (try (subst h; rfl))
  cases b4 <;> cases b6 <;> simp at h ⊢ <;> (subst h; rfl)
/-! ### a tuple taken apart -/
def gAll : List Nat → TGs
  | [] => gNil
  | i :: is => gCons (gName i) (gAll is)
section
variable {X : Cx} {G : Gx} {C : Orc} {W : WX} {ck : Ck} {k : Nat} {es : List Expr} {ms : Exs} {pos : Pos}
theorem par_rd {is : List Nat} {D : Ends} {σ : LSt} {H : Hp} (h : TMS G C W (.par is ms) D σ H) : TMA G C W ms σ H fun vs H1 => ∃ zs : List (Nat × V), zs.map (·.1) = is ∧ zs.map (·.2) = vs ∧ ∀ H2, (H2 = H1 ∨ ∃ p o, H1 p = none ∧ H2 = upd H1 p o) → D.nx (zs.foldl (fun s z => s.set z.1 (some z.2)) σ) H2 := by
  obtain ⟨μ, ρ, st, S, E, h⟩ := h
  simp only [exec] at h
  refine tsa_in S E h fun vs μ1 st1 H1 t1 S1 E1 h1 xs hxs => ?_
  split at h1
  · rename_i hl
    have hl2 : is.length = xs.length := by rw [hl, hxs.length]
    refine ⟨is.zip xs, ?_, ?_, fun H2 hH => ?_⟩
    · exact List.map_fst_zip (by omega)
    · exact List.map_snd_zip (by omega)
    · have key : ∀ (is : List Nat) (vs : List Val) (xs : List V) (ρ : Env) (σ : LSt) (H2 : Hp), is.length = vs.length → Rvs G μ1 H2 vs xs → EnvOk G μ1 H2 ρ σ → EnvOk G μ1 H2 (setAll ρ is vs) ((is.zip xs).foldl (fun s z => s.set z.1 (some z.2)) σ) := by
        intro is
        induction is with
        | nil => intro vs xs ρ σ H2 hl r e; cases vs <;> exact e
        | cons i is ih =>
          intro vs xs ρ σ H2 hl r e
          cases r with
          | nil => simp at hl
          | cons r1 r2 => exact ih _ _ _ _ _ (by simpa using hl) r2 (e.set r1 i)
      rcases hH with rfl | ⟨p, o, hn, rfl⟩
      · exact h1 μ1 _ _ Step.refl S1 (key is vs xs ρ σ _ hl hxs E1)
      · have t : Step μ1 st1 H1 μ1 st1 (upd H1 p o) := Step.alloc hn
        exact h1 μ1 _ _ t (S1.alloc hn) (key is vs xs ρ σ _ hl (hxs.step S1 t) (E1.step S1 t))
  · exact h1.elim
def nmsOf : List Expr → Option (List (Str × Pos))
  | [] => some []
  | .Name x p :: r => (nmsOf r).map ((x, p) :: ·)
  | _ => none
theorem nms_eq : ∀ {ts : List Expr} {xs : List (Str × Pos)}, nmsOf ts = some xs → ts = xs.map fun x => .Name x.1 x.2
  | [], xs, h => by simp [nmsOf] at h; subst h; rfl
  | t :: ts, xs, h => by
    cases t <;> simp only [nmsOf, reduceCtorEq] at h
    obtain ⟨r, e, rfl⟩ := Option.map_eq_some_iff.mp h
    rw [nms_eq e]
    rfl
theorem pgs_all (g : GoodS X G C W ck k) : ∀ {xs : List (Str × Pos)} {is : List Nat}, xs.length = is.length → (∀ p ∈ xs.zip is, ck.N[p.2]? = some p.1.1) → (∀ x ∈ xs, locB X.env.scope x.1 = true) → PGs X (xs.map fun x => .Name x.1 x.2) (gAll is)
  | [], [], _, _, _ => pgs_nil
  | x :: xs, i :: is, hl, hi, hx => by
    refine pgs_cons (pg_name g.N (by rw [g.hN]; exact hi (x, i) (by simp)) (loc_of (hx x (by simp))) (.inl (g.fn _))) (pgs_all g (by simpa using hl) (fun p hp => hi p (by simp [hp])) fun y hy => hx y (by simp [hy])) ?_
    rfl
theorem gAll_rd : ∀ {zs : List (Nat × V)} {σ : LSt} {H : Hp} {Q : LSt → Hp → Prop}, Q (zs.foldl (fun s z => s.set z.1 (some z.2)) σ) H → gAll (zs.map (·.1)) (zs.map (·.2)) σ H Q
  | [], σ, H, Q, h => ⟨rfl, h⟩
  | z :: zs, σ, H, Q, h => by
    refine ⟨z.2, zs.map (fun x => x.2), rfl, ?_⟩
    exact gAll_rd (zs := zs) h
theorem assignEach_len {env : PySem.Env} : ∀ (xs : List (Str × Pos)), (assignEach (xs.map fun x => Expr.Name x.1 x.2) env).length = xs.length ∧ (assignEach (xs.map fun x => Expr.Name x.1 x.2) env).findIdx? (·.1) = none
  | [] => ⟨rfl, rfl⟩
  | x :: xs => by
    obtain ⟨h1, h2⟩ := assignEach_len (env := env) xs
    have e : assignEach ((x :: xs).map fun x => Expr.Name x.1 x.2) env = (false, assign (.Name x.1 x.2) env) :: assignEach (xs.map fun x => Expr.Name x.1 x.2) env := rfl
    rw [e]
    refine ⟨by simp [h1], ?_⟩
    rw [List.findIdx?_cons]
    simp [h2]
theorem s_parG (g : GoodS X G C W ck k) {xs : List (Str × Pos)} {is : List Nat} {kt k2 : Nat} {pt q : Pos} (hl : xs.length = is.length) (hi : ∀ p ∈ xs.zip is, ck.N[p.2]? = some p.1.1) (hx : ∀ x ∈ xs, locB X.env.scope x.1 = true) (hlim : xs.length ≤ lim)
    (hw : swappedStores [.Tuple (xs.map fun x => .Name x.1 x.2) kt pt] (.Tuple es k2 q) X.env = pure none) (ha : PA X es (TMA G C W ms)) : PS X (.Assign [.Tuple (xs.map fun x => .Name x.1 x.2) kt pt] (.Tuple es k2 q) pos) (TMS G C W (.par is ms)) := by
  have hal := assignEach_len (env := X.env) xs
  refine (ps_asg (pe_tup ha) (pg_tup g.calm (pgs_all g hl hi hx) hal.1 hal.2) rfl hw rfl).mono fun D σ H h => ?_
  obtain ⟨μ, ρ, st, S, E, r⟩ := par_rd h
  refine ⟨μ, ρ, st, S, E, r.mono fun vs μ' st' H' t S' r vx hvx => ?_⟩
  obtain ⟨zs, e1, e2, q⟩ := r vx hvx
  have hle : vx.length = xs.length := by rw [← e2, hl, ← e1]; simp
  have := lim_le
  refine ⟨by omega, fun p hp => ⟨p, vx, rfl, SqT.of upd_same, hle, ?_⟩⟩
  subst e1
  subst e2
  exact gAll_rd (q _ (.inr ⟨p, _, hp, rfl⟩))
theorem s_par2 (g : GoodS X G C W ck k) {a b : Expr} {x y : Str} {i j : Nat} {kt k2 : Nat} {px py pt q : Pos} (hi : ck.N[i]? = some x) (hj : ck.N[j]? = some y) (hij : i ≠ j) (hx : plocB X.env.scope x = true) (hy : plocB X.env.scope y = true)
    (hw : swappedStores [.Tuple [.Name x px, .Name y py] kt pt] (.Tuple [a, b] k2 q) X.env = pure (some [x, y])) (ha : PA X [a, b] (TMA G C W ms)) : PS X (.Assign [.Tuple [.Name x px, .Name y py] kt pt] (.Tuple [a, b] k2 q) pos) (TMS G C W (.par [i, j] ms)) := by
  refine (ps_par g.calm g.N (by rw [g.hN]; exact hi) (by rw [g.hN]; exact hj) hij (ploc_of hx) (ploc_of hy) ha hw).mono fun D σ H h => ?_
  obtain ⟨μ, ρ, st, S, E, r⟩ := par_rd h
  refine ⟨μ, ρ, st, S, E, r.mono fun vs μ' st' H' t S' r vx hvx => ?_⟩
  obtain ⟨zs, e1, e2, q⟩ := r vx hvx
  match zs, e1 with
  | [z1, z2], e1 =>
    simp only [List.map_cons, List.map_nil, List.cons.injEq, and_true] at e1
    obtain ⟨rfl, rfl⟩ := e1
    exact ⟨z1.2, z2.2, e2.symm, q _ (.inl rfl)⟩
theorem s_par3 (g : GoodS X G C W ck k) {a b c : Expr} {x y z : Str} {i j l : Nat} {kt k2 : Nat} {px py pz pt q : Pos} (hi : ck.N[i]? = some x) (hj : ck.N[j]? = some y) (hl : ck.N[l]? = some z) (hij : i ≠ j) (hil : i ≠ l) (hjl : j ≠ l) (hx : plocB X.env.scope x = true) (hy : plocB X.env.scope y = true) (hz : plocB X.env.scope z = true)
    (hw : swappedStores [.Tuple [.Name x px, .Name y py, .Name z pz] kt pt] (.Tuple [a, b, c] k2 q) X.env = pure (some [x, y, z])) (ha : PA X [a, b, c] (TMA G C W ms)) : PS X (.Assign [.Tuple [.Name x px, .Name y py, .Name z pz] kt pt] (.Tuple [a, b, c] k2 q) pos) (TMS G C W (.par [i, j, l] ms)) := by
  refine (ps_par3 g.calm g.N (by rw [g.hN]; exact hi) (by rw [g.hN]; exact hj) (by rw [g.hN]; exact hl) hij hil hjl (ploc_of hx) (ploc_of hy) (ploc_of hz) ha hw).mono fun D σ H h => ?_
  obtain ⟨μ, ρ, st, S, E, r⟩ := par_rd h
  refine ⟨μ, ρ, st, S, E, r.mono fun vs μ' st' H' t S' r vx hvx => ?_⟩
  obtain ⟨zs, e1, e2, q⟩ := r vx hvx
  match zs, e1 with
  | [z1, z2, z3], e1 =>
    simp only [List.map_cons, List.map_nil, List.cons.injEq, and_true] at e1
    obtain ⟨rfl, rfl, rfl⟩ := e1
    exact ⟨z1.2, z2.2, z3.2, e2.symm, q _ (.inl rfl)⟩
end
/-! ### the checker -/
theorem sw_attr {env : PySem.Env} {e o : Expr} {f : Str} {p : Pos} {l : Nat} (h : isLc e = false) : swapsWith e (some (.Attribute o f p)) l env = pure false := by
  cases e <;> first | rfl | (simp [isLc] at h)
def fsetOk : Ex → Bool
  | .lst _ => true
  | .fsl _ _ _ => true
  | .flist _ => true
  | _ => false
def boxable : Ex → Bool
  | .lst _ => true
  | .lc _ _ _ _ => true
  | .b1 .list _ => true
  | _ => false
/-- a name's store -/
def chkSet (k : Ck) (sc : Scope) (i : Nat) (e : Ex) (x : Str) (p : Pos) (v : Expr) : Bool :=
  decide (k.N[i]? = some x) && locB sc x && chkE k sc e v && noComp v
def chkPar (k : Ck) (sc : Scope) (is : List Nat) (ms : Exs) (ts vs : List Expr) : Bool := match nmsOf ts with
  | some xs => decide (xs.length = is.length) && decide (xs.length ≤ lim) && (xs.zip is).all (fun p => decide (k.N[p.2]? = some p.1.1)) && xs.all (fun x => locB sc x.1) && decide is.Nodup && decide ((xs.map (·.1)).Nodup) && (swT sc xs vs).isSome && chkA k sc ms vs && (decide (xs.length = 2) || decide (xs.length = 3)) && decide (vs.length = xs.length)
  | none => false
mutual
def chkS (k : Ck) (sc : Scope) : St → Stmt → Bool
  | .set i e, s => (match s with
    | .Assign [.Name x p] v _ => chkSet k sc i e x p v
    | _ => false)
  | .boxset i e, s => (match s with
    | .Assign [.Name x p] v _ => boxable e && chkSet k sc i e x p v
    | _ => false)
  | .par is es, s => (match s with
    | .Assign [.Tuple ts _ _] (.Tuple vs _ _) _ => chkPar k sc is es ts vs
    | _ => false)
  | .aug i o e, s => (match s with
    | .AugAssign (.Name x _) op v _ => decide (k.N[i]? = some x) && locB sc x && bopB o op && (o == .add || o == .sub) && chkE k sc e v
    | _ => false)
  | .setidx o i e, s => (match s with
    | .Assign [.Subscript ov iv _] v _ => plainE iv && chkE k sc e v && chkE k sc o ov && chkE k sc i iv
    | _ => false)
  | .app o e, s => (match s with
    | .Expr (.Call (.Attribute r m ap) [y] [] cp) _ => decide (m = "append") && recvB r && (ap.endLine == cp.line) && plainE y && chkE k sc o r && chkE k sc e y
    | _ => false)
  | .ext o e, s => (match s with
    | .Expr (.Call (.Attribute r m ap) [y] [] cp) _ => decide (m = "extend") && recvB r && (ap.endLine == cp.line) && plainE y && chkE k sc o r && chkE k sc e y
    | _ => false)
  | .expr e, s => (match s with
    | .Expr v _ => noComp v && !isLc v && chkE k sc e v
    | _ => false)
  | .ret e, s => (match s with
    | .Return (some v) _ => chkE k sc e v
    | _ => false)
  | .ife c a b, s => (match s with
    | .If t x y _ => isBool c && chkE k sc c t && chkSs k sc a x && chkSs k sc b y
    | _ => false)
  | .for_ tg it body, s => (match s with
    | .For t i x [] _ => (match tgNames t with
      | some xs => decide (xs.length = tg.length) && decide (tg.length = if pairI it then 2 else 1) && (xs.zip tg).all (fun p => decide (k.N[p.2]? = some p.1)) && xs.all (locB sc) && plainE i && chkI k sc it i && chkSs k sc body x
      | none => false)
    | _ => false)
  | .while_ c body, s => (match s with
    | .While t x [] _ => isBool c && chkE k sc c t && chkSs k sc body x
    | _ => false)
  | .raise c, s => (match s with
    | .Raise (some (.Call (.Name x _) [.Constant (.str _) _ _] [] _)) none _ => decide (c < 9) && k.xs c && decide (x = excNm c) && glB sc x
    | _ => false)
  | .tryw i body, s => (match s with
    | .Try b [.ExceptHandler (some (.Name w _)) (some n) [.Return (some (.Call (.Name f _) [.Name m _] [] _)) _] _] [] [] _ => k.xs 9 && decide (w = "WaveError") && decide (f = "_law_which") && decide (m = n) && decide (k.N[i]? = some n) && plocB sc n && okName n && glB sc "WaveError" && glB sc "_law_which" && chkSs k sc body b
    | _ => false)
  | .fset o e, s => (match s with
    | .Assign [.Attribute (.Name x np) y _] v _ => decide (y = "functions") && k.av .t_init && isVar o && fsetOk e && !isLc v && chkE k sc o (.Name x np) && chkE k sc e v
    | _ => false)
  | .kset o e, s => (match s with
    | .Assign [.Attribute (.Name x np) y _] v _ => decide (y = "kept") && k.av .t_init && !isLc v && chkE k sc o (.Name x np) && chkE k sc e v
    | _ => false)
  | .fapp o e, s => (match s with
    | .Expr (.Call (.Attribute (.Attribute (.Name x np) y _) m ap) [v] [] cp) _ => decide (y = "functions") && decide (m = "append") && k.av .t_init && (ap.endLine == cp.line) && plainE v && chkE k sc o (.Name x np) && chkE k sc e v
    | _ => false)
def chkSs (k : Ck) (sc : Scope) : Sts → List Stmt → Bool
  | .nil, [] => true
  | .cons m ms, s :: ss => chkS k sc m s && chkSs k sc ms ss
  | _, _ => false
end
section
variable {X : Cx} {G : Gx} {C : Orc} {W : WX} {ck : Ck} {k : Nat}
theorem s_setAny (g : GoodS X G C W ck k) {i : Nat} {e : Ex} {x : Str} {p pos : Pos} {v : Expr} (h : chkSet ck X.env.scope i e x p v = true) : PS X (.Assign [.Name x p] v pos) (TMS G C W (.set i e)) := by
  simp only [chkSet, Bool.and_eq_true, decide_eq_true_eq] at h
  obtain ⟨⟨⟨h1, h2⟩, h3⟩, h4⟩ := h
  cases hsw : swB X.env.scope x p v with
  | false => exact s_set g h1 h2 (sw_no g.kd hsw h4) (sndE e X W v g.toGood h3).pe
  | true =>
    cases v <;> simp only [swB, reduceCtorEq] at hsw
    rename_i elt gs sco vp
    have hsw' : swB X.env.scope x p (.ListComp elt gs sco vp) = true := by simpa only [swB] using hsw
    cases e
    case lc me tg it cond =>
      obtain ⟨y, t, i', ifs, scope, pos', own, e1, q⟩ := lc_parts (W := W) g.toGood h3
      cases e1
      obtain ⟨w1, w2⟩ := sw_yes (l := pos.line) g.kd hsw'
      have key := ps_setLc (spos := pos) g.calm g.N (by rw [g.hN]; exact h1) w2 w1 q.pi q.blk q.pg q.pts q.pe q.fold
      rw [q.own] at key
      refine key.mono fun D σ H h => ?_
      have h := set_rd h
      rw [g.K]
      exact lc_rd q.len h
    all_goals exact absurd h3 (by simp [chkE])
theorem s_boxAny (g : GoodS X G C W ck k) {i : Nat} {e : Ex} {x : Str} {p pos : Pos} {v : Expr} (hb : boxable e = true) (h : chkSet ck X.env.scope i e x p v = true) : PS X (.Assign [.Name x p] v pos) (TMS G C W (.boxset i e)) := by
  simp only [chkSet, Bool.and_eq_true, decide_eq_true_eq] at h
  obtain ⟨⟨⟨h1, h2⟩, h3⟩, h4⟩ := h
  have lcs : ∀ me tg it cond, e = .lc me tg it cond → PS X (.Assign [.Name x p] v pos) (TMS G C W (.boxset i e)) := by
    rintro me tg it cond rfl
    obtain ⟨y, t, i', ifs, scope, pos', own, rfl, q⟩ := lc_parts (W := W) g.toGood h3
    cases hsw : swB X.env.scope x p (.ListComp y [⟨t, i', ifs, 0⟩] scope pos') with
    | true =>
      obtain ⟨w1, w2⟩ := sw_yes (l := pos.line) g.kd hsw
      have key := ps_setLc (spos := pos) g.calm g.N (by rw [g.hN]; exact h1) w2 w1 q.pi q.blk q.pg q.pts q.pe q.fold
      rw [q.own] at key
      refine key.mono fun D σ H h => ?_
      have h := boxset_rd h
      rw [g.K]
      exact lc_rdB q.len h
    | false =>
      have key := pe_lc (pos := pos') g.calm g.N q.pi q.blk q.pg q.pts q.pe q.fold
      rw [q.own] at key
      exact s_boxset g h1 h2 (sw_no g.kd hsw rfl) (key.mono fun σ H Q r => by rw [g.K]; exact lc_rdB q.len r)
  cases e <;> simp only [boxable, reduceCtorEq] at hb
  · rename_i f a
    cases f <;> simp only [boxable, reduceCtorEq] at hb
    simp only [chkE] at h3
    split at h3
    · simp only [Bool.and_eq_true, decide_eq_true_eq] at h3
      obtain ⟨⟨⟨rfl, k2⟩, k3⟩, k4⟩ := h3
      exact s_boxset g h1 h2 (sw_no g.kd rfl rfl) (b_list g k2 k3 (sndE a X W _ g.toGood k4).pe)
    · cases h3
  · simp only [chkE] at h3
    split at h3
    · exact s_boxset g h1 h2 (sw_no g.kd rfl rfl) (b_lst (sndA _ X W _ g.toGood h3))
    · cases h3
  · exact lcs _ _ _ _ rfl
theorem s_parAny (g : GoodS X G C W ck k) {is : List Nat} {ms : Exs} {ts vs : List Expr} {kt k2 : Nat} {pt q pos : Pos} (h : chkPar ck X.env.scope is ms ts vs = true) : PS X (.Assign [.Tuple ts kt pt] (.Tuple vs k2 q) pos) (TMS G C W (.par is ms)) := by
  unfold chkPar at h
  split at h
  · rename_i xs hxs
    have ets := nms_eq hxs
    subst ets
    simp only [Bool.and_eq_true, decide_eq_true_eq, List.all_eq_true, Bool.or_eq_true] at h
    obtain ⟨⟨⟨⟨⟨⟨⟨⟨⟨h1, h2⟩, h3⟩, h4⟩, h5⟩, h6⟩, h7⟩, h8⟩, h9⟩, h10⟩ := h
    have ha := sndA ms X W vs g.toGood h8
    have hpl := chkA_plain h8
    obtain ⟨r, hr⟩ := Option.isSome_iff_exists.mp h7
    rcases h9 with h9 | h9
    · match xs, is, vs, h9, h1, h10 with
      | [x, y], [i, j], [a, b], _, _, _ =>
        simp only [List.all_cons, List.all_nil, Bool.and_true, Bool.and_eq_true] at hpl
        simp only [List.map_cons, List.map_nil, List.nodup_cons, List.mem_singleton, List.not_mem_nil, not_false_eq_true, List.nodup_nil, and_true] at h5 h6
        have hw := sw_two (kt := kt) (k2 := k2) (pt := pt) (q := q) g.kd hpl.1 hpl.2 h6 hr
        cases r with
        | true =>
          have hloc : plocB X.env.scope x.1 = true ∧ plocB X.env.scope y.1 = true := by
            unfold swT allLoc at hr
            split at hr
            · rename_i hz
              simp only [List.all_cons, List.all_nil, Bool.and_true, Bool.and_eq_true] at hz
              exact ⟨hz.1.1, hz.2.1⟩
            · cases hr
          exact s_par2 g (h3 (x, i) (by simp)) (h3 (y, j) (by simp)) h5 hloc.1 hloc.2 hw ha
        | false => exact s_parG g rfl h3 h4 h2 hw ha
    · match xs, is, vs, h9, h1, h10 with
      | [x, y, z], [i, j, l], [a, b, c], _, _, _ =>
        simp only [List.all_cons, List.all_nil, Bool.and_true, Bool.and_eq_true] at hpl
        simp only [List.map_cons, List.map_nil, List.nodup_cons, List.mem_cons, List.mem_singleton, List.not_mem_nil, not_false_eq_true, List.nodup_nil, and_true, not_or, or_false] at h5 h6
        have hw := sw_three (kt := kt) (k2 := k2) (pt := pt) (q := q) g.kd hpl.1 hpl.2.1 hpl.2.2 h6.1.1 h6.1.2 h6.2 hr
        cases r with
        | true =>
          have hloc : plocB X.env.scope x.1 = true ∧ plocB X.env.scope y.1 = true ∧ plocB X.env.scope z.1 = true := by
            unfold swT allLoc at hr
            split at hr
            · rename_i hz
              simp only [List.all_cons, List.all_nil, Bool.and_true, Bool.and_eq_true] at hz
              exact ⟨hz.1.1, hz.2.1.1, hz.2.2.1⟩
            · cases hr
          exact s_par3 g (h3 (x, i) (by simp)) (h3 (y, j) (by simp)) (h3 (z, l) (by simp)) h5.1.1 h5.1.2 h5.2 hloc.1 hloc.2.1 hloc.2.2 hw ha
        | false => exact s_parG g rfl h3 h4 h2 hw ha
  · cases h
/-- the def that tells which exception it was stands, if it is asked for -/
def WhX (X : Cx) (G : Gx) (ck : Ck) : Prop := ck.xs 9 = true → X.stack = X.env :: X.outer ∧ X.env.frame = some X.env.locals ∧ ∃ (fw we : Addr) (fd : FuncData), FnP X.prog X.w X.K X.mg X.base fw fd ["e"] (spW G.ex) ∧ X.mg "_law_which" = some (.ref fw) ∧ PySem.W.keepIn X.K (.ref fw) = true ∧ Binds X.K fd ["e"] [] ∧
  X.mg "WaveError" = some (.ref we) ∧ ∀ c < 9, PySem.W.exmOne X.K (.ref (G.ex c)) (.ref we) = some true
mutual
theorem sndS : ∀ (m : St) (X : Cx) (W : WX) (s : Stmt), GoodS X G C W ck k → WhX X G ck → chkS ck X.env.scope m s = true → PS X s (TMS G C W m)
  | .set i e, X, W, s, g, gw, h => by
    simp only [chkS] at h
    split at h
    · exact s_setAny g h
    · cases h
  | .boxset i e, X, W, s, g, gw, h => by
    simp only [chkS] at h
    split at h
    · simp only [Bool.and_eq_true] at h
      exact s_boxAny g h.1 h.2
    · cases h
  | .par is es, X, W, s, g, gw, h => by
    simp only [chkS] at h
    split at h
    · exact s_parAny g h
    · cases h
  | .aug i o e, X, W, s, g, gw, h => by
    simp only [chkS] at h
    split at h
    · simp only [Bool.and_eq_true, decide_eq_true_eq, Bool.or_eq_true, beq_iff_eq] at h
      obtain ⟨⟨⟨⟨h1, h2⟩, h3⟩, h4⟩, h5⟩ := h
      have := bop_of h3
      subst this
      exact s_aug g h4 h1 h2 (sndE e X W _ g.toGood h5).pe
    · cases h
  | .setidx o i e, X, W, s, g, gw, h => by
    simp only [chkS] at h
    split at h
    · simp only [Bool.and_eq_true] at h
      obtain ⟨⟨⟨h1, h2⟩, h3⟩, h4⟩ := h
      exact s_setidx g h1 sw_sub.1 (sw_sub (l := 0)).2 (sndE e X W _ g.toGood h2).pe (sndE o X W _ g.toGood h3).pe (sndE i X W _ g.toGood h4).pe
    · cases h
  | .app o e, X, W, s, g, gw, h => by
    simp only [chkS] at h
    split at h
    · simp only [Bool.and_eq_true, decide_eq_true_eq] at h
      obtain ⟨⟨⟨⟨⟨rfl, h2⟩, h3⟩, h4⟩, h5⟩, h6⟩ := h
      exact s_app g h2 h3 h4 (sndE o X W _ g.toGood h5).pe (sndE e X W _ g.toGood h6).pe
    · cases h
  | .ext o e, X, W, s, g, gw, h => by
    simp only [chkS] at h
    split at h
    · simp only [Bool.and_eq_true, decide_eq_true_eq] at h
      obtain ⟨⟨⟨⟨⟨rfl, h2⟩, h3⟩, h4⟩, h5⟩, h6⟩ := h
      exact s_ext g h2 h3 h4 (sndE o X W _ g.toGood h5).pe (sndE e X W _ g.toGood h6).pe
    · cases h
  | .expr e, X, W, s, g, gw, h => by
    simp only [chkS] at h
    split at h
    · simp only [Bool.and_eq_true, Bool.not_eq_true'] at h
      exact s_expr (sw_none h.1.1 h.1.2) (sndE e X W _ g.toGood h.2).pe
    · cases h
  | .ret e, X, W, s, g, gw, h => by
    simp only [chkS] at h
    split at h
    · exact s_ret (sndE e X W _ g.toGood h).pe
    · cases h
  | .ife c a b, X, W, s, g, gw, h => by
    simp only [chkS] at h
    split at h
    · simp only [Bool.and_eq_true] at h
      obtain ⟨⟨⟨h1, h2⟩, h3⟩, h4⟩ := h
      exact s_if ((sndE c X W _ g.toGood h2).pt h1) (sndSs a X W _ g gw h3) (sndSs b X W _ g gw h4)
    · cases h
  | .for_ tg it body, X, W, s, g, gw, h => by
    simp only [chkS] at h
    split at h
    · split at h
      · rename_i xs hxs
        simp only [Bool.and_eq_true, decide_eq_true_eq, List.all_eq_true] at h
        obtain ⟨⟨⟨⟨⟨⟨h1, h2⟩, h3⟩, h4⟩, h5⟩, h6⟩, h7⟩ := h
        refine s_for g h2 (sndI it X W _ _ g.toGood h6 ?_) (s_tg g.calm g.N hxs h1 (fun p hp => by rw [g.hN]; exact h3 p hp) fun x hx => ⟨loc_of (h4 x hx), .inl (g.fn x)⟩) (sndSs body X W _ g gw h7) (plain_fold h5)
        cases hp : pairI it
        · exact .inl rfl
        · right
          rw [hp] at h2
          unfold tgNames at hxs
          split at hxs
          · cases hxs; simp at h1; rw [← h1] at h2; simp at h2
          · exact ⟨_, _, _, rfl⟩
          · cases hxs
      · cases h
    · cases h
  | .while_ c body, X, W, s, g, gw, h => by
    simp only [chkS] at h
    split at h
    · simp only [Bool.and_eq_true] at h
      obtain ⟨⟨h1, h2⟩, h3⟩ := h
      exact s_while g ((sndE c X W _ g.toGood h2).pt h1) (sndSs body X W _ g gw h3)
    · cases h
  | .raise c, X, W, s, g, gw, h => by
    simp only [chkS] at h
    split at h
    · simp only [Bool.and_eq_true, decide_eq_true_eq] at h
      obtain ⟨⟨⟨h1, h0⟩, rfl⟩, h3⟩ := h
      exact s_raise g h1 h0 h3
    · cases h
  | .tryw i body, X, W, s, g, gw, h => by
    simp only [chkS] at h
    split at h
    · simp only [Bool.and_eq_true, decide_eq_true_eq] at h
      obtain ⟨⟨⟨⟨⟨⟨⟨⟨⟨h0, rfl⟩, rfl⟩, rfl⟩, h1⟩, h2⟩, h3⟩, h4⟩, h5⟩, h6⟩ := h
      obtain ⟨w1, w2, fw, we, fd, w3, w4, w5, w6, w7, w8⟩ := gw h0
      have hl : X.env.scope.names.lookup _ = some .local := ploc_of h2
      refine s_try w1 w2 g.N g.tk (by rw [g.hN]; exact h1) hl ((roomH_of g.room).mono (Nat.zero_le _)) w3 w4 w5 w6 (gl_of h5) (gl_of h4) w7 w8 (okN h3).1 (okN h3).2 ?_
      intro W' pn xe tk po
      exact sndSs body (X.tr pn xe) W' _ { fa := g.fa, hN := g.hN, nd := g.nd, calm := g.calm, room := g.room, tk := tk, po := po, kd := g.kd, fn := g.fn, ex := g.ex } gw h6
    · cases h
  | .fset o e, X, W, s, g, gw, h => by
    simp only [chkS] at h
    split at h
    · simp only [Bool.and_eq_true, decide_eq_true_eq] at h
      obtain ⟨⟨⟨⟨⟨⟨rfl, h2⟩, h3⟩, h4⟩, h5⟩, h6⟩, h7⟩ := h
      cases o <;> first | (simp [isVar] at h3; done) | skip
      have po := (sndE _ X W _ g.toGood h6).pe
      refine s_fset g h2 (sw_attr (by simpa using h5)) po ?_
      cases e <;> first | (simp [fsetOk] at h4; done) | skip
      · simp only [chkE] at h7
        split at h7
        · exact b_lst (sndA _ X W _ g.toGood h7)
        · cases h7
      · simp only [chkE] at h7
        split at h7
        · simp only [Bool.and_eq_true, decide_eq_true_eq] at h7
          obtain ⟨⟨⟨⟨rfl, q2⟩, q3⟩, q4⟩, q5⟩ := h7
          obtain ⟨ml, l1, l2⟩ := const_po (W := W) (G := G) (C := C) g.toGood q3
          obtain ⟨mh, u1, u2⟩ := const_po (W := W) (G := G) (C := C) g.toGood q4
          exact (n_fsl g.toGood q2 (sndE _ X W _ g.toGood q5).pe l1 u1 l2 u2).mono fun σ H Q q => tmb_tmn q
        · cases h7
      · simp only [chkE] at h7
        split at h7
        · simp only [Bool.and_eq_true, decide_eq_true_eq] at h7
          obtain ⟨⟨⟨⟨rfl, q2⟩, rfl⟩, q4⟩, q5⟩ := h7
          exact (n_flist g.toGood q4 q2 (sndE _ X W _ g.toGood q5).pe).mono fun σ H Q q => tmb_tmn q
        · cases h7
    · cases h
  | .kset o e, X, W, s, g, gw, h => by
    simp only [chkS] at h
    split at h
    · simp only [Bool.and_eq_true, decide_eq_true_eq] at h
      obtain ⟨⟨⟨⟨rfl, h2⟩, h3⟩, h4⟩, h5⟩ := h
      exact s_kset g h2 (sw_attr (by simpa using h3)) (sndE o X W _ g.toGood h4).pe (sndE e X W _ g.toGood h5).pe
    · cases h
  | .fapp o e, X, W, s, g, gw, h => by
    simp only [chkS] at h
    split at h
    · simp only [Bool.and_eq_true, decide_eq_true_eq] at h
      obtain ⟨⟨⟨⟨⟨⟨rfl, rfl⟩, h3⟩, h4⟩, h5⟩, h6⟩, h7⟩ := h
      exact s_fapp g h3 h4 h5 (sndE o X W _ g.toGood h6).pe (sndE e X W _ g.toGood h7).pe
    · cases h
theorem sndSs : ∀ (m : Sts) (X : Cx) (W : WX) (s : List Stmt), GoodS X G C W ck k → WhX X G ck → chkSs ck X.env.scope m s = true → PSs X s (TMSs G C W m)
  | .nil, X, W, [], g, gw, h => s_skip
  | .nil, X, W, _ :: _, g, gw, h => by simp [chkSs] at h
  | .cons m ms, X, W, [], g, gw, h => by simp [chkSs] at h
  | .cons m ms, X, W, s :: ss, g, gw, h => by
    simp only [chkSs, Bool.and_eq_true] at h
    exact s_seq (sndS m X W s g gw h.1) (sndSs ms X W ss g gw h.2)
end
end
end Sw
end

section
/-! SwBind: a def of plain parameters takes its arguments. -/
namespace Sw
open PySem L2
def plainP (ps : List Str) (a : Arguments) : Bool := a.posonlyargs.isEmpty && a.vararg.isNone && a.kwonlyargs.isEmpty && a.kwarg.isNone && a.kw_defaults.isEmpty && a.defaults.isEmpty && decide (a.args.map (·.arg) = ps)
theorem zip_lookup : ∀ {ps : List Str} {us : List Value}, us.length = ps.length → ∀ n ∈ ps, ((ps.zip us).lookup n).isNone = false
  | [], us, _, n, h => by simp at h
  | p :: ps, [], hl, n, h => by simp at hl
  | p :: ps, u :: us, hl, n, h => by
    simp only [List.zip_cons_cons, List.lookup_cons]
    cases hn : n == p with
    | true => rfl
    | false =>
      rcases List.mem_cons.mp h with rfl | h
      · simp at hn
      · exact zip_lookup (by simpa using hl) n h
theorem fm_congr {α β : Type} {f g : α → Option β} : ∀ {l : List α}, (∀ x ∈ l, f x = g x) → l.filterMap f = l.filterMap g
  | [], _ => rfl
  | x :: l, h => by
    simp only [List.filterMap_cons]
    rw [h x (by simp), fm_congr fun y hy => h y (by simp [hy])]
theorem zip_back : ∀ {ps : List Str} {us : List Value}, us.length = ps.length → ps.Nodup → ps.filterMap (fun n => ((ps.zip us).lookup n).map (n, ·)) = ps.zip us
  | [], us, _, _ => by simp
  | p :: ps, [], hl, _ => by simp at hl
  | p :: ps, u :: us, hl, hn => by
    have hn' := List.nodup_cons.mp hn
    simp only [List.zip_cons_cons, List.filterMap_cons, List.lookup_cons, beq_self_eq_true, Option.map_some]
    congr 1
    refine (fm_congr fun n hm => ?_).trans (zip_back (by simpa using hl) hn'.2)
    have : (n == p) = false := by
      rw [beq_eq_false_iff_ne]
      intro e
      exact hn'.1 (e ▸ hm)
    rw [this]
theorem bind_plain {name qual : Str} {params : Arguments} {body : List Stmt} {scope : Scope} {kV doc pm cdv ct : Value} {an : Option Addr} {ps : List Str} {us : List Value} (hp : plainP ps params = true) (hnd : ps.Nodup) (hl : us.length = ps.length) :
    bindArgs (PySem.W.fnOf name qual params body scope .none kV doc pm an cdv ct) ⟨us, []⟩ = pure (ps.zip us) := by
  simp only [plainP, Bool.and_eq_true, decide_eq_true_eq, List.isEmpty_iff, Option.isNone_iff_eq_none] at hp
  obtain ⟨⟨⟨⟨⟨⟨h1, h2⟩, h3⟩, h4⟩, h5⟩, h6⟩, h7⟩ := hp
  obtain ⟨po, as, va, ko, kd, kw, df⟩ := params
  simp only at h1 h2 h3 h4 h5 h6 h7
  subst h1 h2 h3 h4 h5 h6 h7
  unfold bindArgs PySem.W.fnOf
  have pb : ∀ {α β : Type} (a : α) (f : α → Sem β), (pure a >>= f) = f a := fun _ _ => rfl
  have e1 : seqItems? Value.none = pure none := rfl
  have hlt : ¬ us.length > (List.map (fun x => x.arg) as).length := by omega
  generalize hps : List.map (fun x : Arg => x.arg) as = ps at hl hlt hnd ⊢
  have hm : ps.filter (fun n => ((ps.zip us).lookup n).isNone) = [] := List.filter_eq_nil_iff.mpr fun n hn => by rw [zip_lookup hl n hn]; simp
  simp only [List.map_nil, List.nil_append, List.forIn_nil, e1, pb, Option.getD_none, List.length_nil, Nat.sub_zero, Nat.zero_sub, List.drop_nil, List.zip_nil_right, hps, List.drop_zero, List.take_length, decide_eq_false hlt, Bool.false_and, Bool.false_eq_true, if_false, hm, List.isEmpty_nil, Bool.not_true, List.append_nil]
  congr 1
  exact zip_back hl hnd
end Sw
end

section
/-! SwDef: defs; all levels. -/
namespace Sw
open PySem L2 L2H PyProof.Rows
section
variable {G : Gx} {μ μ' : Mu} {st st1 : Store} {H H' : Hp}
theorem fin_rv (S : StOk G μ st H) (t : Step μ st H μ' st1 H') (S' : StOk G μ' st1 H') {W : WX} {P : Val → Mu → Store → Hp → Prop} {keep : Bool} {v : Val} {x : V} (h : RPost G μ st H [] W (fin keep st.length v st1) P) (hx : Rv G μ' H' v x) :
    ∃ w μ2 st2, P w μ2 st2 H' ∧ Rv G μ2 H' w x := by
  unfold fin at h
  split at h
  · exact ⟨v, μ', st1, h μ' H' t S', hx⟩
  · obtain ⟨t2, S2⟩ := drop_cells S t S'
    have ow : ∀ a, Own (μ'.take st.length) a → Own μ' a := fun a x => own_take x
    split at h
    · rename_i n
      split at h
      · rename_i hn
        obtain ⟨p, h1, e⟩ := hx
        exact ⟨_, _, _, h _ H' t2 S2, p, get_take h1 hn, e⟩
      · rename_i hn
        split at h
        · rename_i xs hs
          obtain ⟨p, h1, e⟩ := hx
          obtain ⟨_, ys, h3, h4⟩ := S'.cell n p _ h1 hs
          refine ⟨_, _, _, h _ H' t2 S2, p.1, ys, e, h3, fun ⟨q, hq, w⟩ => ?_, RvPs.own ow _ _ h4⟩
          obtain ⟨m, hm⟩ := List.getElem?_of_mem hq
          obtain ⟨hm1, hm2⟩ := take_get hm
          have := S'.sep n m p q h1 hm1 (by omega)
          rcases w with w | w
          · exact this.1 w
          · exact this.2.1 w
        · exact h.elim
    · rename_i hb
      refine ⟨_, _, _, h _ H' t2 S2, ?_⟩
      cases v with
      | box n => exact absurd rfl (hb n)
      | slst xs =>
        obtain ⟨a, ys, e, h1, h2⟩ := hx
        exact ⟨a, ys, e, h1, RvPs.own ow _ _ h2⟩
      | non => exact RvP.own ow _ _ hx
      | bl _ => exact RvP.own ow _ _ hx
      | int _ => exact RvP.own ow _ _ hx
      | str _ => exact RvP.own ow _ _ hx
      | tup _ => exact RvP.own ow _ _ hx
      | lst _ => exact RvP.own ow _ _ hx
      | fn _ => exact RvP.own ow _ _ hx
end
theorem envOk_start {G : Gx} {μ : Mu} {H : Hp} {ms : List Val} {vs : List V} {n : Nat} {N : List Str} (hr : Rvs G μ H ms vs) (hn : ms.length + n ≤ N.length) : EnvOk G μ H (ms.map some ++ List.replicate n none) (L2.start N vs) := by
  have hl := hr.length
  have hget : ∀ {ms : List Val} {vs : List V} {i : Nat} {v : Val}, Rvs G μ H ms vs → ms[i]? = some v → ∃ x, vs[i]? = some x ∧ Rv G μ H v x := by
    intro ms
    induction ms with
    | nil => intro vs i v r e; simp at e
    | cons m ms ih =>
      intro vs i v r e
      cases r with
      | cons r1 r2 =>
        cases i with
        | zero => simp at e; subst e; exact ⟨_, rfl, r1⟩
        | succ i => obtain ⟨x, h1, h2⟩ := ih r2 (by simpa using e); exact ⟨x, by simpa using h1, h2⟩
  refine ⟨by simp [L2.start]; omega, fun i v h => ?_⟩
  have hi : i < ms.length := by
    apply Classical.byContradiction
    intro hc
    rw [List.getElem?_append_right (by simp; omega)] at h
    rw [List.getElem?_replicate] at h
    split at h <;> cases h
  rw [List.getElem?_append_left (by simp; exact hi), List.getElem?_map] at h
  obtain ⟨w, e1, e2⟩ := Option.map_eq_some_iff.mp h
  cases e2
  obtain ⟨x, e3, r⟩ := hget hr e1
  exact ⟨x, by unfold L2.start; rw [List.getElem?_append_left (by simp; omega), List.getElem?_map, e3]; rfl, r⟩
/-! ### the defs of a text -/
structure Ent where
  f : Fn
  d : FDef
  i : Nat
  N : List Str
/-- the statements of a class -/
def clsBody : Stmt → List Stmt
  | .ClassDef _ _ _ body _ _ _ _ _ _ _ => body
  | _ => []
/-- a top statement; from 1000 on: i / 1000 - 1 in the class i % 1000 -/
def topS (prog : Program) (i : Nat) : Stmt := if i < 1000 then prog.main.body.getD i (.Pass ⟨0, 0, 0, 0⟩) else (clsBody (prog.main.body.getD (i % 1000) (.Pass ⟨0, 0, 0, 0⟩))).getD (i / 1000 - 1) (.Pass ⟨0, 0, 0, 0⟩)
def Ent.ps (e : Ent) : List Str := e.N.take e.d.np
def scOk (N ps : List Str) (sc : Scope) : Bool := (match sc.kind with | .function => true | _ => false) && !sc.isCoroutine && !sc.isGenerator && decide N.Nodup && decide (N.take ps.length = ps) && ps.all (locB sc) && sc.names.all fun y => !(y.2 == .free)
theorem scOk_ok {N ps : List Str} {sc : Scope} (h : scOk N ps sc = true) : FnScope N ps sc := by
  simp only [scOk, Bool.and_eq_true, decide_eq_true_eq, Bool.not_eq_true', List.all_eq_true] at h
  obtain ⟨⟨⟨⟨⟨⟨h1, h2⟩, h3⟩, h4⟩, h5⟩, h6⟩, h7⟩ := h
  refine ⟨?_, h2, h3, h4, h5, fun x hx => loc_of (h6 x hx), fun y hy w => ?_⟩
  · cases hk : sc.kind <;> rw [hk] at h1 <;> first | rfl | cases h1
  · have := h7 y hy
    rw [w] at this
    simp at this
def entOk (prog : Program) (av : Fn → Bool) (own : List Str) (xs : Nat → Bool) (e : Ent) : Bool :=
  scOk e.N e.ps (defScope (topS prog e.i)) && decide (e.d.ns = e.N.length) && decide (e.d.np ≤ e.N.length) && plainP e.ps (defArgs (topS prog e.i)) && chkSs ⟨e.N, av, own, xs⟩ (defScope (topS prog e.i)) e.d.body (defBody (topS prog e.i))
/-- its full name -/
def Fn.qn (own : List Str) (f : Fn) : Str := if f.isM then ("Tuner." : Str) ++ f.nm own else f.nm own
def Fn.at_ (own : List Str) (f : Fn) : Str × Option Str := if f.isM then ("Tuner", some (f.nm own)) else (f.nm own, none)
def Ent.dd (prog : Program) (own : List Str) (e : Ent) : He.DefD := ⟨e.f.at_ own, e.f.nm own, e.f.qn own, defArgs (topS prog e.i), defBody (topS prog e.i), defScope (topS prog e.i), [], []⟩
def tabT (tbl : List Ent) : Fn → Option FDef := fun f => (tbl.find? fun e => decide (e.f = f)).map (·.d)
theorem tab_mem {tbl : List Ent} {f : Fn} {d : FDef} (h : tabT tbl f = some d) : ∃ e ∈ tbl, e.f = f ∧ e.d = d := by
  unfold tabT at h
  obtain ⟨e, h1, h2⟩ := Option.map_eq_some_iff.mp h
  exact ⟨e, List.mem_of_find?_eq_some h1, by simpa using List.find?_some h1, h2⟩
/-- what stands in the module, whatever the level -/
structure Stat (prog : Program) (K : PySem.W.Frag) (mg : Str → Option Value) (G : Gx) (tbl : List Ent) (own : List Str) (xs : Nat → Bool) : Prop where
  eK : K = G.K
  avT : ∀ f, G.av f = (tabT tbl f).isSome
  ent : ∀ e ∈ tbl, entOk prog G.av own xs e = true
  one : ∀ e ∈ tbl, tabT tbl e.f = some e.d
  fd : ∀ e ∈ tbl, ∃ fd, FunD K (e.f.nm own) (e.f.qn own) (defArgs (topS prog e.i)) (defBody (topS prog e.i)) (defScope (topS prog e.i)) [] [] (G.fa e.f) fd
  mgf : ∀ e ∈ tbl, e.f.isM = false → mg (e.f.nm own) = some (.ref (G.fa e.f))
  tun : G.av .t_init = true → TunF K mg G
  inj : ∀ f g, G.av f = true → G.av g = true → G.fa f = G.fa g → f = g
  bt : ∀ x ∈ btNames, mg x = none
  sz : mg "SIZES" = some (.ref G.sz)
  szO : ∃ (o : Obj) (its : Array Value) (n : Nat), K.lookup G.sz = some o ∧ o.cls = .type "tuple" ∧ o.dict = none ∧ o.data = .seq its n ∧ its.size ≤ sizeLine ∧ Vals [.int 2, .int 4, .int 8, .int 16] its.toList
  ex : ∀ c, c < 9 → xs c = true → ∃ B newId initId bmB, ExcBaseFacts B newId initId bmB ∧ PySem.W.excIn K (G.ex c) bmB newId = true ∧ mg (excNm c) = some (.ref (G.ex c)) ∧ PySem.W.keepIn K (.ref (G.ex c)) = true ∧
    ∀ (M : Model) (h : Heap), K.In h → PySem.W.Looks M h (isSubtype (.ref (G.ex c)) (.type "BaseException")) true ∧ PySem.W.Looks M h (typeOf (.ref (G.ex c))) (.type "type")
  wh : xs 9 = true → ∃ (i : Nat) (fw we : Addr) (fd : FuncData), FunD K "_law_which" "_law_which" (defArgs (topS prog i)) (defBody (topS prog i)) (defScope (topS prog i)) [] [] fw fd ∧ mg "_law_which" = some (.ref fw) ∧ scOk ["e", "own"] ["e"] (defScope (topS prog i)) = true ∧ whScB (defScope (topS prog i)) = true ∧ whichB (defBody (topS prog i)) = true ∧ plainP ["e"] (defArgs (topS prog i)) = true ∧
    Whi K mg G.ex ∧ mg "WaveError" = some (.ref we) ∧ ∀ c < 9, PySem.W.exmOne K (.ref (G.ex c)) (.ref we) = some true
section
variable {P prog : Program} {w : World} {K : PySem.W.Frag} {mg : Str → Option Value} {base : Heap} {G : Gx} {tbl : List Ent} {own : List Str} {xs : Nat → Bool}
theorem callN_np {k : Nat} {f : Fn} {vs : List Val} {st : Store} (h : callN (tabT tbl) k f vs st ≠ .bad) : ∃ d, tabT tbl f = some d ∧ vs.length = d.np := by
  cases k with
  | zero => exact absurd rfl h
  | succ k =>
    simp only [callN] at h
    split at h
    · rename_i d hd
      unfold callD at h
      split at h
      · rename_i hl
        exact ⟨d, hd, hl⟩
      · exact absurd rfl h
    · exact absurd rfl h
theorem rpost_nb {μ : Mu} {st : Store} {H : Hp} {σ : LSt} {W : WX} {α : Type} {r : Res α} {Q : α → Mu → Store → Hp → Prop} (h : RPost G μ st H σ W r Q) : r ≠ .bad := fun e => by subst e; exact h
theorem spF_len (S : Stat prog K mg G tbl own xs) {e : Ent} (he : e ∈ tbl) {k : Nat} {vs : List V} {H : Hp} {Q : VK} {E : XK} (h : spF G (callN (tabT tbl) k) e.f vs H Q E) : vs.length = e.ps.length := by
  obtain ⟨μ, ms, st, S', hr, r⟩ := h
  obtain ⟨d, h1, h2⟩ := callN_np (rpost_nb r)
  rw [S.one e he] at h1
  cases h1
  have hok := S.ent e he
  simp only [entOk, Bool.and_eq_true, decide_eq_true_eq] at hok
  rw [← hr.length, h2, Ent.ps, List.length_take]
  omega
theorem body_ok (S : Stat prog K mg G tbl own xs) {e : Ent} (he : e ∈ tbl) {k : Nat} (F : Facts P w K mg base G (callN (tabT tbl) k) ⟨e.N, G.av, own, xs⟩ (4 * k)) (cdv : Value) (A : Around) (outer : List PySem.Env) (s : Shared) (H : Hp) (vs : List V) (Q : VK) (E : XK)
    (hr : Room (4 * k + 3) (A.deeper (envOfC (e.f.qn own) (defScope (topS prog e.i)) s.heap.objs.size (G.fa e.f) cdv))) (h : spF G (callN (tabT tbl) (k + 1)) e.f vs H Q E) :
    ∃ t, PSs (cxOf (L2N.CX P w) P w K mg base e.N (e.f.qn own) (defScope (topS prog e.i)) (G.fa e.f) cdv A outer s H E) (defBody (topS prog e.i)) t ∧ t { nx := fun _ H' => Q .non H', rt := Q } (L2.start e.N vs) H := by
  have hok := S.ent e he
  simp only [entOk, Bool.and_eq_true, decide_eq_true_eq] at hok
  obtain ⟨⟨⟨⟨o1, o2⟩, o3⟩, o4⟩, o5⟩ := hok
  have sc := scOk_ok o1
  let X := cxOf (L2N.CX P w) P w K mg base e.N (e.f.qn own) (defScope (topS prog e.i)) (G.fa e.f) cdv A outer s H E
  have g : GoodS X G (callN (tabT tbl) k) (fun c d _ H => E c d H) ⟨e.N, G.av, own, xs⟩ (4 * k) :=
    { fa := F, hN := rfl, nd := sc.nd, calm := rfl, room := hr, tk := L2N.takes_of rfl rfl rfl rfl, po := passes_of rfl, kd := sc.kind, fn := fun _ => rfl, ex := fun c h1 h2 => S.ex c h1 h2 }
  have gw : WhX X G ⟨e.N, G.av, own, xs⟩ := fun h9 => by
    obtain ⟨j, fw, we, fdw, f1, f2, f3, f4, f5, f6, f7, f8, f9⟩ := S.wh h9
    exact ⟨rfl, rfl, fw, we, fdw, which_fn f1 (scOk_ok f3) f4 f5 f7, f2, f1.kp, f1.bindsN fun _ _ _ _ _ _ us hl => bind_plain f6 (by simp) hl, f8, f9⟩
  refine ⟨TMSs G (callN (tabT tbl) k) (fun c d _ H => E c d H) e.d.body, sndSs e.d.body X _ _ g gw o5, ?_⟩
  obtain ⟨μ, ms, st, S', hrv, r⟩ := h
  obtain ⟨d, h1, h2⟩ := callN_np (rpost_nb r)
  rw [S.one e he] at h1
  cases h1
  simp only [callN, S.one e he] at r
  unfold callD at r
  rw [if_pos h2] at r
  refine ⟨μ, _, st, S', envOk_start hrv (n := e.d.ns - e.d.np) (by omega), ?_⟩
  generalize execs (callN (tabT tbl) k) e.d.body (ms.map some ++ List.replicate (e.d.ns - e.d.np) none) st = x at r ⊢
  cases x with
  | ret v st1 =>
    intro μ' H' y t S2 hy
    obtain ⟨w', μ2, st2, hp, hw⟩ := fin_rv S' t S2 r hy
    exact hp _ hw
  | next ρ st1 =>
    intro μ' H' σ' t S2 _
    obtain ⟨w', μ2, st2, hp, hw⟩ := fin_rv S' t S2 r (v := .non) (x := .non) rfl
    exact hp _ hw
  | exc c st1 =>
    intro μ' H' σ' t S2
    obtain ⟨t2, S3⟩ := drop_cells S' t S2
    exact r _ H' t2 S3
  | bad => exact r
/-- every def, at every level -/
theorem level (S : Stat prog K mg G tbl own xs) : ∀ (k : Nat) (N : List Str), Facts P w K mg base G (callN (tabT tbl) k) ⟨N, G.av, own, xs⟩ (4 * k) := by
  have main : ∀ (k : Nat), (∀ e ∈ tbl, ∃ fd, FnOk P w K mg base (L2N.CX P w) (4 * k) (G.fa e.f) fd e.ps (spF G (callN (tabT tbl) k) e.f) ∧ Binds K fd e.ps []) → ∀ N, Facts P w K mg base G (callN (tabT tbl) k) ⟨N, G.av, own, xs⟩ (4 * k) := fun k hk N =>
    { eK := S.eK, av := fun f h => h, inj := S.inj, bt := S.bt, sz := S.sz, szO := S.szO
      fn := fun f hf => by
        rw [S.avT] at hf
        obtain ⟨d, hd⟩ := Option.isSome_iff_exists.mp hf
        obtain ⟨e, he, rfl, _⟩ := tab_mem hd
        obtain ⟨fd, h1, h2⟩ := hk e he
        obtain ⟨fd', F⟩ := S.fd e he
        exact ⟨fd, e.ps, h1, F.kp, h2⟩
      mgf := fun f hf hm => by
        rw [S.avT] at hf
        obtain ⟨d, hd⟩ := Option.isSome_iff_exists.mp hf
        obtain ⟨e, he, rfl, _⟩ := tab_mem hd
        exact S.mgf e he hm
      tun := S.tun }
  have binds : ∀ e ∈ tbl, ∀ fd, FunD K (e.f.nm own) (e.f.qn own) (defArgs (topS prog e.i)) (defBody (topS prog e.i)) (defScope (topS prog e.i)) [] [] (G.fa e.f) fd → Binds K fd e.ps [] := fun e he fd F => by
    have hok := S.ent e he
    simp only [entOk, Bool.and_eq_true, decide_eq_true_eq] at hok
    obtain ⟨⟨⟨⟨o1, o2⟩, o3⟩, o4⟩, o5⟩ := hok
    have hnd : e.ps.Nodup := (scOk_ok o1).nd.sublist (List.take_sublist _ _)
    exact F.bindsN fun _ _ _ _ _ _ us hl => bind_plain o4 hnd hl
  intro k
  induction k with
  | zero =>
    refine main 0 fun e he => ?_
    obtain ⟨fd, F⟩ := S.fd e he
    exact ⟨fd, ⟨fun vs H Q E ⟨_, _, _, _, _, h⟩ => h.elim, fun A outer s H args us vs Q E _ _ _ _ ⟨_, _, _, _, _, h⟩ => h.elim⟩, binds e he fd F⟩
  | succ k ih =>
    refine main (k + 1) fun e he => ?_
    obtain ⟨fd, F⟩ := S.fd e he
    have hok := S.ent e he
    simp only [entOk, Bool.and_eq_true, decide_eq_true_eq] at hok
    obtain ⟨⟨⟨⟨o1, o2⟩, o3⟩, o4⟩, o5⟩ := hok
    exact ⟨fd, F.ok (k := 4 * k + 3) (scOk_ok o1) (fun vs H Q E h => spF_len S he h) (fun cdv A outer s H vs Q E hr h => body_ok S he (ih e.N) cdv A outer s H vs Q E hr h), binds e he fd F⟩
end
end Sw
end

section
/-! SwHead: what the head tells; a law's end. -/
namespace Sw
open PySem L2 L2H PyProof.Rows
/-- SIZES stands -/
def szB (K : PySem.W.Frag) : Bool := match K.lookup (He.ga K "SIZES") with
  | some ⟨.type c, none, .seq its _, _⟩ => decide (c = "tuple") && (decide (its.size ≤ sizeLine) && He.relAll [.int 2, .int 4, .int 8, .int 16] its.toList)
  | _ => false
/-- the exceptions' classes, told apart by isinstance -/
def clsB (K : PySem.W.Frag) (D : Addr) : Bool := He.eqO (PySem.W.findIn K (.ref D) "__getattribute__") (some (some (.builtin "BaseException.__getattribute__"))) && He.eqO (PySem.W.findIn K (.ref D) "__getattr__") (some none) && decide (PySem.W.subIn K (.ref D) (.type "BaseException") = some true) && PySem.W.hasDictIn K D && He.eqO (PySem.W.findIn K (.ref D) "__class__") (some (some (.builtin "object.__class__"))) &&
  He.eqO (PySem.W.specialIn K (.builtin "object.__class__") "__get__") (some (some (.builtin "getset_descriptor.__get__"))) && decide (PySem.W.takesIn K (.builtin "object.__class__") = some true) && decide (PySem.W.mroIn K D (.type "object") = some true)
def exB (K : PySem.W.Frag) : Bool := (List.range 9).all fun c => clsB K (He.ga K (excNm c)) && ((List.range 9).all fun d => decide (PySem.W.kitOne K (.ref (He.ga K (excNm c))) (.ref (He.ga K (excNm d))) = some (decide (c = d)))) && decide (PySem.W.kitOne K (.ref (He.ga K (excNm c))) (.type "ValueError") = some true) && decide (PySem.W.exmOne K (.ref (He.ga K (excNm c))) (.ref (He.ga K "WaveError")) = some true)
/-- Tuner's instances, asked by isinstance -/
def insB (K : PySem.W.Frag) (D : Addr) : Bool := He.eqO (PySem.W.findIn K (.ref D) "__class__") (some (some (.builtin "object.__class__"))) && He.eqO (PySem.W.specialIn K (.builtin "object.__class__") "__get__") (some (some (.builtin "getset_descriptor.__get__"))) &&
  decide (PySem.W.takesIn K (.builtin "object.__class__") = some true) && decide (PySem.W.mroIn K D (.type "object") = some true) && decide (PySem.W.kitOne K (.ref D) (.ref D) = some true)
def hasT (tbl : List Ent) : Bool := (tabT tbl .t_init).isSome
def szW (tbl : List Ent) (wi : Option Nat) (K : PySem.W.Frag) : Bool := szB K && (wi.isNone || exB K) && (!hasT tbl || insB K (He.ga K "Tuner"))
def tunFa (own : List Str) (tbl : List Ent) : List He.Fa := if hasT tbl then [.glo "Tuner", .cls "Tuner", .noat "Tuner" "functions", .noat "Tuner" "kept", .mkr "Tuner"] ++ ((tbl.filter fun e => e.f.isM).map fun e => .meth "Tuner" (e.f.nm own)) else []
def faOf (own : List Str) (tbl : List Ent) (xl : List Nat) (wi : Option Nat) : List He.Fa :=
  ((tbl.filter fun e => !e.f.isM).map fun e => .glo (e.f.nm own)) ++ [.glo "SIZES"] ++ (btNames.map .free) ++ (xl.map fun c => .glo (excNm c)) ++ (xl.map fun c => .exc (excNm c)) ++ (match wi with | some _ => [.glo "_law_which", .glo "WaveError", .free "ValueError"] | none => []) ++ tunFa own tbl
def whD (prog : Program) (i : Nat) : He.DefD := ⟨("_law_which", none), "_law_which", "_law_which", defArgs (topS prog i), defBody (topS prog i), defScope (topS prog i), [], []⟩
def fnOfT (prog : Program) (own : List Str) (tbl : List Ent) (wi : Option Nat) : List He.DefD := tbl.map (Ent.dd prog own) ++ (match wi with | some i => [whD prog i] | none => [])
/-- the codes at hand; 9: the def that tells which -/
def xsOf (xl : List Nat) (wi : Option Nat) : Nat → Bool := fun c => if c = 9 then wi.isSome else xl.contains c
def whOkB (prog : Program) : Option Nat → Bool
  | some i => scOk ["e", "own"] ["e"] (defScope (topS prog i)) && whScB (defScope (topS prog i)) && whichB (defBody (topS prog i)) && plainP ["e"] (defArgs (topS prog i))
  | none => true
def avT (tbl : List Ent) : Fn → Bool := fun f => (tabT tbl f).isSome
def gxOf (K : PySem.W.Frag) (own : List Str) (tbl : List Ent) : Gx := ⟨K, fun f => He.fAd K (f.at_ own), He.ga K "SIZES", fun c => He.ga K (excNm c), He.ga K "Tuner", avT tbl⟩
def tblOk (prog : Program) (own : List Str) (xl : List Nat) (wi : Option Nat) (tbl : List Ent) : Bool := whOkB prog wi && (wi.isNone || (List.range 9).all xl.contains) && tbl.all (entOk prog (avT tbl) own (xsOf xl wi)) && decide (tbl.map (·.f)).Nodup && decide (tbl.map fun e => e.f.nm own).Nodup
theorem find_one {tbl : List Ent} (h : (tbl.map (·.f)).Nodup) : ∀ e ∈ tbl, tabT tbl e.f = some e.d := by
  unfold tabT
  induction tbl with
  | nil => intro e he; simp at he
  | cons a l ih =>
    intro e he
    have h' := List.nodup_cons.mp (by simpa using h : (a.f :: l.map (·.f)).Nodup)
    rcases List.mem_cons.mp he with rfl | he
    · simp
    · have hne : ¬ a.f = e.f := fun w => h'.1 (List.mem_map.mpr ⟨e, he, w.symm⟩)
      rw [List.find?_cons]
      simp only [hne, decide_false]
      exact ih h'.2 e he
theorem nm_one {own : List Str} {tbl : List Ent} (h : (tbl.map fun e => e.f.nm own).Nodup) : ∀ e ∈ tbl, ∀ e' ∈ tbl, e.f.nm own = e'.f.nm own → e.f = e'.f := by
  induction tbl with
  | nil => intro e he; simp at he
  | cons a l ih =>
    have h' := List.nodup_cons.mp (by simpa using h : (a.f.nm own :: l.map fun e => e.f.nm own).Nodup)
    intro e he e' he' w
    rcases List.mem_cons.mp he with e1 | he1 <;> rcases List.mem_cons.mp he' with e2 | he2
    · rw [e1, e2]
    · subst e1; exact absurd (List.mem_map.mpr ⟨e', he2, w.symm⟩) h'.1
    · subst e2; exact absurd (List.mem_map.mpr ⟨e, he1, w⟩) h'.1
    · exact ih h'.2 e he1 e' he2 w
section
variable {prog : Program} {w : World} {K : PySem.W.Frag} {h : Heap} {mg : Str → Option Value} {own : List Str} {tbl : List Ent} {xl : List Nat} {wi : Option Nat}
theorem says_val (c : He.SaysD (faOf own tbl xl wi) (fnOfT prog own tbl wi) K) : ∀ d ∈ fnOfT prog own tbl wi, He.fnW K d.at_ = d.val := by
  have e : (fnOfT prog own tbl wi).map (fun d => He.fnW K d.at_) = (fnOfT prog own tbl wi).map He.DefD.val := congrArg Prod.snd c
  intro d hd
  exact List.map_inj_left.mp e d hd
theorem stat_of (X : K.In h) (Gn : h.Ns mainGlobals mg) (c : He.SaysX (faOf own tbl xl wi) (fnOfT prog own tbl wi) [] [] (szW tbl wi) w h K) (hk : tblOk prog own xl wi tbl = true) : Stat prog K mg (gxOf K own tbl) tbl own (xsOf xl wi) := by
  simp only [tblOk, Bool.and_eq_true, decide_eq_true_eq, List.all_eq_true] at hk
  obtain ⟨⟨⟨⟨hw, h9⟩, h1⟩, h2⟩, h3⟩ := hk
  have cd := c.t.d
  have fact : ∀ f ∈ faOf own tbl xl wi, f.ok K = true := fun f hf => He.SaysD.facts cd hf
  have glo : ∀ e ∈ tbl, e.f.isM = false → mg (e.f.nm own) = some (.ref (He.fAd K (e.f.at_ own))) := fun e he hm => by
    have := He.glo_ok X Gn (fact (.glo (e.f.nm own)) (by
      unfold faOf
      simp only [List.mem_append]
      exact .inl (.inl (.inl (.inl (.inl (.inl (List.mem_map.mpr ⟨e, List.mem_filter.mpr ⟨he, by rw [hm]; rfl⟩, rfl⟩))))))))
    simpa [Fn.at_, hm, He.fAd] using this
  refine { eK := rfl, avT := fun f => rfl, ent := h1, one := find_one h2, mgf := glo, tun := fun hT => ?_, fd := fun e he => ?_, inj := ?_, bt := fun x hx => ?_, sz := ?_, szO := ?_, ex := fun n hn hx => ?_, wh := fun hx => ?_ }
  · obtain ⟨fd, F⟩ := He.SaysD.defs cd (d := e.dd prog own) (List.mem_append_left _ (List.mem_map.mpr ⟨e, he, rfl⟩))
    exact ⟨fd, F⟩
  · have hT' : hasT tbl = true := hT
    have tf : ∀ f ∈ [He.Fa.glo "Tuner", .cls "Tuner", .noat "Tuner" "functions", .noat "Tuner" "kept", .mkr "Tuner"] ++ ((tbl.filter fun e => e.f.isM).map fun e => He.Fa.meth "Tuner" (e.f.nm own)), f.ok K = true := fun f hf => fact f (by
      unfold faOf
      simp only [List.mem_append]
      right
      unfold tunFa
      rw [if_pos hT']
      exact hf)
    have hs := c.more
    unfold szW at hs
    rw [Bool.and_eq_true, hT'] at hs
    have hi := hs.2
    simp only [Bool.not_true, Bool.false_or, insB, Bool.and_eq_true, decide_eq_true_eq] at hi
    obtain ⟨⟨⟨⟨i1, i2⟩, i3⟩, i4⟩, i5⟩ := hi
    have cl := He.cls_ok (tf (.cls "Tuner") (by simp))
    have mk := He.mkr_ok (tf (.mkr "Tuner") (by simp))
    refine ⟨cl, He.noat_ok (tf (.noat "Tuner" "functions") (by simp)), He.noat_ok (tf (.noat "Tuner" "kept") (by simp)), He.glo_ok X Gn (tf (.glo "Tuner") (by simp)), mk, ⟨cl, He.eqO_ok i1, He.eqO_ok i2, i3, i4, i5⟩, fun f hf hm => ?_⟩
    obtain ⟨d, hd⟩ := Option.isSome_iff_exists.mp hf
    obtain ⟨e, he, rfl, _⟩ := tab_mem hd
    have := He.meth_ok (tf (.meth "Tuner" (e.f.nm own)) (by
      rw [List.mem_append]
      right
      exact List.mem_map.mpr ⟨e, List.mem_filter.mpr ⟨he, hm⟩, rfl⟩))
    have ea : (gxOf K own tbl).fa e.f = He.ma K (He.ga K "Tuner") (e.f.nm own) := by
      show He.fAd K (e.f.at_ own) = _
      simp [Fn.at_, hm, He.fAd]
    rw [ea, ← nm_own hm own]
    exact this
  · intro f g hf hg heq
    obtain ⟨d, hd⟩ := Option.isSome_iff_exists.mp hf
    obtain ⟨d', hd'⟩ := Option.isSome_iff_exists.mp hg
    obtain ⟨e, he, rfl, _⟩ := tab_mem hd
    obtain ⟨e', he', rfl, _⟩ := tab_mem hd'
    have q := says_val cd (e.dd prog own) (List.mem_append_left _ (List.mem_map.mpr ⟨e, he, rfl⟩))
    have q' := says_val cd (e'.dd prog own) (List.mem_append_left _ (List.mem_map.mpr ⟨e', he', rfl⟩))
    have ef : He.fnW K (e.dd prog own).at_ = He.fnW K (e'.dd prog own).at_ := by
      unfold He.fnW
      have : He.fAd K (e.dd prog own).at_ = He.fAd K (e'.dd prog own).at_ := heq
      rw [this]
    rw [q, q'] at ef
    have en : (e.dd prog own).name = (e'.dd prog own).name := by
      unfold He.DefD.val at ef
      injection ef with ef
      exact congrArg Prod.fst ef
    exact nm_one h3 e he e' he' en
  · exact He.free_ok X Gn (fact (.free x) (by
      unfold faOf
      simp only [List.mem_append]
      exact .inl (.inl (.inl (.inl (.inr (List.mem_map.mpr ⟨x, hx, rfl⟩)))))))
  · exact He.glo_ok X Gn (fact (.glo "SIZES") (by
      unfold faOf
      simp only [List.mem_append]
      exact .inl (.inl (.inl (.inl (.inl (.inr (by simp))))))))
  · have hs := c.more
    unfold szW at hs
    rw [Bool.and_eq_true, Bool.and_eq_true] at hs
    replace hs := hs.1.1
    unfold szB at hs
    show ∃ o its n, K.lookup (He.ga K "SIZES") = some o ∧ _
    split at hs
    · rename_i cc its n sl hl
      simp only [Bool.and_eq_true, decide_eq_true_eq] at hs
      obtain ⟨rfl, s2, s3⟩ := hs
      exact ⟨_, its, n, hl, rfl, rfl, rfl, s2, He.relAll_ok s3⟩
    · cases hs
  · have hx' : n ∈ xl := by
      unfold xsOf at hx
      rw [if_neg (by omega)] at hx
      simpa using hx
    have fx := fact (.exc (excNm n)) (by
      unfold faOf
      simp only [List.mem_append]
      exact .inl (.inl (.inr (List.mem_map.mpr ⟨n, hx', rfl⟩))))
    have gx := He.glo_ok X Gn (fact (.glo (excNm n)) (by
      unfold faOf
      simp only [List.mem_append]
      exact .inl (.inl (.inl (.inr (List.mem_map.mpr ⟨n, hx', rfl⟩))))))
    obtain ⟨q1, q2, q3, q4⟩ := He.exc_ok fx
    exact ⟨_, _, _, _, F.excBase_ValueError, q1, gx, q2, fun M h k => ⟨PySem.W.looks_subIn k q3, PySem.W.looks_typeIn k q4⟩⟩
  · cases wi with
    | none => simp [xsOf] at hx
    | some i =>
      have hm := c.more
      simp only [szW, Option.isNone_some, Bool.false_or, Bool.and_eq_true, exB, List.all_eq_true, List.mem_range, decide_eq_true_eq] at hm
      obtain ⟨⟨_, hm⟩, _⟩ := hm
      simp only [whOkB, Bool.and_eq_true] at hw
      obtain ⟨⟨⟨w1, w2⟩, w3⟩, w4⟩ := hw
      simp only [Option.isNone_some, Bool.false_or, List.all_eq_true, List.mem_range, Bool.false_eq_true, false_or] at h9
      obtain ⟨fd, F⟩ := He.SaysD.defs cd (d := whD prog i) (by unfold fnOfT; simp)
      have g1 := He.glo_ok X Gn (fact (.glo "_law_which") (by unfold faOf; simp))
      have g2 := He.glo_ok X Gn (fact (.glo "WaveError") (by unfold faOf; simp))
      have g3 := He.free_ok X Gn (fact (.free "ValueError") (by unfold faOf; simp))
      have g4 := He.free_ok X Gn (fact (.free "isinstance") (by
        unfold faOf
        simp only [List.mem_append]
        exact .inl (.inl (.inl (.inl (.inr (List.mem_map.mpr ⟨"isinstance", by decide, rfl⟩)))))))
      refine ⟨i, He.ga K "_law_which", He.ga K "WaveError", fd, F, g1, w1, w2, w3, w4, ⟨fun n hn => ?_, fun n hn m hm' => (hm n hn).1.1.2 m hm', fun n hn => (hm n hn).1.2, fun n hn => ?_, g4, g3⟩, g2, fun n hn => (hm n hn).2⟩
      · have q := (hm n hn).1.1.1
        simp only [clsB, Bool.and_eq_true, decide_eq_true_eq] at q
        obtain ⟨⟨⟨⟨⟨⟨⟨a1, a2⟩, a3⟩, a4⟩, a5⟩, a6⟩, a7⟩, a8⟩ := q
        exact ⟨He.eqO_ok a1, He.eqO_ok a2, a3, a4, He.eqO_ok a5, He.eqO_ok a6, a7, a8⟩
      · exact He.glo_ok X Gn (fact (.glo (excNm n)) (by
          unfold faOf
          simp only [List.mem_append]
          exact .inl (.inl (.inl (.inr (List.mem_map.mpr ⟨n, by have := h9 n hn; simpa using this, rfl⟩))))))
end
/-- the end, with the exceptions' wish by the world -/
theorem walk_w {l : PySem.W.OpenLaw} {n k : Nat} {q : Program} {loose : List Str} {XP : (Str → Option Value) → Heap → Prop} {YP : World → Heap → Prop} {d : DefRec} {x : Str}
    (hn : l.most = some n) (hn2 : n ≤ sizeLine) (hdf : d.params.defaults = []) (hr : Room k callerA)
    (F : ∀ (w : World) (mg : Str → Option Value) (fa : Addr) (h : Heap), YP w h → h.Ns mainGlobals mg → mg d.name = some (.ref fa) →
      ∃ (K : PySem.W.Frag) (fd : FuncData) (sp : Sp), K.In h ∧ (∀ (s : Shared) (u : Value), BindsTo s fd ⟨[u], []⟩ [(x, u)]) ∧
        (∀ (H : Hp) (a : Addr) (ns : List Int), ns.length ≤ n → Only H → SqL K H a (ns.map V.int) → sp [.ref a] H (fun v _ => v = .bl true) fun _ _ _ => False) ∧
        ∀ base : Heap, K.In base → base.Ns mainGlobals mg → FnOk l.prog w K mg base (L2N.CX l.prog w) k fa fd [x] sp) :
    PySem.W.WalkO q loose XP YP l.row.toRowW d [] (fun f vs => PySem.call f vs) := by
  refine Att.attach_call hn hdf fun w s0 s1 mg mb fa o pm cd doc a vs ns T Y ho hd hcd hmg hobj hints hlen hg => ?_
  obtain ⟨K, fd, sp, KX, hb, hsp, hF⟩ := F w mg fa _ Y T.T.g hmg
  exact law_call KX T.T.g T.T.b T.T.builtins T.T.nolimit hg hobj hints (Nat.le_trans hlen hn2) hr hF hb (fun H hO hS => hsp H a ns hlen hO hS) fun H e s' ⟨_, _, _, _, _, h⟩ => h.2.2.2.2.2.2.2
theorem script_rv {G : Gx} {H : Hp} {a : Addr} {ns : List Int} (hO : Only H) (h : SqL G.K H a (ns.map V.int)) : Rv G [] H (.slst (ns.map .int)) (.ref a) := by
  refine ⟨a, ns.map V.int, rfl, ?_, tups_back.ints_rel ns⟩
  rcases h with (h | ⟨o, h⟩) | h
  · rcases hO a with e | ⟨o, xs, e⟩
    · rw [h] at e; cases e
    · rw [h] at e; cases e
  · exact .inl ⟨o, h⟩
  · exact .inr h
/-- THE LAW, by the mini language: f is the law's def -/
theorem law_facts {P : Program} {own : List Str} {tbl : List Ent} {xl : List Nat} {wi : Option Nat} {w : World} {K : PySem.W.Frag} {h : Heap} {mg : Str → Option Value} {fa : Addr} {k : Nat} {e : Ent} (X : K.In h) (Gn : h.Ns mainGlobals mg) (hmg : mg ("law" : Str) = some (.ref fa))
    (c : He.SaysX (faOf own tbl xl wi) (fnOfT P own tbl wi) [] [] (szW tbl wi) w h K) (hk : tblOk P own xl wi tbl = true) (he : e ∈ tbl) (hmm : e.f.isM = false) (hn : e.f.nm own = "law") (hps : e.ps = [("script" : Str)])
    (law : ∀ ns : List Int, ns.length ≤ 63 → callN (tabT tbl) k e.f [.slst (ns.map .int)] [] = .ok (.bl true) []) :
    ∃ (K : PySem.W.Frag) (fd : FuncData) (sp : Sp), K.In h ∧ (∀ (s : Shared) (u : Value), BindsTo s fd ⟨[u], []⟩ [("script", u)]) ∧
        (∀ (H : Hp) (a : Addr) (ns : List Int), ns.length ≤ 63 → Only H → SqL K H a (ns.map V.int) → sp [.ref a] H (fun v _ => v = .bl true) fun _ _ _ => False) ∧
        ∀ base : Heap, K.In base → base.Ns mainGlobals mg → FnOk P w K mg base (L2N.CX P w) (4 * k) fa fd ["script"] sp := by
  have S := stat_of X Gn c hk
  have efa : fa = He.fAd K (e.f.at_ own) := by
    have q := S.mgf e he hmm
    rw [hn, hmg] at q
    have := Option.some.inj q
    injection this
  obtain ⟨fd, F⟩ := S.fd e he
  have hok := S.ent e he
  simp only [entOk, Bool.and_eq_true, decide_eq_true_eq] at hok
  obtain ⟨⟨⟨⟨o1, o2⟩, o3⟩, o4⟩, o5⟩ := hok
  have hnd : e.ps.Nodup := (scOk_ok o1).nd.sublist (List.take_sublist _ _)
  rw [hps] at o4 hnd
  have b := FunD.bindsA (ps := ["script"]) F fun _ _ _ _ _ _ us hl => bind_plain o4 hnd hl
  refine ⟨K, fd, spF (gxOf K own tbl) (callN (tabT tbl) k) e.f, X, fun s u => b s [u] rfl, fun H a ns hl hO hS => ?_, fun base hb hg => ?_⟩
  · refine ⟨[], [.slst (ns.map .int)], [], ⟨rfl, fun n p c h1 h2 => by simp at h1, fun n m p q h1 => by simp at h1⟩, .cons (script_rv hO hS) .nil, ?_⟩
    rw [law ns hl]
    intro μ' H' t S' x hx
    exact hx
  · cases k with
    | zero =>
      have := law [] (by simp)
      cases this
    | succ k =>
      have o1' := scOk_ok o1
      rw [hps] at o1'
      subst efa
      exact F.ok (k := 4 * k + 3) o1' (fun vs H Q E h => by rw [spF_len S he h, hps]) (fun cdv A outer s H vs Q E hr h => body_ok S he (level S k e.N) cdv A outer s H vs Q E hr h)
end Sw
end

section
/-! SwProg: the defs of the package and the laws' shared helpers, printed by gen.py. -/
namespace Sw
namespace D
def is_integer : FDef := ⟨3, 3, false, (.cons (.ret (.and (.isi (.var 0) .int) (.and (.not (.isi (.var 0) .bool)) (.chain .le .le (.var 1) (.var 0) (.var 2))))) .nil)⟩
def is_function : FDef := ⟨1, 2, false, (.cons (.ife (.or (.not (.isi (.var 0) .tuple)) (.cmp .notin (.b1 .len (.var 0)) .sizes)) (.cons (.ret (.cb false)) .nil) .nil) (.cons (.ret (.b1 .all (.lc (.call .is_integer (.cons (.var 1) (.cons (.ci 0) (.cons (.ci 1) .nil)))) [1] (.over (.var 0)) .none))) .nil))⟩
def check_function : FDef := ⟨1, 1, false, (.cons (.ife (.not (.call .is_function (.cons (.var 0) .nil))) (.cons (.raise 0) .nil) .nil) .nil)⟩
def check_mask : FDef := ⟨2, 2, false, (.cons (.ife (.not (.call .is_integer (.cons (.var 0) (.cons (.ci 0) (.cons (.bin .sub (.var 1) (.ci 1)) .nil))))) (.cons (.raise 3) .nil) .nil) .nil)⟩
def bit_count : FDef := ⟨1, 2, false, (.cons (.set 1 (.ci 0)) (.cons (.while_ (.cmp .gt (.var 0) (.ci 0)) (.cons (.par [1, 0] (.cons (.bin .add (.var 1) (.bin .mod (.var 0) (.ci 2))) (.cons (.bin .fdiv (.var 0) (.ci 2)) .nil))) .nil)) (.cons (.ret (.var 1)) .nil)))⟩
def common : FDef := ⟨2, 4, false, (.cons (.par [2, 3] (.cons (.ci 0) (.cons (.ci 1) .nil))) (.cons (.while_ (.and (.cmp .gt (.var 0) (.ci 0)) (.cmp .gt (.var 1) (.ci 0))) (.cons (.ife (.and (.cmp .eq (.bin .mod (.var 0) (.ci 2)) (.ci 1)) (.cmp .eq (.bin .mod (.var 1) (.ci 2)) (.ci 1))) (.cons (.aug 2 .add (.var 3)) .nil) .nil) (.cons (.par [0, 1, 3] (.cons (.bin .fdiv (.var 0) (.ci 2)) (.cons (.bin .fdiv (.var 1) (.ci 2)) (.cons (.bin .mul (.ci 2) (.var 3)) .nil)))) .nil))) (.cons (.ret (.var 2)) .nil)))⟩
def straight : FDef := ⟨2, 3, false, (.cons (.ret (.b1 .tuple (.lc (.bin .mod (.call .bit_count (.cons (.call .common (.cons (.var 2) (.cons (.var 1) .nil))) .nil)) (.ci 2)) [2] (.range (.var 0)) .none))) .nil)⟩
def sum_for : FDef := ⟨2, 2, false, (.cons (.ife (.not (.call .is_integer (.cons (.var 0) (.cons (.ci 1) (.cons (.ci 4) .nil))))) (.cons (.raise 2) .nil) .nil) (.cons (.expr (.call .check_mask (.cons (.var 1) (.cons (.idx .sizes (.bin .sub (.var 0) (.ci 1))) .nil)))) (.cons (.ret (.call .straight (.cons (.idx .sizes (.bin .sub (.var 0) (.ci 1))) (.cons (.var 1) .nil)))) .nil)))⟩
def check_two : FDef := ⟨2, 2, false, (.cons (.expr (.call .check_function (.cons (.var 0) .nil))) (.cons (.expr (.call .check_function (.cons (.var 1) .nil))) (.cons (.ife (.cmp .ne (.b1 .len (.var 0)) (.b1 .len (.var 1))) (.cons (.raise 0) .nil) .nil) .nil)))⟩
def apart : FDef := ⟨2, 4, false, (.cons (.ret (.b1 .len (.lc (.ci 1) [2, 3] (.zip (.var 0) (.var 1)) (.some (.cmp .ne (.var 2) (.var 3)))))) .nil)⟩
def distance : FDef := ⟨2, 2, false, (.cons (.expr (.call .check_two (.cons (.var 0) (.cons (.var 1) .nil)))) (.cons (.ret (.call .apart (.cons (.var 0) (.cons (.var 1) .nil)))) .nil))⟩
def alike : FDef := ⟨2, 2, false, (.cons (.ret (.bin .sub (.b1 .len (.var 0)) (.bin .mul (.ci 2) (.call .apart (.cons (.var 0) (.cons (.var 1) .nil)))))) .nil)⟩
def likeness : FDef := ⟨2, 2, false, (.cons (.expr (.call .check_two (.cons (.var 0) (.cons (.var 1) .nil)))) (.cons (.ret (.call .alike (.cons (.var 0) (.cons (.var 1) .nil)))) .nil))⟩
def law_cell_at : FDef := ⟨2, 4, false, (.cons (.ife (.cmp .lt (.var 1) (.b1 .len (.var 0))) (.cons (.ret (.idx (.var 0) (.var 1))) .nil) .nil) (.cons (.ife (.cmp .eq (.var 0) (.lst .nil)) (.cons (.ret (.ci 0)) .nil) .nil) (.cons (.set 2 (.idx (.var 0) (.bin .mod (.var 1) (.b1 .len (.var 0))))) (.cons (.for_ [3] (.range (.b2 .min (.bin .fdiv (.var 1) (.b1 .len (.var 0))) (.ci 60))) (.cons (.set 2 (.bin .fdiv (.var 2) (.ci 1000003))) .nil)) (.cons (.ret (.bin .add (.bin .add (.bin .mul (.idx (.var 0) (.bin .mod (.var 1) (.b1 .len (.var 0)))) (.ci 31)) (.var 1)) (.bin .mul (.var 2) (.ci 101)))) .nil)))))⟩
def law_mixed : FDef := ⟨3, 4, false, (.cons (.set 3 (.bin .mod (.bin .add (.bin .add (.bin .mul (.call .l_cell_at (.cons (.var 0) (.cons (.var 1) .nil))) (.ci 1103515245)) (.bin .mul (.ci 7919) (.var 1))) (.ci 12345)) (.ci 2147483647))) (.cons (.ret (.bin .mod (.bin .mod (.bin .mod (.bin .pow (.var 3) (.ci 5)) (.ci 2147483647)) (.ci 999983)) (.var 2))) .nil))⟩
def law_draw : FDef := ⟨3, 3, false, (.cons (.app (.var 1) (.ci 0)) (.cons (.ret (.call .l_mixed (.cons (.var 0) (.cons (.b1 .len (.var 1)) (.cons (.var 2) .nil))))) .nil))⟩
def law_same_number : FDef := ⟨2, 2, false, (.cons (.ret (.and (.isi (.var 0) .int) (.and (.not (.isi (.var 0) .bool)) (.cmp .eq (.var 0) (.var 1))))) .nil)⟩
def law_bits_in : FDef := ⟨1, 2, false, (.cons (.ret (.lc (.var 1) [1] (.range (.ci 4)) (.some (.cmp .eq (.bin .mod (.bin .fdiv (.var 0) (.idx (.lst (.cons (.ci 1) (.cons (.ci 2) (.cons (.ci 4) (.cons (.ci 8) .nil))))) (.var 1))) (.ci 2)) (.ci 1))))) .nil)⟩
def law_odd : FDef := ⟨2, 4, false, (.cons (.set 2 (.call .l_bits_in (.cons (.var 0) .nil))) (.cons (.ret (.bin .mod (.b1 .len (.lc (.var 3) [3] (.over (.call .l_bits_in (.cons (.var 1) .nil))) (.some (.cmp .isin (.var 3) (.var 2))))) (.ci 2))) .nil))⟩
def law_some_values : FDef := ⟨4, 14, false, (.cons (.set 4 (.idx (.lst (.cons (.ci 2) (.cons (.ci 4) (.cons (.ci 8) (.cons (.ci 16) .nil))))) (.bin .add (.bin .sub (.var 2) (.ci 1)) (.call .l_draw (.cons (.var 0) (.cons (.var 1) (.cons (.bin .add (.bin .sub (.var 3) (.var 2)) (.ci 1)) .nil))))))) (.cons (.set 5 (.call .l_draw (.cons (.var 0) (.cons (.var 1) (.cons (.ci 3) .nil))))) (.cons (.ife (.cmp .eq (.var 5) (.ci 0)) (.cons (.ret (.b1 .tuple (.lc (.call .l_draw (.cons (.var 0) (.cons (.var 1) (.cons (.ci 2) .nil)))) [10] (.range (.var 4)) .none))) .nil) .nil) (.cons (.ife (.cmp .eq (.var 5) (.ci 1)) (.cons (.set 9 (.call .l_draw (.cons (.var 0) (.cons (.var 1) (.cons (.var 4) .nil))))) (.cons (.boxset 7 (.lc (.call .l_odd (.cons (.var 9) (.cons (.var 8) .nil))) [8] (.range (.var 4)) .none)) (.cons (.for_ [10] (.range (.call .l_draw (.cons (.var 0) (.cons (.var 1) (.cons (.ci 4) .nil))))) (.cons (.set 8 (.call .l_draw (.cons (.var 0) (.cons (.var 1) (.cons (.var 4) .nil))))) (.cons (.setidx (.var 7) (.var 8) (.bin .sub (.ci 1) (.idx (.var 7) (.var 8)))) .nil))) (.cons (.ret (.b1 .tuple (.var 7))) .nil)))) .nil) (.cons (.set 6 (.lc (.call .l_draw (.cons (.var 0) (.cons (.var 1) (.cons (.var 4) .nil)))) [10] (.range (.call .l_draw (.cons (.var 0) (.cons (.var 1) (.cons (.ci 4) .nil))))) .none)) (.cons (.boxset 7 (.lst .nil)) (.cons (.for_ [8] (.range (.var 4)) (.cons (.set 11 (.call .l_bits_in (.cons (.var 8) .nil))) (.cons (.set 12 (.lc (.ci 1) [9] (.over (.var 6)) (.some (.cmp .eq (.lc (.ci 1) [13] (.over (.call .l_bits_in (.cons (.var 9) .nil))) (.some (.cmp .notin (.var 13) (.var 11)))) (.lst .nil))))) (.cons (.app (.var 7) (.bin .mod (.b1 .len (.var 12)) (.ci 2))) .nil)))) (.cons (.ret (.b1 .tuple (.var 7))) .nil))))))))⟩
def spread : FDef := ⟨1, 7, false, (.cons (.ife (.cmp .eq (.b1 .len (.var 0)) (.ci 1)) (.cons (.ret (.var 0)) .nil) .nil) (.cons (.set 1 (.bin .fdiv (.b1 .len (.var 0)) (.ci 2))) (.cons (.par [3, 4] (.cons (.call .spread (.cons (.sl (.var 0) .none (.some (.var 1))) .nil)) (.cons (.call .spread (.cons (.sl (.var 0) (.some (.var 1)) .none) .nil)) .nil))) (.cons (.set 2 (.lc (.bin .add (.var 5) (.var 6)) [5, 6] (.zip (.var 3) (.var 4)) .none)) (.cons (.ret (.bin .add (.var 2) (.lc (.bin .sub (.var 5) (.var 6)) [5, 6] (.zip (.var 3) (.var 4)) .none))) .nil)))))⟩
def wave_of : FDef := ⟨1, 2, false, (.cons (.ret (.b1 .tuple (.call .spread (.cons (.lc (.bin .sub (.ci 1) (.bin .mul (.ci 2) (.var 1))) [1] (.over (.var 0)) .none) .nil)))) .nil)⟩
def wave : FDef := ⟨1, 1, false, (.cons (.expr (.call .check_function (.cons (.var 0) .nil))) (.cons (.ret (.call .wave_of (.cons (.var 0) .nil))) .nil))⟩
def from_wave : FDef := ⟨1, 3, false, (.cons (.ife (.or (.not (.isi (.var 0) .tuple)) (.cmp .notin (.b1 .len (.var 0)) .sizes)) (.cons (.raise 1) .nil) .nil) (.cons (.ife (.not (.b1 .all (.lc (.call .is_integer (.cons (.var 2) (.cons (.bin .sub (.ci 0) (.b1 .len (.var 0))) (.cons (.b1 .len (.var 0)) .nil)))) [2] (.over (.var 0)) .none))) (.cons (.raise 1) .nil) .nil) (.cons (.set 1 (.call .spread (.cons (.b1 .list (.var 0)) .nil))) (.cons (.ife (.not (.b1 .all (.lc (.cmp .isin (.var 2) (.tup (.cons (.b1 .len (.var 0)) (.cons (.bin .sub (.ci 0) (.b1 .len (.var 0))) .nil)))) [2] (.over (.var 1)) .none))) (.cons (.raise 1) .nil) .nil) (.cons (.ret (.b1 .tuple (.lc (.ife (.cmp .gt (.var 2) (.ci 0)) (.ci 0) (.ci 1)) [2] (.over (.var 1)) .none))) .nil)))))⟩
def law_like : FDef := ⟨2, 4, false, (.cons (.ret (.b1 .sum (.lc (.ife (.cmp .eq (.var 2) (.var 3)) (.ci 1) (.bin .sub (.ci 0) (.ci 1))) [2, 3] (.zip (.var 0) (.var 1)) .none))) .nil)⟩
def law_likes : FDef := ⟨1, 4, false, (.cons (.set 1 (.b1 .len (.var 0))) (.cons (.ret (.b1 .tuple (.lc (.call .l_like (.cons (.var 0) (.cons (.lc (.call .l_odd (.cons (.var 2) (.cons (.var 3) .nil))) [3] (.range (.var 1)) .none) .nil))) [2] (.range (.var 1)) .none))) .nil))⟩
def height : FDef := ⟨1, 1, false, (.cons (.ret (.b2 .max (.b1 .max (.var 0)) (.bin .sub (.ci 0) (.b1 .min (.var 0))))) .nil)⟩
def gap_of : FDef := ⟨1, 1, false, (.cons (.ret (.bin .fdiv (.bin .sub (.b1 .len (.var 0)) (.call .height (.cons (.call .wave_of (.cons (.var 0) .nil)) .nil))) (.ci 2))) .nil)⟩
def gap : FDef := ⟨1, 1, false, (.cons (.expr (.call .check_function (.cons (.var 0) .nil))) (.cons (.ret (.call .gap_of (.cons (.var 0) .nil))) .nil))⟩
def straight_functions : FDef := ⟨1, 5, false, (.cons (.set 1 (.lc (.call .straight (.cons (.var 0) (.cons (.var 2) .nil))) [2] (.range (.var 0)) .none)) (.cons (.ret (.bin .add (.var 1) (.lc (.b1 .tuple (.lc (.bin .sub (.ci 1) (.var 4)) [4] (.over (.var 3)) .none)) [3] (.over (.var 1)) .none))) .nil))⟩
def nearest : FDef := ⟨1, 3, false, (.cons (.expr (.call .check_function (.cons (.var 0) .nil))) (.cons (.set 1 (.call .gap_of (.cons (.var 0) .nil))) (.cons (.ret (.b1 .sorted (.lc (.var 2) [2] (.over (.call .straight_functions (.cons (.b1 .len (.var 0)) .nil))) (.some (.cmp .eq (.call .apart (.cons (.var 0) (.cons (.var 2) .nil))) (.var 1)))))) .nil)))⟩
def law_pick : FDef := ⟨3, 3, false, (.cons (.ret (.idx (.var 2) (.call .l_draw (.cons (.var 0) (.cons (.var 1) (.cons (.b1 .len (.var 2)) .nil)))))) .nil)⟩
def exclusive : FDef := ⟨2, 2, false, (.cons (.ret (.bin .sub (.bin .add (.var 0) (.var 1)) (.bin .mul (.ci 2) (.call .common (.cons (.var 0) (.cons (.var 1) .nil)))))) .nil)⟩
def even : FDef := ⟨1, 3, false, (.cons (.set 1 (.call .wave_of (.cons (.var 0) .nil))) (.cons (.ret (.b1 .all (.lc (.cmp .isin (.var 2) (.tup (.cons (.idx (.var 1) (.ci 0)) (.cons (.bin .sub (.ci 0) (.idx (.var 1) (.ci 0))) .nil)))) [2] (.over (.var 1)) .none))) .nil))⟩
def is_even : FDef := ⟨1, 1, false, (.cons (.expr (.call .check_function (.cons (.var 0) .nil))) (.cons (.ret (.call .even (.cons (.var 0) .nil))) .nil))⟩
def partner : FDef := ⟨1, 2, false, (.cons (.expr (.call .check_function (.cons (.var 0) .nil))) (.cons (.ife (.not (.call .even (.cons (.var 0) .nil))) (.cons (.raise 5) .nil) .nil) (.cons (.ret (.b1 .tuple (.lc (.ife (.cmp .lt (.var 1) (.ci 0)) (.ci 1) (.ci 0)) [1] (.over (.call .wave_of (.cons (.var 0) .nil))) .none))) .nil)))⟩
def functions_of : FDef := ⟨1, 5, false, (.cons (.set 1 (.lst (.cons (.tup .nil) .nil))) (.cons (.for_ [2] (.range (.var 0)) (.cons (.boxset 3 (.lst .nil)) (.cons (.for_ [4] (.over (.var 1)) (.cons (.ext (.var 3) (.lst (.cons (.bin .add (.var 4) (.tup (.cons (.ci 0) .nil))) (.cons (.bin .add (.var 4) (.tup (.cons (.ci 1) .nil))) .nil)))) .nil)) (.cons (.set 1 (.var 3)) .nil)))) (.cons (.ret (.var 1)) .nil)))⟩
def even_functions : FDef := ⟨1, 2, false, (.cons (.ife (.not (.call .is_integer (.cons (.var 0) (.cons (.ci 1) (.cons (.ci 3) .nil))))) (.cons (.raise 2) .nil) .nil) (.cons (.ret (.lc (.var 1) [1] (.over (.call .functions_of (.cons (.idx .sizes (.bin .sub (.var 0) (.ci 1))) .nil))) (.some (.call .even (.cons (.var 1) .nil))))) .nil))⟩
def moved : FDef := ⟨2, 3, false, (.cons (.ret (.b1 .tuple (.lc (.idx (.var 0) (.call .exclusive (.cons (.var 2) (.cons (.var 1) .nil)))) [2] (.range (.b1 .len (.var 0))) .none))) .nil)⟩
def echo : FDef := ⟨1, 2, false, (.cons (.expr (.call .check_function (.cons (.var 0) .nil))) (.cons (.ret (.b1 .tuple (.lc (.call .alike (.cons (.var 0) (.cons (.call .moved (.cons (.var 0) (.cons (.var 1) .nil))) .nil))) [1] (.range (.b1 .len (.var 0))) .none))) .nil))⟩
def law_same_truth : FDef := ⟨2, 2, false, (.cons (.ret (.and (.isi (.var 0) .bool) (.cmp .eq (.var 0) (.var 1)))) .nil)⟩
def law_cross : FDef := ⟨2, 5, false, (.cons (.par [2, 3] (.cons (.call .l_bits_in (.cons (.var 0) .nil)) (.cons (.call .l_bits_in (.cons (.var 1) .nil)) .nil))) (.cons (.ret (.b1 .sum (.lc (.idx (.lst (.cons (.ci 1) (.cons (.ci 2) (.cons (.ci 4) (.cons (.ci 8) .nil))))) (.var 4)) [4] (.range (.ci 4)) (.some (.cmp .ne (.cmp .isin (.var 4) (.var 2)) (.cmp .isin (.var 4) (.var 3))))))) .nil))⟩
def folded : FDef := ⟨1, 6, false, (.cons (.ife (.cmp .eq (.b1 .len (.var 0)) (.ci 1)) (.cons (.ret (.var 0)) .nil) .nil) (.cons (.set 1 (.bin .fdiv (.b1 .len (.var 0)) (.ci 2))) (.cons (.par [2, 3] (.cons (.call .folded (.cons (.sl (.var 0) .none (.some (.var 1))) .nil)) (.cons (.call .folded (.cons (.sl (.var 0) (.some (.var 1)) .none) .nil)) .nil))) (.cons (.ret (.bin .add (.var 2) (.lc (.bin .mod (.bin .add (.var 4) (.var 5)) (.ci 2)) [4, 5] (.zip (.var 2) (.var 3)) .none))) .nil))))⟩
def term_list : FDef := ⟨1, 3, false, (.cons (.ret (.lc (.var 1) [1, 2] (.enum (.call .folded (.cons (.b1 .list (.var 0)) .nil))) (.some (.cmp .eq (.var 2) (.ci 1))))) .nil)⟩
def terms : FDef := ⟨1, 1, false, (.cons (.expr (.call .check_function (.cons (.var 0) .nil))) (.cons (.ret (.call .term_list (.cons (.var 0) .nil))) .nil))⟩
def from_terms : FDef := ⟨2, 7, false, (.cons (.ife (.not (.call .is_integer (.cons (.var 0) (.cons (.ci 1) (.cons (.ci 4) .nil))))) (.cons (.raise 2) .nil) .nil) (.cons (.set 2 (.idx .sizes (.bin .sub (.var 0) (.ci 1)))) (.cons (.ife (.or (.not (.isi (.var 1) .list)) (.not (.b1 .all (.lc (.call .is_integer (.cons (.var 4) (.cons (.ci 0) (.cons (.bin .sub (.var 2) (.ci 1)) .nil)))) [4] (.over (.var 1)) .none)))) (.cons (.raise 4) .nil) .nil) (.cons (.ife (.not (.b1 .all (.lc (.cmp .lt (.var 5) (.var 6)) [5, 6] (.zip (.var 1) (.sl (.var 1) (.some (.ci 1)) .none)) .none))) (.cons (.raise 4) .nil) .nil) (.cons (.ret (.b1 .tuple (.call .folded (.cons (.lc (.ife (.cmp .isin (.var 3) (.var 1)) (.ci 1) (.ci 0)) [3] (.range (.var 2)) .none) .nil)))) .nil)))))⟩
def degree : FDef := ⟨1, 2, false, (.cons (.expr (.call .check_function (.cons (.var 0) .nil))) (.cons (.ret (.b1 .max (.bin .add (.lc (.call .bit_count (.cons (.var 1) .nil)) [1] (.over (.call .term_list (.cons (.var 0) .nil))) .none) (.lst (.cons (.ci 0) .nil))))) .nil))⟩
def law_inside : FDef := ⟨2, 4, false, (.cons (.set 2 (.call .l_bits_in (.cons (.var 1) .nil))) (.cons (.ret (.cmp .eq (.lc (.var 3) [3] (.over (.call .l_bits_in (.cons (.var 0) .nil))) (.some (.cmp .notin (.var 3) (.var 2)))) (.lst .nil))) .nil))⟩
def bits_of : FDef := ⟨1, 1, false, (.cons (.ret (.bin .add (.m1 .tix .sizes (.b1 .len (.var 0))) (.ci 1))) .nil)⟩
def quiet_for : FDef := ⟨2, 4, false, (.cons (.ret (.b1 .all (.lc (.cmp .eq (.var 3) (.ci 0)) [2, 3] (.enum (.call .wave_of (.cons (.var 0) .nil))) (.some (.chain .le .le (.ci 1) (.call .bit_count (.cons (.var 2) .nil)) (.var 1)))))) .nil)⟩
def keeps_quiet : FDef := ⟨2, 2, false, (.cons (.expr (.call .check_function (.cons (.var 0) .nil))) (.cons (.ife (.not (.call .is_integer (.cons (.var 1) (.cons (.ci 0) (.cons (.call .bits_of (.cons (.var 0) .nil)) .nil))))) (.cons (.raise 2) .nil) .nil) (.cons (.ret (.call .quiet_for (.cons (.var 0) (.cons (.var 1) .nil)))) .nil)))⟩
def quiet : FDef := ⟨1, 2, false, (.cons (.expr (.call .check_function (.cons (.var 0) .nil))) (.cons (.ret (.b1 .max (.lc (.var 1) [1] (.range (.bin .add (.call .bits_of (.cons (.var 0) .nil)) (.ci 1))) (.some (.call .quiet_for (.cons (.var 0) (.cons (.var 1) .nil))))))) .nil))⟩
def fixed : FDef := ⟨3, 6, false, (.cons (.expr (.call .check_function (.cons (.var 0) .nil))) (.cons (.expr (.call .check_mask (.cons (.var 1) (.cons (.b1 .len (.var 0)) .nil)))) (.cons (.expr (.call .check_mask (.cons (.var 2) (.cons (.b1 .len (.var 0)) .nil)))) (.cons (.set 3 (.call .common (.cons (.var 1) (.cons (.var 2) .nil)))) (.cons (.ret (.b1 .len (.lc (.ci 1) [4, 5] (.enum (.var 0)) (.some (.and (.cmp .eq (.var 5) (.ci 1)) (.cmp .eq (.call .common (.cons (.var 1) (.cons (.var 4) .nil))) (.var 3))))))) .nil)))))⟩
def leaned : FDef := ⟨2, 4, false, (.cons (.ret (.b1 .tuple (.lc (.bin .mod (.bin .add (.var 2) (.var 3)) (.ci 2)) [2, 3] (.zip (.var 0) (.call .straight (.cons (.b1 .len (.var 0)) (.cons (.var 1) .nil)))) .none))) .nil)⟩
def opposite : FDef := ⟨1, 2, false, (.cons (.ret (.b1 .tuple (.lc (.bin .sub (.ci 1) (.var 1)) [1] (.over (.var 0)) .none))) .nil)⟩
def shifted : FDef := ⟨2, 2, false, (.cons (.expr (.call .check_function (.cons (.var 0) .nil))) (.cons (.expr (.call .check_mask (.cons (.var 1) (.cons (.b1 .len (.var 0)) .nil)))) (.cons (.ret (.call .moved (.cons (.var 0) (.cons (.var 1) .nil)))) .nil)))⟩
def tilted : FDef := ⟨2, 2, false, (.cons (.expr (.call .check_function (.cons (.var 0) .nil))) (.cons (.expr (.call .check_mask (.cons (.var 1) (.cons (.b1 .len (.var 0)) .nil)))) (.cons (.ret (.call .leaned (.cons (.var 0) (.cons (.var 1) .nil)))) .nil)))⟩
def turned : FDef := ⟨1, 1, false, (.cons (.expr (.call .check_function (.cons (.var 0) .nil))) (.cons (.ret (.call .opposite (.cons (.var 0) .nil))) .nil))⟩
def join : FDef := ⟨2, 4, false, (.cons (.expr (.call .check_function (.cons (.var 0) .nil))) (.cons (.expr (.call .check_function (.cons (.var 1) .nil))) (.cons (.set 2 (.bin .mul (.b1 .len (.var 0)) (.b1 .len (.var 1)))) (.cons (.ife (.cmp .notin (.var 2) .sizes) (.cons (.raise 6) .nil) .nil) (.cons (.ret (.b1 .tuple (.lc (.bin .mod (.bin .add (.idx (.var 0) (.bin .mod (.var 3) (.b1 .len (.var 0)))) (.idx (.var 1) (.bin .fdiv (.var 3) (.b1 .len (.var 0))))) (.ci 2)) [3] (.range (.var 2)) .none))) .nil)))))⟩
def text_of : FDef := ⟨1, 2, false, (.cons (.ret (.m1 .join (.cs "") (.lc (.b1 .str (.var 1)) [1] (.over (.var 0)) .none))) .nil)⟩
def format_function : FDef := ⟨1, 1, false, (.cons (.expr (.call .check_function (.cons (.var 0) .nil))) (.cons (.ret (.call .text_of (.cons (.var 0) .nil))) .nil))⟩
def parse_function : FDef := ⟨1, 3, false, (.cons (.ife (.or (.not (.isi (.var 0) .str)) (.not (.b1 .all (.lc (.cmp .isin (.var 2) (.cs "01")) [2] (.over (.var 0)) .none)))) (.cons (.raise 8) .nil) .nil) (.cons (.set 1 (.b1 .tuple (.lc (.b1 .int (.var 2)) [2] (.over (.var 0)) .none))) (.cons (.ife (.not (.call .is_function (.cons (.var 1) .nil))) (.cons (.raise 8) .nil) .nil) (.cons (.ret (.var 1)) .nil))))⟩
def t_init : FDef := ⟨2, 2, false, (.cons (.expr (.call .check_function (.cons (.var 1) .nil))) (.cons (.fset (.var 0) (.lst (.cons (.var 1) .nil))) (.cons (.kset (.var 0) (.ci 1)) .nil)))⟩
def t_flip : FDef := ⟨2, 3, false, (.cons (.set 2 (.fidx (.var 0) (-1))) (.cons (.expr (.call .check_mask (.cons (.var 1) (.cons (.b1 .len (.var 2)) .nil)))) (.cons (.fapp (.var 0) (.bin .add (.bin .add (.sl (.var 2) .none (.some (.var 1))) (.tup (.cons (.bin .sub (.ci 1) (.idx (.var 2) (.var 1))) .nil))) (.sl (.var 2) (.some (.bin .add (.var 1) (.ci 1))) .none))) (.cons (.ret (.call .gap_of (.cons (.fidx (.var 0) (-1)) .nil))) .nil))))⟩
def t_shift : FDef := ⟨2, 2, false, (.cons (.expr (.call .check_mask (.cons (.var 1) (.cons (.b1 .len (.fidx (.var 0) (-1))) .nil)))) (.cons (.fapp (.var 0) (.call .moved (.cons (.fidx (.var 0) (-1)) (.cons (.var 1) .nil)))) (.cons (.ret (.fidx (.var 0) (-1))) .nil)))⟩
def t_tilt : FDef := ⟨2, 2, false, (.cons (.expr (.call .check_mask (.cons (.var 1) (.cons (.b1 .len (.fidx (.var 0) (-1))) .nil)))) (.cons (.fapp (.var 0) (.call .leaned (.cons (.fidx (.var 0) (-1)) (.cons (.var 1) .nil)))) (.cons (.ret (.fidx (.var 0) (-1))) .nil)))⟩
def t_turn : FDef := ⟨1, 1, false, (.cons (.fapp (.var 0) (.call .opposite (.cons (.fidx (.var 0) (-1)) .nil))) (.cons (.ret (.fidx (.var 0) (-1))) .nil))⟩
def t_function : FDef := ⟨1, 1, false, (.cons (.ret (.fidx (.var 0) (-1))) .nil)⟩
def t_path : FDef := ⟨1, 1, false, (.cons (.ret (.flist (.var 0))) .nil)⟩
def t_undo : FDef := ⟨1, 1, false, (.cons (.ife (.cmp .eq (.flen (.var 0)) (.kept (.var 0))) (.cons (.raise 7) .nil) .nil) (.cons (.fset (.var 0) (.fsl (.var 0) none (some (-1)))) (.cons (.ret (.fidx (.var 0) (-1))) .nil)))⟩
def t_duplicate : FDef := ⟨1, 2, true, (.cons (.set 1 (.mk (.fidx (.var 0) (0)))) (.cons (.fset (.var 1) (.flist (.var 0))) (.cons (.kset (.var 1) (.flen (.var 0))) (.cons (.ret (.var 1)) .nil))))⟩
def t_eq : FDef := ⟨2, 2, false, (.cons (.ret (.and (.tis (.var 1)) (.feq (.var 0) (.var 1)))) .nil)⟩
def t_len : FDef := ⟨1, 1, false, (.cons (.ret (.b1 .len (.fsl (.var 0) (some (1)) none))) .nil)⟩
def t_str : FDef := ⟨1, 1, false, (.cons (.ret (.b1 .str (.call .text_of (.cons (.fidx (.var 0) (-1)) .nil)))) .nil)⟩
def law_tuned : FDef := ⟨4, 13, false, (.cons (.boxset 4 (.b1 .list (.var 3))) (.cons (.set 5 (.b1 .len (.idx (.var 4) (.ci 0)))) (.cons (.for_ [6] (.range (.call .l_draw (.cons (.var 0) (.cons (.var 1) (.cons (.ci 6) .nil))))) (.cons (.par [8, 9] (.cons (.idx (.var 4) (.neg (.ci 1))) (.cons (.call .l_draw (.cons (.var 0) (.cons (.var 1) (.cons (.var 5) .nil)))) .nil))) (.cons (.set 7 (.call .l_draw (.cons (.var 0) (.cons (.var 1) (.cons (.ci 4) .nil))))) (.cons (.ife (.cmp .eq (.var 7) (.ci 0)) (.cons (.app (.var 4) (.bin .add (.bin .add (.sl (.var 8) .none (.some (.var 9))) (.tup (.cons (.bin .sub (.ci 1) (.idx (.var 8) (.var 9))) .nil))) (.sl (.var 8) (.some (.bin .add (.var 9) (.ci 1))) .none))) (.cons (.set 10 (.bin .fdiv (.b1 .min (.lc (.bin .sub (.var 5) (.b2 .max (.var 11) (.bin .sub (.ci 0) (.var 11)))) [11] (.over (.call .l_likes (.cons (.idx (.var 4) (.neg (.ci 1))) .nil))) .none)) (.ci 2))) (.cons (.ife (.cmp .ne (.meth (.var 2) .t_flip (.cons (.var 9) .nil)) (.var 10)) (.cons (.ret .cn) .nil) .nil) .nil))) (.cons (.ife (.cmp .eq (.var 7) (.ci 1)) (.cons (.app (.var 4) (.b1 .tuple (.lc (.idx (.var 8) (.call .l_cross (.cons (.var 12) (.cons (.var 9) .nil)))) [12] (.range (.var 5)) .none))) .nil) (.cons (.ife (.cmp .eq (.var 7) (.ci 2)) (.cons (.app (.var 4) (.b1 .tuple (.lc (.bin .mod (.bin .add (.var 11) (.call .l_odd (.cons (.var 9) (.cons (.var 12) .nil)))) (.ci 2)) [12, 11] (.enum (.var 8)) .none))) .nil) (.cons (.app (.var 4) (.b1 .tuple (.lc (.bin .sub (.ci 1) (.var 11)) [11] (.over (.var 8)) .none))) .nil)) .nil)) .nil)) (.cons (.ife (.or (.and (.cmp .eq (.var 7) (.ci 1)) (.cmp .ne (.meth (.var 2) .t_shift (.cons (.var 9) .nil)) (.idx (.var 4) (.neg (.ci 1))))) (.and (.cmp .eq (.var 7) (.ci 2)) (.cmp .ne (.meth (.var 2) .t_tilt (.cons (.var 9) .nil)) (.idx (.var 4) (.neg (.ci 1)))))) (.cons (.ret .cn) .nil) .nil) (.cons (.ife (.and (.cmp .eq (.var 7) (.ci 3)) (.cmp .ne (.meth (.var 2) .t_turn .nil) (.idx (.var 4) (.neg (.ci 1))))) (.cons (.ret .cn) .nil) .nil) .nil)))))) (.cons (.ret (.var 4)) .nil))))⟩
end D
end Sw
end

section
/-! SwEv: evaluation by simp. -/
namespace Sw
open PySem (Str)
theorem rbind_congr {α β : Type} {r r' : Res α} {f : α → Store → Res β} (h : r = r') : r.bind f = r'.bind f := by rw [h]
theorem sbind_congr {α : Type} {r r' : Res α} {f : α → Store → SRes} (h : r = r') : r.sbind f = r'.sbind f := by rw [h]
theorem srbind_congr {r r' : SRes} {f : Env → Store → SRes} (h : r = r') : r.bind f = r'.bind f := by rw [h]
section
variable {C : Orc} {ρ : Env} {st : Store} {a b c g o : Ex} {as : Exs}
@[simp] theorem ev_var {i : Nat} {v : Val} (h : ρ[i]? = some (some v)) : ev C (.var i) ρ st = .ok v st := by simp only [ev, h]
@[simp] theorem ev_ci {i : Int} : ev C (.ci i) ρ st = .ok (.int i) st := by simp only [ev]
@[simp] theorem ev_cb {i : Bool} : ev C (.cb i) ρ st = .ok (.bl i) st := by simp only [ev]
@[simp] theorem ev_cn : ev C .cn ρ st = .ok .non st := by simp only [ev]
@[simp] theorem ev_cs {s : Str} : ev C (.cs s) ρ st = .ok (.str s) st := by simp only [ev]
@[simp] theorem ev_sizes : ev C .sizes ρ st = .ok (.tup [.int 2, .int 4, .int 8, .int 16]) st := by simp only [ev]
@[simp] theorem ev_fv {f : Fn} : ev C (.fv f) ρ st = .ok (.fn f) st := by simp only [ev]
@[simp] theorem ev_bin {p : Bop} : ev C (.bin p a b) ρ st = (ev C a ρ st).bind fun x st1 => (ev C b ρ st1).bind fun y st2 => lift (binop p (deref st2 x) (deref st2 y)) st2 := by simp only [ev]
@[simp] theorem ev_neg : ev C (.neg a) ρ st = (ev C a ρ st).bind fun x st1 => lift ((intV x).map fun i => .int (-i)) st1 := by simp only [ev]
@[simp] theorem ev_cmp {p : Cop} : ev C (.cmp p a b) ρ st = (ev C a ρ st).bind fun x st1 => (ev C b ρ st1).bind fun y st2 => lift ((cmpop p (deref st2 x) (deref st2 y)).map .bl) st2 := by simp only [ev]
@[simp] theorem ev_call {f : Fn} : ev C (.call f as) ρ st = (evs C as ρ st).bind fun vs st1 => C f vs st1 := by simp only [ev]
@[simp] theorem ev_b1 {f : B1} : ev C (.b1 f a) ρ st = (ev C a ρ st).bind fun x st1 => lift (op1 f (deref st1 x)) st1 := by simp only [ev]
@[simp] theorem ev_b2 {f : B2} : ev C (.b2 f a b) ρ st = (ev C a ρ st).bind fun x st1 => (ev C b ρ st1).bind fun y st2 => lift (op2 f x y) st2 := by simp only [ev]
@[simp] theorem ev_idx : ev C (.idx a b) ρ st = (ev C a ρ st).bind fun x st1 => (ev C b ρ st1).bind fun y st2 => lift (opIx (deref st2 x) y) st2 := by simp only [ev]
@[simp] theorem ev_not : ev C (.not a) ρ st = (ev C a ρ st).bind fun x st1 => lift ((boolV x).map fun b => .bl (!b)) st1 := by simp only [ev]
@[simp] theorem ev_isi {t : Ty} : ev C (.isi a t) ρ st = (ev C a ρ st).bind fun x st1 => lift ((isTy st1 x t).map .bl) st1 := by simp only [ev]
@[simp] theorem ev_tup : ev C (.tup as) ρ st = (evs C as ρ st).bind fun vs st1 => if vs.all Val.pure && vs.length ≤ lim then .ok (.tup vs) st1 else .bad := by simp only [ev]
@[simp] theorem ev_lst : ev C (.lst as) ρ st = (evs C as ρ st).bind fun vs st1 => if vs.all Val.pure && vs.length ≤ lim then .ok (.lst vs) st1 else .bad := by simp only [ev]
@[simp] theorem evs_nil : evs C .nil ρ st = .ok [] st := by simp only [evs]
@[simp] theorem evs_cons : evs C (.cons a as) ρ st = (ev C a ρ st).bind fun v st1 => (evs C as ρ st1).bind fun vs st2 => .ok (v :: vs) st2 := by simp only [evs]
/-- a choice by a truth -/
def pick {α : Type} (v : Val) (x y z : α) : α := match v with
  | .bl true => x
  | .bl false => y
  | _ => z
@[simp] theorem pick_t {α : Type} {x y z : α} : pick (.bl true) x y z = x := rfl
@[simp] theorem pick_f {α : Type} {x y z : α} : pick (.bl false) x y z = y := rfl
theorem pick_congr {α : Type} {v w : Val} {x y z : α} (h : v = w) : pick v x y z = pick w x y z := by rw [h]
@[simp] theorem ev_and : ev C (.and a b) ρ st = (ev C a ρ st).bind fun x st1 => pick x (ev C b ρ st1) (.ok (.bl false) st1) .bad := by
  simp only [ev]
  congr 1
@[simp] theorem ev_or : ev C (.or a b) ρ st = (ev C a ρ st).bind fun x st1 => pick x (.ok (.bl true) st1) (ev C b ρ st1) .bad := by
  simp only [ev]
  congr 1
@[simp] theorem ev_ife : ev C (.ife c a b) ρ st = (ev C c ρ st).bind fun x st1 => pick x (ev C a ρ st1) (ev C b ρ st1) .bad := by
  simp only [ev]
  congr 1
@[simp] theorem ex_nil : execs C .nil ρ st = .next ρ st := by simp only [execs]
@[simp] theorem ex_cons {s : St} {ss : Sts} : execs C (.cons s ss) ρ st = (exec C s ρ st).bind fun ρ' st' => execs C ss ρ' st' := by simp only [execs]
@[simp] theorem ex_set {i : Nat} : exec C (.set i a) ρ st = (ev C a ρ st).sbind fun v st1 => .next (ρ.set i (some v)) st1 := by simp only [exec]
@[simp] theorem ex_ret : exec C (.ret a) ρ st = (ev C a ρ st).sbind fun v st1 => .ret v st1 := by simp only [exec]
@[simp] theorem ex_expr : exec C (.expr a) ρ st = (ev C a ρ st).sbind fun _ st1 => .next ρ st1 := by simp only [exec]
@[simp] theorem ex_ife {x y : Sts} : exec C (.ife c x y) ρ st = (ev C c ρ st).sbind fun v st1 => pick v (execs C x ρ st1) (execs C y ρ st1) .bad := by
  simp only [exec]
  congr 1
def forB (C : Orc) (body : Sts) (tg : List Nat) (bx : Option (Nat × List Val)) (its : List (List Val)) (ρ : Env) (st : Store) : SRes := forLoop bx (fun vs ρ1 s => execs C body (setAll ρ1 tg vs) s) its ρ st
theorem forB_nil {body : Sts} {tg : List Nat} {bx : Option (Nat × List Val)} (h : bxOk st bx = true) : forB C body tg bx [] ρ st = .next ρ st := by simp [forB, forLoop, h]
theorem forB_cons {body : Sts} {tg : List Nat} {bx : Option (Nat × List Val)} {vs : List Val} {its : List (List Val)} (h : bxOk st bx = true) : forB C body tg bx (vs :: its) ρ st = (execs C body (setAll ρ tg vs) st).bind fun ρ' st' => forB C body tg bx its ρ' st' := by simp only [forB, forLoop, h, if_true]
@[simp] theorem ex_for {tg : List Nat} {it : It} {body : Sts} : exec C (.for_ tg it body) ρ st = (evi C it ρ st).sbind fun is st1 => forB C body tg is.2 is.1 ρ st1 := by simp only [exec, forB]
@[simp] theorem ex_raise {n : Nat} : exec C (.raise n) ρ st = .exc n st := by simp only [exec]
@[simp] theorem evi_range : evi C (.range a) ρ st = (ev C a ρ st).bind fun v st1 => lift (rangeV v) st1 := by simp only [evi]
@[simp] theorem evi_over : evi C (.over a) ρ st = (ev C a ρ st).bind fun v st1 => lift (overV st1 v) st1 := by simp only [evi]
@[simp] theorem evi_zip : evi C (.zip a b) ρ st = (ev C a ρ st).bind fun v st1 => (ev C b ρ st1).bind fun w st2 => lift (zipB st2 v w) st2 := by simp only [evi]
@[simp] theorem zipB_tt {xs ys : List Val} : zipB st (.tup xs) (.tup ys) = zipOf (.tup xs) (.tup ys) := rfl
@[simp] theorem zipB_tl {xs ys : List Val} : zipB st (.tup xs) (.lst ys) = zipOf (.tup xs) (.lst ys) := rfl
@[simp] theorem zipB_ll {xs ys : List Val} : zipB st (.lst xs) (.lst ys) = zipOf (.lst xs) (.lst ys) := rfl
theorem zipB_of {v w : Val} {is : Items} (h : zipOf v w = some is) : zipB st v w = some is := by
  unfold zipB
  split
  · simp [zipOf] at h
  · exact h
@[simp] theorem evi_enum : evi C (.enum a) ρ st = (ev C a ρ st).bind fun v st1 => lift (enumOf st1 v) st1 := by simp only [evi]
end
section
variable {st : Store} {xs ys : List Val} {i j : Int} {n m : Nat} {s : Str} {b : Bool} {f : Fn}
@[simp] theorem deref_non : deref st .non = .non := rfl
@[simp] theorem deref_bl : deref st (.bl b) = .bl b := rfl
@[simp] theorem deref_int : deref st (.int i) = .int i := rfl
@[simp] theorem deref_str : deref st (.str s) = .str s := rfl
@[simp] theorem deref_tup : deref st (.tup xs) = .tup xs := rfl
@[simp] theorem deref_lst : deref st (.lst xs) = .lst xs := rfl
@[simp] theorem deref_slst : deref st (.slst xs) = .slst xs := rfl
@[simp] theorem deref_fn : deref st (.fn f) = .fn f := rfl
@[simp] theorem deref_box (h : st[n]? = some (.list xs)) : deref st (.box n) = .lst xs := by simp only [deref, h]
@[simp] theorem seq_tup : seqOf (.tup xs) = some xs := rfl
@[simp] theorem seq_lst : seqOf (.lst xs) = some xs := rfl
@[simp] theorem seq_slst : seqOf (.slst xs) = some xs := rfl
@[simp] theorem len_tup : op1 .len (.tup xs) = some (.int xs.length) := rfl
@[simp] theorem len_lst : op1 .len (.lst xs) = some (.int xs.length) := rfl
@[simp] theorem len_slst : op1 .len (.slst xs) = some (.int xs.length) := rfl
@[simp] theorem tuple_lst : op1 .tuple (.lst xs) = some (.tup xs) := rfl
@[simp] theorem cmp_lt : cmpop .lt (.int i) (.int j) = some (decide (i < j)) := rfl
@[simp] theorem cmp_le : cmpop .le (.int i) (.int j) = some (decide (i ≤ j)) := rfl
@[simp] theorem cmp_gt : cmpop .gt (.int i) (.int j) = some (decide (j < i)) := rfl
@[simp] theorem cmp_ge : cmpop .ge (.int i) (.int j) = some (decide (j ≤ i)) := rfl
@[simp] theorem cmp_eqI : cmpop .eq (.int i) (.int j) = some (i == j) := rfl
@[simp] theorem cmp_neI : cmpop .ne (.int i) (.int j) = some (!(i == j)) := rfl
@[simp] theorem add_int : binop .add (.int i) (.int j) = some (.int (i + j)) := rfl
@[simp] theorem sub_int : binop .sub (.int i) (.int j) = some (.int (i - j)) := rfl
theorem mul_int (h : (-18446744073709551616 < i ∧ i < 18446744073709551616) ∨ (-18446744073709551616 < j ∧ j < 18446744073709551616)) : binop .mul (.int i) (.int j) = some (.int (i * j)) := by
  simp only [binop]
  rw [if_pos]
  simpa [Bool.or_eq_true, Bool.and_eq_true, decide_eq_true_eq] using h
@[simp] theorem mul_lit (n : Nat) (h : (OfNat.ofNat n : Int) < 18446744073709551616) : binop .mul (.int i) (.int (OfNat.ofNat n)) = some (.int (i * OfNat.ofNat n)) := mul_int (.inr ⟨by have : (0:Int) ≤ OfNat.ofNat n := Int.natCast_nonneg n; omega, h⟩)
theorem fdiv_int (h : 0 < j ∧ j < 1073741824) : binop .fdiv (.int i) (.int j) = some (.int (i / j)) := by
  simp only [binop]
  rw [if_pos]
  simpa [Bool.and_eq_true, decide_eq_true_eq] using h
theorem mod_int (h : 0 < j) : binop .mod (.int i) (.int j) = some (.int (i % j)) := by
  simp only [binop]
  rw [if_pos]
  simpa using h
@[simp] theorem intV_int : intV (.int i) = some i := rfl
@[simp] theorem boolV_bl : boolV (.bl b) = some b := rfl
@[simp] theorem boxOk_none : bxOk st none = true := rfl
end
theorem callN_succ {T : Fn → Option FDef} {k : Nat} {f : Fn} {d : FDef} {vs : List Val} {st : Store} (h : T f = some d) : callN T (k + 1) f vs st = callD (callN T k) d vs st := by simp [callN, h]
theorem dat_ints (ns : List Int) : (ns.map Val.int).all (dat 7) = true := by
  simp [List.all_eq_true, dat]
theorem veqs_nil (ns : List Int) : veqs (ns.map Val.int) [] = ns.isEmpty := by cases ns <;> simp [veqs]
theorem fin_no {n : Nat} {v : Val} {st : Store} (h : ∀ m, v ≠ .box m) (hs : st.length = n) : fin false n v st = .ok v st := by
  unfold fin
  subst hs
  cases v <;> simp
  exact absurd rfl (h _)
@[simp] theorem fin_int {st : Store} {i : Int} : fin false st.length (.int i) st = .ok (.int i) st := fin_no (fun _ w => by cases w) rfl
@[simp] theorem fin_bl {st : Store} {i : Bool} : fin false st.length (.bl i) st = .ok (.bl i) st := fin_no (fun _ w => by cases w) rfl
@[simp] theorem fin_tup {st : Store} {i : List Val} : fin false st.length (.tup i) st = .ok (.tup i) st := fin_no (fun _ w => by cases w) rfl
@[simp] theorem fin_lst {st : Store} {i : List Val} : fin false st.length (.lst i) st = .ok (.lst i) st := fin_no (fun _ w => by cases w) rfl
@[simp] theorem fin_non {st : Store} : fin false st.length .non st = .ok .non st := fin_no (fun _ w => by cases w) rfl
/-- a call's end by the body's -/
def endC (d : FDef) (n0 : Nat) : SRes → Res Val
  | .ret v st1 => fin d.keep n0 v st1
  | .next _ st1 => fin d.keep n0 .non st1
  | .exc c st1 => .exc c (st1.take n0)
  | .bad => .bad
theorem callD_eq {C : Orc} {d : FDef} {vs : List Val} {st : Store} (h : vs.length = d.np) : callD C d vs st = endC d st.length (execs C d.body (vs.map some ++ List.replicate (d.ns - d.np) none) st) := by
  unfold callD
  rw [if_pos h]
  unfold endC
  cases execs C d.body (vs.map some ++ List.replicate (d.ns - d.np) none) st <;> rfl
@[simp] theorem endC_ret {d : FDef} {n0 : Nat} {v : Val} {st : Store} : endC d n0 (.ret v st) = fin d.keep n0 v st := rfl
@[simp] theorem endC_next {d : FDef} {n0 : Nat} {ρ : Env} {st : Store} : endC d n0 (.next ρ st) = fin d.keep n0 .non st := rfl
@[simp] theorem endC_exc {d : FDef} {n0 c : Nat} {st : Store} : endC d n0 (.exc c st) = .exc c (st.take n0) := rfl
end Sw
end

section
/-! SwDraw: what a law draws. -/
namespace Sw
open PySem (Str)
section
variable {T : Fn → Option FDef} {k : Nat} {ns : List Int} {st : Store}
theorem ix_int {j : Nat} (h : j < ns.length) : opIx (.slst (ns.map .int)) (.int (j : Int)) = some (.int (ns.getD j 0)) := by
  simp only [opIx, seq_slst, Option.bind_some, List.length_map, ixOf]
  rw [if_pos (by omega), if_pos (by omega)]
  simp [List.getD, h]
theorem spare_loop (C : Orc) (tl : List (List Val)) : ∀ (v : Int) (ρ : Env), ρ.length = 4 → ρ[2]? = some (some (.int v)) → (∀ vs ∈ tl, ∃ x, vs = [x]) → ∃ (v' : Int) (ρ' : Env), forB C (.cons (.set 2 (.bin .fdiv (.var 2) (.ci 1000003))) .nil) [3] none tl ρ st = .next ρ' st ∧ ρ'.length = 4 ∧ ρ'[0]? = ρ[0]? ∧ ρ'[1]? = ρ[1]? ∧ ρ'[2]? = some (some (.int v')) := by
  induction tl with
  | nil => intro v ρ hl h _; exact ⟨v, ρ, forB_nil rfl, hl, rfl, rfl, h⟩
  | cons vs tl ih =>
    intro v ρ hl h hv
    obtain ⟨x, rfl⟩ := hv vs (by simp)
    have h2 : (ρ.set 3 (some x))[2]? = some (some (.int v)) := by rw [List.getElem?_set_ne (by decide)]; exact h
    obtain ⟨v', ρ', e, e1, e2, e3, e4⟩ := ih (v / 1000003) ((ρ.set 3 (some x)).set 2 (some (.int (v / 1000003)))) (by simp [hl]) (by simp [hl]) (fun ws hw => hv ws (by simp [hw]))
    refine ⟨v', ρ', ?_, e1, ?_, ?_, e4⟩
    · rw [forB_cons rfl]
      simp -implicitDefEqProofs [setAll, ev_var h2, fdiv_int (show (0:Int) < 1000003 ∧ (1000003:Int) < 1073741824 by omega), e]
    · rw [e2]; simp
    · rw [e3]; simp
theorem op2_min {i j : Int} : op2 .min (.int i) (.int j) = some (.int (if j < i then j else i)) := rfl
theorem cell_at (h : T .l_cell_at = some D.law_cell_at) (i : Nat) (hi : i ≤ 100000) : ∃ v : Int, callN T (k + 1) .l_cell_at [.slst (ns.map .int), .int (i : Nat)] st = .ok (.int v) st := by
  rw [callN_succ h, callD_eq rfl]
  by_cases h1 : i < ns.length
  · refine ⟨ns.getD i 0, ?_⟩
    simp -implicitDefEqProofs [D.law_cell_at, h1, ix_int h1]
  · have hcmp : cmpop .eq (.slst (ns.map .int)) (.lst []) = some ns.isEmpty := by
      have e : cmpop .eq (.slst (ns.map .int)) (.lst []) = if (dat 8 (.lst (ns.map .int)) && dat 8 (.lst [])) = true then some (veq (.lst (ns.map .int)) (.lst [])) else none := rfl
      rw [e, if_pos (by simp [dat])]
      simp [veq, veqs_nil]
    cases ns with
    | nil => exact ⟨0, by simp at hcmp; simp -implicitDefEqProofs [D.law_cell_at, hcmp, lim, show ¬ ((i : Int) < 0) by omega]⟩
    | cons m ms =>
      have hcmp' : cmpop .eq (.slst ((m :: ms).map .int)) (.lst []) = some false := by rw [hcmp]; rfl
      generalize hns : m :: ms = ns at h1 hcmp' ⊢
      have hne : 0 < ns.length := by rw [← hns]; simp
      have hpos : (0:Int) < (ns.length : Int) := by omega
      have hmod : (i : Int) % (ns.length : Int) = ((i % ns.length : Nat) : Int) := by omega
      have hlt : i % ns.length < ns.length := Nat.mod_lt _ hne
      have hm : binop .mod (.int (i : Nat)) (.int (ns.length : Nat)) = some (.int ((i : Int) % (ns.length : Int))) := mod_int hpos
      have hix := ix_int (ns := ns) hlt
      rw [← hmod] at hix
      generalize ns.getD (i % ns.length) 0 = v0 at hix
      generalize (i : Int) % (ns.length : Int) = rr at hm hix
      have hd : binop .fdiv (.int (i : Nat)) (.int (ns.length : Nat)) = some (.int ((i : Int) / (ns.length : Int))) := fdiv_int ⟨hpos, by omega⟩
      have hq0 : (0 : Int) ≤ (i : Int) / (ns.length : Int) := Int.ediv_nonneg (by omega) (by omega)
      generalize (i : Int) / (ns.length : Int) = qq at hd hq0
      have hr : rangeV (.int (if 60 < qq then 60 else qq)) = some ((List.range (if 60 < qq then 60 else qq).toNat).map (fun i => [.int (i : Nat)]), none) := by
        simp only [rangeV]
        rw [if_pos]
        have : (if 60 < qq then 60 else qq) ≤ 60 ∧ 0 ≤ (if 60 < qq then 60 else qq) := by split <;> omega
        simp only [Bool.and_eq_true, decide_eq_true_eq]
        omega
      have ho : op2 .min (.int qq) (.int 60) = some (.int (if 60 < qq then 60 else qq)) := rfl
      generalize (if 60 < qq then 60 else qq) = mm at hr ho
      obtain ⟨v', ρ', e, e1, e2, e3, e4⟩ := spare_loop (st := st) (callN T k) ((List.range mm.toNat).map (fun i => [.int (i : Nat)])) v0 [some (.slst (ns.map .int)), some (.int (i : Nat)), some (.int v0), none] rfl rfl (fun vs hv => by
        obtain ⟨j, _, rfl⟩ := List.mem_map.mp hv
        exact ⟨_, rfl⟩)
      have e2' : ρ'[0]? = some (some (.slst (ns.map .int))) := by rw [e2]; rfl
      have e3' : ρ'[1]? = some (some (.int (i : Nat))) := by rw [e3]; rfl
      have m1 : binop .mul (.int v0) (.int 31) = some (.int (v0 * 31)) := mul_int (.inr (by omega))
      have m2 : binop .mul (.int v') (.int 101) = some (.int (v' * 101)) := mul_int (.inr (by omega))
      refine ⟨v0 * 31 + i + v' * 101, ?_⟩
      simp -implicitDefEqProofs [D.law_cell_at, h1, hcmp', hm, hix, hd, ho, hr, e, e2', e3', e4, m1, m2]
theorem mixed_ok (h : T .l_cell_at = some D.law_cell_at) (h' : T .l_mixed = some D.law_mixed) (i : Nat) (hi : i ≤ 100000) (many : Int) (hm : 0 < many) : ∃ v : Int, 0 ≤ v ∧ v < many ∧ callN T (k + 2) .l_mixed [.slst (ns.map .int), .int (i : Nat), .int many] st = .ok (.int v) st := by
  obtain ⟨c, hc⟩ := cell_at (T := T) (k := k) (ns := ns) (st := st) h i hi
  have m1 : binop .mul (.int c) (.int 1103515245) = some (.int (c * 1103515245)) := mul_int (.inr (by omega))
  have m2 : binop .mul (.int 7919) (.int (i : Nat)) = some (.int (7919 * i)) := mul_int (.inl (by omega))
  have m3 : ∀ x : Int, binop .mod (.int x) (.int 2147483647) = some (.int (x % 2147483647)) := fun x => mod_int (by omega)
  have m4 : ∀ x : Int, binop .mod (.int x) (.int 999983) = some (.int (x % 999983)) := fun x => mod_int (by omega)
  have m5 : ∀ x : Int, binop .mod (.int x) (.int many) = some (.int (x % many)) := fun x => mod_int hm
  have m6 : ∀ x : Int, binop .pow (.int (x % 2147483647)) (.int 5) = some (.int ((x % 2147483647) ^ 5)) := fun x => by
    have h1 : 0 ≤ x % 2147483647 := Int.emod_nonneg _ (by omega)
    have h2 : x % 2147483647 < 2147483647 := Int.emod_lt_of_pos _ (by omega)
    simp only [binop]
    rw [if_pos]
    · rfl
    · simp only [Bool.and_eq_true, decide_eq_true_eq]
      omega
  refine ⟨((c * 1103515245 + 7919 * i + 12345) % 2147483647) ^ 5 % 2147483647 % 999983 % many, Int.emod_nonneg _ (by omega), Int.emod_lt_of_pos _ hm, ?_⟩
  rw [callN_succ h', callD_eq rfl]
  simp -implicitDefEqProofs [D.law_mixed, hc, m1, m2, m3, m4, m5, m6]
theorem draw_ok (h : T .l_cell_at = some D.law_cell_at) (h' : T .l_mixed = some D.law_mixed) (h2 : T .l_draw = some D.law_draw) {b : Nat} {town : List Val} (hb : st[b]? = some (.list town)) (ht : town.length < 100000) (many : Int) (hm : 0 < many) :
    ∃ v : Int, 0 ≤ v ∧ v < many ∧ callN T (k + 3) .l_draw [.slst (ns.map .int), .box b, .int many] st = .ok (.int v) (st.set b (.list (town ++ [.int 0]))) := by
  have hl : b < st.length := (List.getElem?_eq_some_iff.mp hb).1
  have hb2 : (st.set b (.list (town ++ [.int 0])))[b]? = some (.list (town ++ [.int 0])) := by rw [List.getElem?_set_self hl]
  obtain ⟨v, v1, v2, hv⟩ := mixed_ok (T := T) (k := k) (ns := ns) (st := st.set b (.list (town ++ [.int 0]))) h h' (town.length + 1) (by omega) many hm
  refine ⟨v, v1, v2, ?_⟩
  rw [callN_succ h2, callD_eq rfl]
  have e : exec (callN T (k + 2)) (.app (.var 1) (.ci 0)) [some (.slst (ns.map .int)), some (.box b), some (.int many)] st = .next [some (.slst (ns.map .int)), some (.box b), some (.int many)] (st.set b (.list (town ++ [.int 0]))) := by
    simp only [exec, ev_var (v := .box b) (ρ := [some (.slst (ns.map .int)), some (.box b), some (.int many)]) (i := 1) rfl, Res.sbind_ok, deref_box hb, ev_ci, hb]
    rw [if_pos (by simp only [Val.pure, Bool.true_and, decide_eq_true_eq]; show town.length < 1000000; omega)]
  have hfin : ∀ x : Int, fin false st.length (.int x) (st.set b (.list (town ++ [.int 0]))) = .ok (.int x) (st.set b (.list (town ++ [.int 0]))) := fun x => fin_no (fun _ w => by cases w) (by simp)
  have hv' := hv
  simp only [Int.natCast_add, Int.cast_ofNat_Int] at hv'
  simp -implicitDefEqProofs [D.law_draw, e, deref_box hb2, hv', hfin]
end
end Sw
end

section
/-! SwSpec: what the defs give. -/
namespace Sw
open PySem (Str)
def lcStep (C : Orc) (mc : OEx) (me : Ex) (ρ : Env) (tg : List Nat) : List Val → Store → Res (Option Val) := fun vs s => (evc C mc (setAll (wipeAll ρ tg) tg vs) s).bind fun b s1 =>
  if b = true then (ev C me (setAll (wipeAll ρ tg) tg vs) s1).bind fun v s2 => Res.ok (some v) s2 else Res.ok none s1
section
variable {C : Orc} {ρ : Env} {st : Store} {me : Ex} {mc : OEx} {tg : List Nat} {it : It}
theorem comp_pure {f : List Val → Store → Res (Option Val)} {g : List Val → Option Val} : ∀ (its : List (List Val)) (acc : List Val), (∀ vs ∈ its, ∀ s, f vs s = .ok (g vs) s) → (∀ vs ∈ its, ∀ v, g vs = some v → v.pure = true) → acc.length + its.length ≤ lim → compLoop none f its st acc = .ok (acc ++ its.filterMap g) st
  | [], acc, _, _, _ => by simp [compLoop]
  | vs :: its, acc, hf, hp, hl => by
    have hs : splitLast (st ++ [Cell.list acc]) = some (st, acc) := splitLast_snoc st acc
    have hl' : (st ++ [Cell.list acc]).length = st.length + 1 := by simp
    simp only [compLoop, bxOk, if_true, hf vs (by simp) (st ++ [.list acc]), hl', hs]
    simp only [List.length_cons] at hl
    cases hg : g vs with
    | none =>
      simp only [List.filterMap_cons, hg]
      exact comp_pure its acc (fun w hw => hf w (by simp [hw])) (fun w hw => hp w (by simp [hw])) (by omega)
    | some v =>
      simp only [List.filterMap_cons, hg]
      rw [if_pos (by simp only [hp vs (by simp) v hg, Bool.true_and, decide_eq_true_eq]; omega)]
      rw [comp_pure its (acc ++ [v]) (fun w hw => hf w (by simp [hw])) (fun w hw => hp w (by simp [hw])) (by simp; omega)]
      simp
theorem ev_lc {is : Items} {st1 : Store} (hi : evi C it ρ st = .ok is st1) (hl : is.1.length ≤ lim) : ev C (.lc me tg it mc) ρ st = (compLoop is.2 (lcStep C mc me ρ tg) is.1 st1 []).bind fun xs st2 => .ok (.lst xs) st2 := by
  simp only [ev, hi, Res.bind_ok, if_pos hl]
  rfl
theorem fm_some {α β : Type} {g : α → β} : ∀ l : List α, l.filterMap (fun v => some (g v)) = l.map g
  | [] => rfl
  | x :: l => by simp [fm_some l]
theorem fm_if {α β : Type} {p : α → Bool} {g : α → β} : ∀ l : List α, l.filterMap (fun v => if p v then some (g v) else none) = (l.filter p).map g
  | [] => rfl
  | x :: l => by
    simp only [List.filterMap_cons, List.filter_cons]
    cases p x <;> simp [fm_if l]
/-- a comprehension that changes nothing -/
theorem lc_pure {its : List (List Val)} {g : List Val → Option Val} (hi : evi C it ρ st = .ok (its, none) st) (hl : its.length ≤ lim) (hg : ∀ vs ∈ its, ∀ s, lcStep C mc me ρ tg vs s = .ok (g vs) s) (hp : ∀ vs ∈ its, ∀ v, g vs = some v → v.pure = true) :
    ev C (.lc me tg it mc) ρ st = .ok (.lst (its.filterMap g)) st := by
  rw [ev_lc hi hl, comp_pure its [] hg hp (by simpa using hl)]
  simp
theorem lc_map {its : List (List Val)} {g : List Val → Val} (hi : evi C it ρ st = .ok (its, none) st) (hl : its.length ≤ lim) (hg : ∀ vs ∈ its, ∀ s, ev C me (setAll (wipeAll ρ tg) tg vs) s = .ok (g vs) s) (hp : ∀ vs ∈ its, (g vs).pure = true) :
    ev C (.lc me tg it .none) ρ st = .ok (.lst (its.map g)) st := by
  rw [lc_pure (g := fun vs => some (g vs)) hi hl]
  · rw [fm_some]
  · intro vs hv s
    unfold lcStep
    simp only [evc, Res.bind_ok, if_true, hg vs hv s]
  · intro vs hv v e
    cases e
    exact hp vs hv
theorem lc_filt {its : List (List Val)} {p : List Val → Bool} {g : List Val → Val} {c : Ex} (hi : evi C it ρ st = .ok (its, none) st) (hl : its.length ≤ lim) (hc : ∀ vs ∈ its, ∀ s, ev C c (setAll (wipeAll ρ tg) tg vs) s = .ok (.bl (p vs)) s) (hg : ∀ vs ∈ its, p vs = true → ∀ s, ev C me (setAll (wipeAll ρ tg) tg vs) s = .ok (g vs) s) (hp : ∀ vs ∈ its, (g vs).pure = true) :
    ev C (.lc me tg it (.some c)) ρ st = .ok (.lst ((its.filter p).map g)) st := by
  rw [lc_pure (g := fun vs => if p vs then some (g vs) else none) hi hl]
  · rw [fm_if]
  · intro vs hv s
    unfold lcStep
    simp only [evc, hc vs hv s, Res.bind_ok, boolV_bl, lift_some]
    cases hq : p vs with
    | true => simp only [if_true, hg vs hv hq s, Res.bind_ok]
    | false => simp
  · intro vs hv v e
    split at e
    · cases e; exact hp vs hv
    · cases e
theorem comp_A {α : Type} {e : α → List Val} {f : List Val → Store → Res (Option Val)} {g : α → Option Val} : ∀ (l : List α) (acc : List Val), (∀ a ∈ l, ∀ s, f (e a) s = .ok (g a) s) → (∀ a ∈ l, ∀ v, g a = some v → v.pure = true) → acc.length + l.length ≤ lim → compLoop none f (l.map e) st acc = .ok (acc ++ l.filterMap g) st
  | [], acc, _, _, _ => by simp [compLoop]
  | a :: l, acc, hf, hp, hl => by
    have hs : splitLast (st ++ [Cell.list acc]) = some (st, acc) := splitLast_snoc st acc
    have hl' : (st ++ [Cell.list acc]).length = st.length + 1 := by simp
    simp only [List.map_cons, compLoop, bxOk, if_true, hf a (by simp) (st ++ [.list acc]), hl', hs]
    simp only [List.length_cons] at hl
    cases hg : g a with
    | none =>
      simp only [List.filterMap_cons, hg]
      exact comp_A l acc (fun w hw => hf w (by simp [hw])) (fun w hw => hp w (by simp [hw])) (by omega)
    | some v =>
      simp only [List.filterMap_cons, hg]
      rw [if_pos (by simp only [hp a (by simp) v hg, Bool.true_and, decide_eq_true_eq]; omega)]
      rw [comp_A l (acc ++ [v]) (fun w hw => hf w (by simp [hw])) (fun w hw => hp w (by simp [hw])) (by simp; omega)]
      simp
theorem lc_mapA {α : Type} {l : List α} {e : α → List Val} (g : α → Val) (hi : evi C it ρ st = .ok (l.map e, none) st) (hl : l.length ≤ lim) (hg : ∀ a ∈ l, ∀ s, ev C me (setAll (wipeAll ρ tg) tg (e a)) s = .ok (g a) s) (hp : ∀ a ∈ l, (g a).pure = true) :
    ev C (.lc me tg it .none) ρ st = .ok (.lst (l.map g)) st := by
  rw [ev_lc hi (by simpa using hl)]
  simp only
  rw [comp_A (g := fun a => some (g a)) l [] (fun a ha s => by unfold lcStep; simp only [evc, Res.bind_ok, if_true, hg a ha s]) (fun a ha v e => by cases e; exact hp a ha) (by simpa using hl)]
  simp [fm_some]
theorem lc_filtA {α : Type} {l : List α} {e : α → List Val} (p : α → Bool) (g : α → Val) {c : Ex} (hi : evi C it ρ st = .ok (l.map e, none) st) (hl : l.length ≤ lim) (hc : ∀ a ∈ l, ∀ s, ev C c (setAll (wipeAll ρ tg) tg (e a)) s = .ok (.bl (p a)) s) (hg : ∀ a ∈ l, p a = true → ∀ s, ev C me (setAll (wipeAll ρ tg) tg (e a)) s = .ok (g a) s) (hp : ∀ a ∈ l, (g a).pure = true) :
    ev C (.lc me tg it (.some c)) ρ st = .ok (.lst ((l.filter p).map g)) st := by
  rw [ev_lc hi (by simpa using hl)]
  simp only
  rw [comp_A (g := fun a => if p a then some (g a) else none) l [] (fun a ha s => by
    unfold lcStep
    simp only [evc, hc a ha s, Res.bind_ok, boolV_bl, lift_some]
    cases hq : p a with
    | true => simp only [if_true, hg a ha hq s, Res.bind_ok]
    | false => simp) (fun a ha v e => by
    split at e
    · cases e; exact hp a ha
    · cases e) (by simpa using hl)]
  simp [fm_if]
end
/-! ### values -/
def iv (xs : List Int) : List Val := xs.map .int
def blv (bs : List Bool) : List Val := bs.map .bl
@[simp] theorem iv_len (xs : List Int) : (iv xs).length = xs.length := by simp [iv]
theorem iv_mem {xs : List Int} {v : Val} (h : v ∈ iv xs) : ∃ x ∈ xs, v = .int x := by
  obtain ⟨x, h1, rfl⟩ := List.mem_map.mp h
  exact ⟨x, h1, rfl⟩
theorem sing_mem {xs : List Val} {vs : List Val} (h : vs ∈ xs.map fun x => [x]) : ∃ v ∈ xs, vs = [v] := by
  obtain ⟨x, h1, rfl⟩ := List.mem_map.mp h
  exact ⟨x, h1, rfl⟩
section
variable {T : Fn → Option FDef} {k : Nat} {st : Store}
@[simp] theorem isTy_int {i : Int} {t : Ty} : isTy st (.int i) t = some (match t with | .int => true | _ => false) := by cases t <;> rfl
@[simp] theorem isTy_tup {xs : List Val} {t : Ty} : isTy st (.tup xs) t = some (match t with | .tuple => true | _ => false) := by cases t <;> rfl
@[simp] theorem isTy_lst {xs : List Val} {t : Ty} : isTy st (.lst xs) t = some (match t with | .list => true | _ => false) := by cases t <;> rfl
@[simp] theorem ev_chain {C : Orc} {ρ : Env} {o p : Cop} {a b c : Ex} : ev C (.chain o p a b c) ρ st = (ev C a ρ st).bind fun x st1 => (ev C b ρ st1).bind fun y st2 => (lift ((cmpop o (deref st2 x) (deref st2 y)).map .bl) st2).bind fun r st3 => pick r ((ev C c ρ st2).bind fun z st3 => lift ((cmpop p (deref st3 y) (deref st3 z)).map .bl) st3) (.ok (.bl false) st2) .bad := by
  simp only [ev]
  congr 1
  funext x st1
  congr 1
  funext y st2
  cases cmpop o (deref st2 x) (deref st2 y) with
  | none => rfl
  | some r => cases r <;> rfl
theorem is_integer_ok (h : T .is_integer = some D.is_integer) (v lo hi : Int) : callN T (k + 1) .is_integer [.int v, .int lo, .int hi] st = .ok (.bl (decide (lo ≤ v) && decide (v ≤ hi))) st := by
  rw [callN_succ h, callD_eq rfl]
  by_cases h1 : lo ≤ v
  · simp -implicitDefEqProofs [D.is_integer, h1]
  · simp -implicitDefEqProofs [D.is_integer, h1]
def SizeOk (n : Nat) : Prop := n = 2 ∨ n = 4 ∨ n = 8 ∨ n = 16
def IsF (xs : List Int) : Prop := SizeOk xs.length ∧ ∀ x ∈ xs, x = 0 ∨ x = 1
theorem size_in {n : Nat} (h : SizeOk n) : cmpop .notin (.int (n : Nat)) (.tup [.int 2, .int 4, .int 8, .int 16]) = some false := by
  rcases h with rfl | rfl | rfl | rfl <;> rfl
theorem over_tup {C : Orc} {ρ : Env} {i : Nat} {xs : List Val} (h : ρ[i]? = some (some (.tup xs))) : evi C (.over (.var i)) ρ st = .ok (xs.map ([·]), none) st := by
  rw [evi_over, ev_var h]
  rfl
theorem allB : ∀ bs : List Bool, boolsOf (bs.map Val.bl) = some bs
  | [] => rfl
  | b :: bs => by simp [boolsOf, allB bs]
theorem all_bl (bs : List Bool) : op1 .all (.lst (blv bs)) = some (.bl (bs.all id)) := by simp [op1, blv, allB]
theorem is_function_ok (h : T .is_integer = some D.is_integer) (h2 : T .is_function = some D.is_function) {xs : List Int} (hx : IsF xs) : callN T (k + 2) .is_function [.tup (iv xs)] st = .ok (.bl true) st := by
  rw [callN_succ h2, callD_eq rfl]
  have hsz := size_in hx.1
  have hlim : xs.length ≤ lim := by rcases hx.1 with e | e | e | e <;> rw [e] <;> decide
  have hlc : ∀ ρ : Env, ρ = [some (.tup (iv xs)), none] → ev (callN T (k + 1)) (.lc (.call .is_integer (.cons (.var 1) (.cons (.ci 0) (.cons (.ci 1) .nil)))) [1] (.over (.var 0)) .none) ρ st = .ok (.lst (blv (xs.map fun _ => true))) st := by
    rintro ρ rfl
    rw [lc_map (g := fun _ => .bl true) (over_tup (xs := iv xs) rfl) (by simpa using hlim)]
    · simp [iv, blv, Function.comp_def]
    · intro vs hv s
      obtain ⟨v, hw, rfl⟩ := sing_mem hv
      obtain ⟨x, hx', rfl⟩ := iv_mem hw
      have := hx.2 x hx'
      simp -implicitDefEqProofs [setAll, wipeAll, is_integer_ok h]
      omega
    · intro vs hv; rfl
  simp -implicitDefEqProofs [D.is_function, hsz, hlc, all_bl]
theorem check_function_ok (h : T .is_integer = some D.is_integer) (h2 : T .is_function = some D.is_function) (h3 : T .check_function = some D.check_function) {xs : List Int} (hx : IsF xs) : callN T (k + 3) .check_function [.tup (iv xs)] st = .ok .non st := by
  rw [callN_succ h3, callD_eq rfl]
  simp -implicitDefEqProofs [D.check_function, is_function_ok h h2 hx]
end
end Sw
end

section
/-! SwSpec2: bits, likenesses, waves, echoes. -/
namespace Sw
open PySem (Str)
section
variable {T : Fn → Option FDef} {k : Nat} {st : Store} {C : Orc} {ρ : Env}
theorem zipV_iv : ∀ xs ys : List Int, zipV (iv xs) (iv ys) = (xs.zip ys).map fun p => [.int p.1, .int p.2]
  | [], ys => by simp [iv, zipV]
  | x :: xs, [] => by simp [iv, zipV]
  | x :: xs, y :: ys => by
    have := zipV_iv xs ys
    simp only [iv] at this
    simp [iv, zipV, this]
theorem zip_mem {xs ys : List Int} {vs : List Val} (h : vs ∈ (xs.zip ys).map fun p => [Val.int p.1, Val.int p.2]) : ∃ x ∈ xs, ∃ y ∈ ys, vs = [.int x, .int y] := by
  obtain ⟨p, h1, rfl⟩ := List.mem_map.mp h
  exact ⟨p.1, (List.of_mem_zip h1).1, p.2, (List.of_mem_zip h1).2, rfl⟩
def rangeL (n : Nat) : List (List Val) := (List.range n).map fun i => [.int (i : Nat)]
theorem range_ok {n : Nat} (h : n ≤ 1000) : rangeV (.int (n : Nat)) = some (rangeL n, none) := by
  simp only [rangeV]
  rw [if_pos (by simp only [Bool.and_eq_true, decide_eq_true_eq]; omega)]
  rfl
theorem rangeL_mem {n : Nat} {vs : List Val} (h : vs ∈ rangeL n) : ∃ i < n, vs = [.int (i : Nat)] := by
  obtain ⟨i, h1, rfl⟩ := List.mem_map.mp h
  exact ⟨i, List.mem_range.mp h1, rfl⟩
@[simp] theorem rangeL_len {n : Nat} : (rangeL n).length = n := by simp [rangeL]
theorem lim_big {n : Nat} (h : n ≤ 1000) : n ≤ lim := Nat.le_trans h (by decide)
/-! ### bit_count, common -/
def bitN (i : Nat) : Nat := [0, 1, 1, 2, 1, 2, 2, 3, 1, 2, 2, 3, 2, 3, 3, 4].getD i 0
theorem bit_tab (C : Orc) (st : Store) : (List.range 16).map (fun i => execs C D.bit_count.body [some (.int (i : Nat)), none] st) = (List.range 16).map (fun i => SRes.ret (.int (bitN i : Nat)) st) := by kernel_rfl
theorem com_tab (C : Orc) (st : Store) : (List.range 256).map (fun i => execs C D.common.body [some (.int ((i / 16 : Nat) : Int)), some (.int ((i % 16 : Nat) : Int)), none, none] st) = (List.range 256).map (fun i => SRes.ret (.int (((i / 16) &&& (i % 16) : Nat) : Int)) st) := by kernel_rfl
theorem map_at {α β : Type} {f g : α → β} {l : List α} (h : l.map f = l.map g) {x : α} (hx : x ∈ l) : f x = g x := List.map_inj_left.mp h x hx
theorem bit_ok (h : T .bit_count = some D.bit_count) {i : Nat} (hi : i < 16) : callN T (k + 1) .bit_count [.int (i : Nat)] st = .ok (.int (bitN i : Nat)) st := by
  rw [callN_succ h, callD_eq rfl]
  have := map_at (bit_tab (callN T k) st) (List.mem_range.mpr hi)
  show endC _ _ (execs (callN T k) D.bit_count.body [some (.int (i : Nat)), none] st) = _
  rw [this]
  simp -implicitDefEqProofs [D.bit_count]
theorem com_ok (h : T .common = some D.common) {i j : Nat} (hi : i < 16) (hj : j < 16) : callN T (k + 1) .common [.int (i : Nat), .int (j : Nat)] st = .ok (.int ((i &&& j : Nat) : Int)) st := by
  rw [callN_succ h, callD_eq rfl]
  have := map_at (com_tab (callN T k) st) (List.mem_range.mpr (show 16 * i + j < 256 by omega))
  have e1 : (16 * i + j) / 16 = i := by omega
  have e2 : (16 * i + j) % 16 = j := by omega
  simp only [e1, e2] at this
  show endC _ _ (execs (callN T k) D.common.body [some (.int (i : Nat)), some (.int (j : Nat)), none, none] st) = _
  rw [this]
  simp -implicitDefEqProofs [D.common]
theorem xor_tab : ∀ i < 16, ∀ j < 16, ((i : Nat) : Int) + (j : Nat) - 2 * ((i &&& j : Nat) : Int) = ((i ^^^ j : Nat) : Int) := by decide +kernel
theorem exc_ok (h : T .common = some D.common) (h2 : T .exclusive = some D.exclusive) {i j : Nat} (hi : i < 16) (hj : j < 16) : callN T (k + 2) .exclusive [.int (i : Nat), .int (j : Nat)] st = .ok (.int ((i ^^^ j : Nat) : Int)) st := by
  rw [callN_succ h2, callD_eq rfl]
  have m : binop .mul (.int 2) (.int ((i &&& j : Nat) : Int)) = some (.int (2 * ((i &&& j : Nat) : Int))) := mul_int (.inl (by omega))
  have hx := xor_tab i hi j hj
  have hc := com_ok (T := T) (k := k) (st := st) h hi hj
  generalize ((i &&& j : Nat) : Int) = c at m hx hc
  simp -implicitDefEqProofs [D.exclusive, hc, m, hx]
/-! ### the law's own bits -/
def bitsI (p : Int) : List Int := [0, 1, 2, 3].filter fun i => p / 2 ^ i.toNat % 2 == 1
theorem bits_ok (h : T .l_bits_in = some D.law_bits_in) (p : Int) : callN T (k + 1) .l_bits_in [.int p] st = .ok (.lst (iv (bitsI p))) st := by
  rw [callN_succ h, callD_eq rfl]
  have hr : rangeV (.int 4) = some ([[.int 0], [.int 1], [.int 2], [.int 3]], none) := rfl
  have hlc : ev (callN T k) (.lc (.var 1) [1] (.range (.ci 4)) (.some (.cmp .eq (.bin .mod (.bin .fdiv (.var 0) (.idx (.lst (.cons (.ci 1) (.cons (.ci 2) (.cons (.ci 4) (.cons (.ci 8) .nil))))) (.var 1))) (.ci 2)) (.ci 1)))) [some (.int p), none] st = .ok (.lst (iv (bitsI p))) st := by
    have key : ∀ (i : Int) (q : Int), (i, q) ∈ [((0 : Int), (1 : Int)), (1, 2), (2, 4), (3, 8)] → opIx (.lst [.int 1, .int 2, .int 4, .int 8]) (.int i) = some (.int q) ∧ 0 < q ∧ q < 1073741824 ∧ q = 2 ^ i.toNat := by
      intro i q hq
      simp only [List.mem_cons, Prod.mk.injEq, List.not_mem_nil, or_false] at hq
      rcases hq with ⟨rfl, rfl⟩ | ⟨rfl, rfl⟩ | ⟨rfl, rfl⟩ | ⟨rfl, rfl⟩ <;> exact ⟨rfl, by decide, by decide, by decide⟩
    rw [lc_filtA (l := [((0 : Int), (1 : Int)), (1, 2), (2, 4), (3, 8)]) (e := fun a => [.int a.1]) (fun a => p / 2 ^ a.1.toNat % 2 == 1) (fun a => .int a.1) (by simp [hr]) (by decide)]
    · simp only [bitsI, iv, List.filter_cons, List.filter_nil]
      cases (p / 2 ^ (0 : Int).toNat % 2 == 1) <;> cases (p / 2 ^ (1 : Int).toNat % 2 == 1) <;> cases (p / 2 ^ (2 : Int).toNat % 2 == 1) <;> cases (p / 2 ^ (3 : Int).toNat % 2 == 1) <;> rfl
    · rintro ⟨i, q⟩ ha s
      obtain ⟨k1, k2, k3, k4⟩ := key i q ha
      have m1 : binop .mod (.int (p / q)) (.int 2) = some (.int (p / q % 2)) := mod_int (by omega)
      simp -implicitDefEqProofs [setAll, wipeAll, Val.pure, lim_big, k1, fdiv_int ⟨k2, k3⟩, m1, lim]
      rw [k4]
    · rintro ⟨i, q⟩ ha _ s
      simp -implicitDefEqProofs [setAll, wipeAll]
    · intro a ha; rfl
  simp -implicitDefEqProofs [D.law_bits_in, hlc]
end
end Sw
end

section
/-! SwSpec3: odd, cross, apart, moved, echo, spread, wave. -/
namespace Sw
open PySem (Str)
section
variable {T : Fn → Option FDef} {k : Nat} {st : Store} {C : Orc} {ρ : Env}
theorem over_iv {i : Nat} {xs : List Int} (h : ρ[i]? = some (some (.tup (iv xs)))) : evi C (.over (.var i)) ρ st = .ok (xs.map (fun x => [.int x]), none) st := by
  rw [over_tup h]
  simp [iv, Function.comp_def]
theorem overL_iv {xs : List Int} : overV st (.lst (iv xs)) = some (xs.map (fun x => [.int x]), none) := by
  simp [overV, iv, Function.comp_def]
theorem overT_iv {xs : List Int} : overV st (.tup (iv xs)) = some (xs.map (fun x => [.int x]), none) := by
  simp [overV, iv, Function.comp_def]
theorem iv_flat (xs : List Int) : (iv xs).all flat = true := by simp [iv, flat, List.all_eq_true]
theorem veq_int (a b : Int) : veq (.int a) (.int b) = (a == b) := by simp [veq]
theorem in_iv (x : Int) (xs : List Int) : cmpop .isin (.int x) (.lst (iv xs)) = some (xs.any (· == x)) := by
  show (if flat (.int x) && (iv xs).all flat then some ((iv xs).any fun y => veq y (.int x)) else none) = _
  rw [if_pos (by simp [iv_flat, flat])]
  simp [iv, List.any_map, Function.comp_def, veq_int]
theorem notin_iv (x : Int) (xs : List Int) : cmpop .notin (.int x) (.lst (iv xs)) = some (!xs.any (· == x)) := by
  show (isIn (.int x) (.lst (iv xs))).map (!·) = _
  have := in_iv x xs
  have e : isIn (.int x) (.lst (iv xs)) = some (xs.any (· == x)) := this
  rw [e]
  rfl
theorem bitsI_len (p : Int) : (bitsI p).length ≤ 4 := List.length_filter_le _ _
def oddI (m p : Int) : Int := (((bitsI p).filter fun i => (bitsI m).any (· == i)).length : Nat) % 2
theorem odd_ok (h : T .l_bits_in = some D.law_bits_in) (h2 : T .l_odd = some D.law_odd) (m p : Int) : callN T (k + 2) .l_odd [.int m, .int p] st = .ok (.int (oddI m p)) st := by
  rw [callN_succ h2, callD_eq rfl]
  have hb := fun (s : Store) (p : Int) => bits_ok (T := T) (k := k) (st := s) h p
  have hl := bitsI_len p
  have hlc : ev (callN T (k + 1)) (.lc (.var 3) [3] (.over (.call .l_bits_in (.cons (.var 1) .nil))) (.some (.cmp .isin (.var 3) (.var 2)))) [some (.int m), some (.int p), some (.lst (iv (bitsI m))), none] st = .ok (.lst (((bitsI p).filter fun i => (bitsI m).any (· == i)).map .int)) st := by
    rw [lc_filtA (l := bitsI p) (e := fun x => [.int x]) (fun i => (bitsI m).any (· == i)) .int]
    · simp -implicitDefEqProofs [hb, overL_iv]
    · exact lim_big (by omega)
    · intro a ha s
      simp -implicitDefEqProofs [setAll, wipeAll, in_iv]
    · intro a ha _ s
      simp -implicitDefEqProofs [setAll, wipeAll]
    · intro a ha; rfl
  have m1 : ∀ x : Int, binop .mod (.int x) (.int 2) = some (.int (x % 2)) := fun x => mod_int (by omega)
  have hx : oddI m p = (((bitsI p).filter fun i => (bitsI m).any (· == i)).length : Nat) % 2 := rfl
  generalize hg : ((bitsI p).filter fun i => (bitsI m).any (· == i)) = F at hlc hx
  simp -implicitDefEqProofs [D.law_odd, hb, hlc, m1, hx]
def crossI (a b : Int) : Int := (([(0, 1), (1, 2), (2, 4), (3, 8)].filter fun (q : Int × Int) => ((bitsI a).any (· == q.1)) != ((bitsI b).any (· == q.1))).map (·.2)).sum
theorem intsOf_iv : ∀ xs : List Int, intsOf (xs.map Val.int) = some xs
  | [] => rfl
  | x :: xs => by simp [intsOf, intsOf_iv xs]
theorem sum_iv (xs : List Int) : op1 .sum (.lst (xs.map .int)) = some (.int xs.sum) := by simp [op1, intsOf_iv]
theorem sumT_iv (xs : List Int) : op1 .sum (.tup (xs.map .int)) = some (.int xs.sum) := by simp [op1, intsOf_iv]
theorem cmp_neB (a b : Bool) : cmpop .ne (.bl a) (.bl b) = some (a != b) := by
  cases a <;> cases b <;> rfl
theorem cross_ok (h : T .l_bits_in = some D.law_bits_in) (h2 : T .l_cross = some D.law_cross) (a b : Int) : callN T (k + 2) .l_cross [.int a, .int b] st = .ok (.int (crossI a b)) st := by
  rw [callN_succ h2, callD_eq rfl]
  have hb := fun (s : Store) (p : Int) => bits_ok (T := T) (k := k) (st := s) h p
  have hr : rangeV (.int 4) = some ([[.int 0], [.int 1], [.int 2], [.int 3]], none) := rfl
  have hlc : ev (callN T (k + 1)) (.lc (.idx (.lst (.cons (.ci 1) (.cons (.ci 2) (.cons (.ci 4) (.cons (.ci 8) .nil))))) (.var 4)) [4] (.range (.ci 4)) (.some (.cmp .ne (.cmp .isin (.var 4) (.var 2)) (.cmp .isin (.var 4) (.var 3))))) [some (.int a), some (.int b), some (.lst (iv (bitsI a))), some (.lst (iv (bitsI b))), none] st = .ok (.lst ((([(0, 1), (1, 2), (2, 4), (3, 8)].filter fun (q : Int × Int) => ((bitsI a).any (· == q.1)) != ((bitsI b).any (· == q.1))).map (·.2)).map .int)) st := by
    rw [lc_filtA (l := [((0 : Int), (1 : Int)), (1, 2), (2, 4), (3, 8)]) (e := fun x => [.int x.1]) (fun q => ((bitsI a).any (· == q.1)) != ((bitsI b).any (· == q.1))) (fun q => .int q.2)]
    · rw [List.map_map]; rfl
    · simp [hr]
    · decide
    · intro q hq s
      simp -implicitDefEqProofs [setAll, wipeAll, in_iv, cmp_neB]
    · intro q hq _ s
      have key : opIx (.lst [.int 1, .int 2, .int 4, .int 8]) (.int q.1) = some (.int q.2) := by
        simp only [List.mem_cons, List.not_mem_nil, or_false] at hq
        rcases hq with rfl | rfl | rfl | rfl <;> rfl
      simp -implicitDefEqProofs [setAll, wipeAll, Val.pure, lim, key]
    · intro a ha; rfl
  have hx : crossI a b = (([(0, 1), (1, 2), (2, 4), (3, 8)].filter fun (q : Int × Int) => ((bitsI a).any (· == q.1)) != ((bitsI b).any (· == q.1))).map (·.2)).sum := rfl
  generalize (([(0, 1), (1, 2), (2, 4), (3, 8)].filter fun (q : Int × Int) => ((bitsI a).any (· == q.1)) != ((bitsI b).any (· == q.1))).map (·.2)) = F at hlc hx
  have hpar : ∀ v w : Val, exec (callN T (k + 1)) (.par [2, 3] (.cons (.call .l_bits_in (.cons (.var 0) .nil)) (.cons (.call .l_bits_in (.cons (.var 1) .nil)) .nil))) [some (.int a), some (.int b), none, none, none] st = .next [some (.int a), some (.int b), some (.lst (iv (bitsI a))), some (.lst (iv (bitsI b))), none] st := by
    intro _ _
    simp -implicitDefEqProofs [exec, hb, setAll]
  simp -implicitDefEqProofs [D.law_cross, hpar .non .non, hlc, sum_iv, hx]
/-! ### apart, alike -/
def apartL (xs ys : List Int) : Nat := ((xs.zip ys).filter fun p => !(p.1 == p.2)).length
theorem zipT_iv {xs ys : List Int} : zipOf (.tup (iv xs)) (.tup (iv ys)) = some ((xs.zip ys).map (fun p => [.int p.1, .int p.2]), none) := by simp [zipOf, zipV_iv]
theorem zipL_iv {xs ys : List Int} : zipOf (.lst (iv xs)) (.lst (iv ys)) = some ((xs.zip ys).map (fun p => [.int p.1, .int p.2]), none) := by simp [zipOf, zipV_iv]
theorem zipTL_iv {xs ys : List Int} : zipOf (.tup (iv xs)) (.lst (iv ys)) = some ((xs.zip ys).map (fun p => [.int p.1, .int p.2]), none) := by simp [zipOf, zipV_iv]
theorem zip_small {xs ys : List Int} (h : xs.length ≤ 1000) : (xs.zip ys).length ≤ lim := lim_big (by rw [List.length_zip]; omega)
theorem apart_ok (h : T .apart = some D.apart) {xs ys : List Int} (hx : xs.length ≤ 1000) : callN T (k + 1) .apart [.tup (iv xs), .tup (iv ys)] st = .ok (.int (apartL xs ys : Nat)) st := by
  rw [callN_succ h, callD_eq rfl]
  have hlc : ev (callN T k) (.lc (.ci 1) [2, 3] (.zip (.var 0) (.var 1)) (.some (.cmp .ne (.var 2) (.var 3)))) [some (.tup (iv xs)), some (.tup (iv ys)), none, none] st = .ok (.lst (((xs.zip ys).filter fun p => !(p.1 == p.2)).map fun _ => .int 1)) st := by
    rw [lc_filtA (l := xs.zip ys) (e := fun p => [.int p.1, .int p.2]) (fun p => !(p.1 == p.2)) (fun _ => .int 1)]
    · simp -implicitDefEqProofs [zipT_iv]
    · exact zip_small hx
    · intro q hq s
      simp -implicitDefEqProofs [setAll, wipeAll]
    · intro q hq _ s
      simp -implicitDefEqProofs [setAll, wipeAll]
    · intro a ha; rfl
  have hz : apartL xs ys = ((xs.zip ys).filter fun p => !(p.1 == p.2)).length := rfl
  generalize ((xs.zip ys).filter fun p => !(p.1 == p.2)) = F at hlc hz
  simp -implicitDefEqProofs [D.apart, hlc, hz]
theorem alike_ok (h : T .apart = some D.apart) (h2 : T .alike = some D.alike) {xs ys : List Int} (hx : xs.length ≤ 1000) : callN T (k + 2) .alike [.tup (iv xs), .tup (iv ys)] st = .ok (.int (xs.length - 2 * (apartL xs ys : Nat))) st := by
  rw [callN_succ h2, callD_eq rfl]
  have ha := apart_ok (T := T) (k := k) (st := st) (ys := ys) h hx
  have m : ∀ x : Int, binop .mul (.int 2) (.int x) = some (.int (2 * x)) := fun x => mul_int (.inl (by omega))
  simp -implicitDefEqProofs [D.alike, ha, m]
/-! ### moved, echo -/
theorem len_ok {xs : List Int} (h : SizeOk xs.length) : xs.length ≤ 16 := by rcases h with e | e | e | e <;> omega
theorem ixT {xs : List Int} {i : Nat} (h : i < xs.length) : opIx (.tup (iv xs)) (.int (i : Nat)) = some (.int (xs.getD i 0)) := by
  simp only [opIx, seq_tup, Option.bind_some, iv_len, ixOf]
  rw [if_pos (by omega), if_pos (by omega)]
  simp [iv, List.getD, h]
theorem ixLi {xs : List Int} {i : Nat} (h : i < xs.length) : opIx (.lst (iv xs)) (.int (i : Nat)) = some (.int (xs.getD i 0)) := by
  simp only [opIx, seq_lst, Option.bind_some, iv_len, ixOf]
  rw [if_pos (by omega), if_pos (by omega)]
  simp [iv, List.getD, h]
theorem xor_lt {n i j : Nat} (h : SizeOk n) (hi : i < n) (hj : j < n) : i ^^^ j < n := by
  rcases h with rfl | rfl | rfl | rfl
  · exact Nat.xor_lt_two_pow (n := 1) hi hj
  · exact Nat.xor_lt_two_pow (n := 2) hi hj
  · exact Nat.xor_lt_two_pow (n := 3) hi hj
  · exact Nat.xor_lt_two_pow (n := 4) hi hj
theorem rangeL_map (n : Nat) : rangeL n = (List.range n).map fun i => [.int (i : Nat)] := rfl
def movedL (xs : List Int) (p : Nat) : List Int := (List.range xs.length).map fun i => xs.getD (i ^^^ p) 0
theorem moved_ok (h : T .common = some D.common) (h2 : T .exclusive = some D.exclusive) (h3 : T .moved = some D.moved) {xs : List Int} (hx : SizeOk xs.length) {p : Nat} (hp : p < xs.length) : callN T (k + 3) .moved [.tup (iv xs), .int (p : Nat)] st = .ok (.tup (iv (movedL xs p))) st := by
  rw [callN_succ h3, callD_eq rfl]
  have hn := len_ok hx
  have hlc : ev (callN T (k + 2)) (.lc (.idx (.var 0) (.call .exclusive (.cons (.var 2) (.cons (.var 1) .nil)))) [2] (.range (.b1 .len (.var 0))) .none) [some (.tup (iv xs)), some (.int (p : Nat)), none] st = .ok (.lst (iv (movedL xs p))) st := by
    rw [lc_mapA (l := List.range xs.length) (e := fun i => [.int (i : Nat)]) (fun i => .int (xs.getD (i ^^^ p) 0))]
    · simp [iv, movedL, Function.comp_def]
    · simp -implicitDefEqProofs [range_ok (show xs.length ≤ 1000 by omega), rangeL_map]
    · simp only [List.length_range]; exact lim_big (by omega)
    · intro i hi s
      have hi := List.mem_range.mp hi
      have he := exc_ok (T := T) (k := k) (st := s) h h2 (show i < 16 by omega) (show p < 16 by omega)
      have hix := ixT (xs := xs) (xor_lt hx hi hp)
      generalize ((i ^^^ p : Nat) : Int) = c at he hix
      simp -implicitDefEqProofs [setAll, wipeAll, he, hix]
    · intro i hi; rfl
  simp -implicitDefEqProofs [D.moved, hlc]
theorem movedL_len {xs : List Int} {p : Nat} : (movedL xs p).length = xs.length := by simp [movedL]
def echoL (xs : List Int) : List Int := (List.range xs.length).map fun s => (xs.length : Int) - 2 * (apartL xs (movedL xs s) : Nat)
theorem echo_ok (g1 : T .is_integer = some D.is_integer) (g2 : T .is_function = some D.is_function) (g3 : T .check_function = some D.check_function) (h : T .common = some D.common) (h2 : T .exclusive = some D.exclusive) (h3 : T .moved = some D.moved) (h4 : T .apart = some D.apart) (h5 : T .alike = some D.alike) (h6 : T .echo = some D.echo)
    {xs : List Int} (hx : IsF xs) : callN T (k + 4) .echo [.tup (iv xs)] st = .ok (.tup (iv (echoL xs))) st := by
  rw [callN_succ h6, callD_eq rfl]
  have hn := len_ok hx.1
  have hc := check_function_ok (T := T) (k := k) (st := st) g1 g2 g3 hx
  have hlc : ev (callN T (k + 3)) (.lc (.call .alike (.cons (.var 0) (.cons (.call .moved (.cons (.var 0) (.cons (.var 1) .nil))) .nil))) [1] (.range (.b1 .len (.var 0))) .none) [some (.tup (iv xs)), none] st = .ok (.lst (iv (echoL xs))) st := by
    rw [lc_mapA (l := List.range xs.length) (e := fun i => [.int (i : Nat)]) (fun i => .int ((xs.length : Int) - 2 * (apartL xs (movedL xs i) : Nat)))]
    · simp [iv, echoL, Function.comp_def]
    · simp -implicitDefEqProofs [range_ok (show xs.length ≤ 1000 by omega), rangeL_map]
    · simp only [List.length_range]; exact lim_big (by omega)
    · intro i hi s
      have hi := List.mem_range.mp hi
      have hm := moved_ok (T := T) (k := k) (st := s) h h2 h3 hx.1 hi
      have ha := alike_ok (T := T) (k := k + 1) (st := s) (ys := movedL xs i) h4 h5 (show xs.length ≤ 1000 by omega)
      simp -implicitDefEqProofs [setAll, wipeAll, hm, ha]
    · intro i hi; rfl
  simp -implicitDefEqProofs [D.echo, hc, hlc]
/-! ### spread, wave -/
def spreadL : Nat → List Int → List Int
  | 0, xs => xs
  | n + 1, xs => List.zipWith (· + ·) (spreadL n (xs.take (2 ^ n))) (spreadL n (xs.drop (2 ^ n))) ++ List.zipWith (· - ·) (spreadL n (xs.take (2 ^ n))) (spreadL n (xs.drop (2 ^ n)))
theorem spreadL_len : ∀ (n : Nat) (xs : List Int), xs.length = 2 ^ n → (spreadL n xs).length = 2 ^ n
  | 0, xs, h => h
  | n + 1, xs, h => by
    have h1 : (xs.take (2 ^ n)).length = 2 ^ n := by rw [List.length_take]; omega
    have h2 : (xs.drop (2 ^ n)).length = 2 ^ n := by rw [List.length_drop]; omega
    simp only [spreadL, List.length_append, List.length_zipWith, spreadL_len n _ h1, spreadL_len n _ h2]
    omega
theorem cut_lo {xs : List Int} {h : Nat} (hh : h ≤ xs.length) : opSl none (some (h : Nat)) (.lst (iv xs)) = some (.lst (iv (xs.take h))) := by
  simp only [opSl, cut, sIx, iv_len]
  rw [if_neg (by omega)]
  simp [iv, List.map_take, Nat.min_eq_left hh]
theorem cut_hi {xs : List Int} {h : Nat} (hh : h ≤ xs.length) : opSl (some (h : Nat)) none (.lst (iv xs)) = some (.lst (iv (xs.drop h))) := by
  simp only [opSl, cut, sIx, iv_len]
  rw [if_neg (by omega)]
  simp only [Int.toNat_natCast, Nat.min_eq_left hh]
  rw [List.take_of_length_le (by simp [iv])]
  simp [iv, List.map_drop]
theorem zw_map (f : Int → Int → Int) : ∀ xs ys : List Int, (xs.zip ys).map (fun p => Val.int (f p.1 p.2)) = iv (List.zipWith f xs ys)
  | [], ys => by simp [iv]
  | x :: xs, [] => by simp [iv]
  | x :: xs, y :: ys => by
    have := zw_map f xs ys
    simp only [iv] at this
    simp [iv, this]
theorem add_lst {xs ys : List Int} (h : xs.length + ys.length ≤ lim) : binop .add (.lst (iv xs)) (.lst (iv ys)) = some (.lst (iv (xs ++ ys))) := by
  simp only [binop, iv_len]
  rw [if_pos h]
  simp [iv]
@[simp] theorem ev_sl {a : Ex} {lo hi : OEx} : ev C (.sl a lo hi) ρ st = (ev C a ρ st).bind fun x st1 => (evo C lo ρ st1).bind fun l st2 => (evo C hi ρ st2).bind fun u st3 => lift (opSl l u (deref st3 x)) st3 := by simp only [ev]
@[simp] theorem evo_none : evo C .none ρ st = .ok none st := by simp only [evo]
@[simp] theorem evo_some {e : Ex} : evo C (.some e) ρ st = (ev C e ρ st).bind fun v st1 => lift ((intV v).map some) st1 := by simp only [evo]
@[simp] theorem ex_par {is : List Nat} {es : Exs} : exec C (.par is es) ρ st = (evs C es ρ st).sbind fun vs st1 => if is.length = vs.length then .next (setAll ρ is vs) st1 else .bad := by simp only [exec]
theorem spread_ok (h : T .spread = some D.spread) : ∀ (n k : Nat) (xs : List Int) (st : Store), xs.length = 2 ^ n → n ≤ 6 → callN T (k + n + 1) .spread [.lst (iv xs)] st = .ok (.lst (iv (spreadL n xs))) st
  | 0, k, xs, st, hl, _ => by
    rw [callN_succ h, callD_eq rfl]
    simp -implicitDefEqProofs [D.spread, hl, spreadL]
  | n + 1, k, xs, st, hl, hn => by
    have hp : 2 ^ n ≤ 64 := Nat.pow_le_pow_right (by omega) (show n ≤ 6 by omega)
    have hl2 : xs.length = 2 ^ n + 2 ^ n := by omega
    have h1 : (xs.take (2 ^ n)).length = 2 ^ n := by rw [List.length_take]; omega
    have h2 : (xs.drop (2 ^ n)).length = 2 ^ n := by rw [List.length_drop]; omega
    have c1 : ∀ s, callN T (k + (n + 1)) .spread [.lst (iv (xs.take (2 ^ n)))] s = .ok (.lst (iv (spreadL n (xs.take (2 ^ n))))) s := fun s => spread_ok h n k (xs.take (2 ^ n)) s h1 (by omega)
    have c2 : ∀ s, callN T (k + (n + 1)) .spread [.lst (iv (xs.drop (2 ^ n)))] s = .ok (.lst (iv (spreadL n (xs.drop (2 ^ n))))) s := fun s => spread_ok h n k (xs.drop (2 ^ n)) s h2 (by omega)
    have l1 := spreadL_len n _ h1
    have l2 := spreadL_len n _ h2
    have hS : spreadL (n + 1) xs = List.zipWith (· + ·) (spreadL n (xs.take (2 ^ n))) (spreadL n (xs.drop (2 ^ n))) ++ List.zipWith (· - ·) (spreadL n (xs.take (2 ^ n))) (spreadL n (xs.drop (2 ^ n))) := rfl
    have hpos : 0 < 2 ^ n := Nat.pos_of_ne_zero (by simp)
    have s1 := cut_lo (xs := xs) (show 2 ^ n ≤ xs.length by omega)
    have s2 := cut_hi (xs := xs) (show 2 ^ n ≤ xs.length by omega)
    rw [hS]
    generalize spreadL n (xs.take (2 ^ n)) = A at c1 l1
    generalize spreadL n (xs.drop (2 ^ n)) = B at c2 l2
    generalize 2 ^ n = q at *
    rw [callN_succ h, callD_eq rfl]
    have hd : binop .fdiv (.int (xs.length : Nat)) (.int 2) = some (.int (q : Nat)) := by
      rw [fdiv_int ⟨by omega, by omega⟩]
      congr 2
      omega
    have hne : (((xs.length : Nat) : Int) == 1) = false := by rw [beq_eq_false_iff_ne]; omega
    have lc1 : ∀ v, ev (callN T (k + (n + 1))) (.lc (.bin .add (.var 5) (.var 6)) [5, 6] (.zip (.var 3) (.var 4)) .none) [some (.lst (iv xs)), some (.int (q : Nat)), v, some (.lst (iv A)), some (.lst (iv B)), none, none] st = .ok (.lst (iv (List.zipWith (· + ·) A B))) st := by
      intro v
      rw [lc_mapA (l := A.zip B) (e := fun p => [.int p.1, .int p.2]) (fun p => .int (p.1 + p.2))]
      · rw [zw_map (· + ·)]
      · simp -implicitDefEqProofs [zipL_iv]
      · exact zip_small (by omega)
      · intro p hp s
        simp -implicitDefEqProofs [setAll, wipeAll]
      · intro p hp; rfl
    have lc2 : ∀ v, ev (callN T (k + (n + 1))) (.lc (.bin .sub (.var 5) (.var 6)) [5, 6] (.zip (.var 3) (.var 4)) .none) [some (.lst (iv xs)), some (.int (q : Nat)), v, some (.lst (iv A)), some (.lst (iv B)), none, none] st = .ok (.lst (iv (List.zipWith (· - ·) A B))) st := by
      intro v
      rw [lc_mapA (l := A.zip B) (e := fun p => [.int p.1, .int p.2]) (fun p => .int (p.1 - p.2))]
      · rw [zw_map (· - ·)]
      · simp -implicitDefEqProofs [zipL_iv]
      · exact zip_small (by omega)
      · intro p hp s
        simp -implicitDefEqProofs [setAll, wipeAll]
      · intro p hp; rfl
    have ha : binop .add (.lst (iv (List.zipWith (· + ·) A B))) (.lst (iv (List.zipWith (· - ·) A B))) = some (.lst (iv (List.zipWith (· + ·) A B ++ List.zipWith (· - ·) A B))) := add_lst (lim_big (by simp only [List.length_zipWith]; omega))
    simp -implicitDefEqProofs [D.spread, hne, hd, s1, s2, c1, c2, setAll, lc1, lc2, ha]
end
end Sw
end

section
/-! SwSpec4: waves, likenesses of the law, drawn values. -/
namespace Sw
open PySem (Str)
section
variable {T : Fn → Option FDef} {k : Nat} {st : Store} {C : Orc} {ρ : Env}
/-- the number of bits -/
def lg (n : Nat) : Nat := if n = 2 then 1 else if n = 4 then 2 else if n = 8 then 3 else 4
theorem lg_pow {n : Nat} (h : SizeOk n) : n = 2 ^ lg n ∧ lg n ≤ 4 := by rcases h with rfl | rfl | rfl | rfl <;> decide
def signL (xs : List Int) : List Int := xs.map fun x => 1 - 2 * x
def waveL (xs : List Int) : List Int := spreadL (lg xs.length) (signL xs)
theorem waveL_len {xs : List Int} (h : SizeOk xs.length) : (waveL xs).length = xs.length := by
  rw [waveL, spreadL_len _ _ (by rw [signL, List.length_map]; exact (lg_pow h).1)]
  exact (lg_pow h).1.symm
theorem callN_le {T : Fn → Option FDef} : True := trivial
theorem wave_of_ok (h : T .spread = some D.spread) (h2 : T .wave_of = some D.wave_of) {xs : List Int} (hx : SizeOk xs.length) : callN T (k + 6) .wave_of [.tup (iv xs)] st = .ok (.tup (iv (waveL xs))) st := by
  rw [callN_succ h2, callD_eq rfl]
  have hn := len_ok hx
  have hlc : ev (callN T (k + 5)) (.lc (.bin .sub (.ci 1) (.bin .mul (.ci 2) (.var 1))) [1] (.over (.var 0)) .none) [some (.tup (iv xs)), none] st = .ok (.lst (iv (signL xs))) st := by
    rw [lc_mapA (l := xs) (e := fun x => [.int x]) (fun x => .int (1 - 2 * x))]
    · simp [iv, signL, Function.comp_def]
    · exact over_iv rfl
    · exact lim_big (by omega)
    · intro x hx s
      have m : binop .mul (.int 2) (.int x) = some (.int (2 * x)) := mul_int (.inl (by omega))
      simp -implicitDefEqProofs [setAll, wipeAll, m]
    · intro x hx; rfl
  obtain ⟨p1, p2⟩ := lg_pow hx
  have hs : callN T (k + 5) .spread [.lst (iv (signL xs))] st = .ok (.lst (iv (waveL xs))) st := by
    have := spread_ok (T := T) h (lg xs.length) (k + (4 - lg xs.length)) (signL xs) st (by rw [signL, List.length_map]; exact p1) (by omega)
    have e : k + (4 - lg xs.length) + lg xs.length + 1 = k + 5 := by omega
    rw [e] at this
    exact this
  simp -implicitDefEqProofs [D.wave_of, hlc, hs]
theorem wave_ok (g1 : T .is_integer = some D.is_integer) (g2 : T .is_function = some D.is_function) (g3 : T .check_function = some D.check_function) (h : T .spread = some D.spread) (h2 : T .wave_of = some D.wave_of) (h3 : T .wave = some D.wave) {xs : List Int} (hx : IsF xs) : callN T (k + 7) .wave [.tup (iv xs)] st = .ok (.tup (iv (waveL xs))) st := by
  rw [callN_succ h3, callD_eq rfl]
  have hc := check_function_ok (T := T) (k := k + 3) (st := st) g1 g2 g3 hx
  have hw := wave_of_ok (T := T) (k := k) (st := st) h h2 hx.1
  simp -implicitDefEqProofs [D.wave, hc, hw]
def likeL (xs ys : List Int) : Int := ((xs.zip ys).map fun p => if p.1 == p.2 then 1 else -1).sum
theorem like_ok (h : T .l_like = some D.law_like) {xs ys : List Int} (hx : xs.length ≤ 1000) : callN T (k + 1) .l_like [.tup (iv xs), .lst (iv ys)] st = .ok (.int (likeL xs ys)) st := by
  rw [callN_succ h, callD_eq rfl]
  have hlc : ev (callN T k) (.lc (.ife (.cmp .eq (.var 2) (.var 3)) (.ci 1) (.bin .sub (.ci 0) (.ci 1))) [2, 3] (.zip (.var 0) (.var 1)) .none) [some (.tup (iv xs)), some (.lst (iv ys)), none, none] st = .ok (.lst (((xs.zip ys).map fun p => if p.1 == p.2 then (1 : Int) else -1).map .int)) st := by
    rw [lc_mapA (l := xs.zip ys) (e := fun p => [.int p.1, .int p.2]) (fun p => .int (if p.1 == p.2 then 1 else -1))]
    · simp [Function.comp_def]
    · simp -implicitDefEqProofs [zipTL_iv]
    · exact zip_small hx
    · intro p hp s
      cases hq : p.1 == p.2
      · simp -implicitDefEqProofs [setAll, wipeAll, hq]
      · simp -implicitDefEqProofs [setAll, wipeAll, hq]
    · intro p hp; rfl
  have hz : likeL xs ys = ((xs.zip ys).map fun p => if p.1 == p.2 then (1 : Int) else -1).sum := rfl
  generalize ((xs.zip ys).map fun p => if p.1 == p.2 then (1 : Int) else -1) = F at hlc hz
  simp -implicitDefEqProofs [D.law_like, hlc, sum_iv, hz]
/-! ### draws in a comprehension -/
def zs (n : Nat) : List Val := List.replicate n (.int 0)
theorem set_snoc {b : Nat} {c d : Cell} (h : b < st.length) : (st ++ [d]).set b c = st.set b c ++ [d] := by
  rw [List.set_append_left _ _ h]
theorem draws_loop {e : List Val → Store → Res (Option Val)} {b : Nat} {many : Int} (step : ∀ vs s town, s[b]? = some (.list town) → town.length < 100000 → ∃ v : Int, 0 ≤ v ∧ v < many ∧ e vs s = .ok (some (.int v)) (s.set b (.list (town ++ [.int 0])))) :
    ∀ (its : List (List Val)) (st : Store) (town : List Val) (acc : List Int), st[b]? = some (.list town) → town.length + its.length < 100000 → acc.length + its.length ≤ 1000 → ∃ ds : List Int, ds.length = its.length ∧ (∀ d ∈ ds, 0 ≤ d ∧ d < many) ∧ compLoop none e its st (iv acc) = .ok (iv (acc ++ ds)) (st.set b (.list (town ++ zs its.length)))
  | [], st, town, acc, hb, _, _ => ⟨[], rfl, fun _ h => by simp at h, by
      have : st.set b (.list town) = st := by
        apply List.ext_getElem?
        intro i
        by_cases hi : b = i
        · subst hi
          rw [List.getElem?_set_self (List.getElem?_eq_some_iff.mp hb).1, hb]
        · rw [List.getElem?_set_ne hi]
      simp [compLoop, zs, this]⟩
  | vs :: its, st, town, acc, hb, hl, ha => by
    have hlt : b < st.length := (List.getElem?_eq_some_iff.mp hb).1
    simp only [List.length_cons] at hl ha
    obtain ⟨v, v1, v2, hv⟩ := step vs (st ++ [.list (iv acc)]) town (by rw [List.getElem?_append_left hlt]; exact hb) (by omega)
    rw [set_snoc hlt] at hv
    obtain ⟨ds, d1, d2, d3⟩ := draws_loop step its (st.set b (.list (town ++ [.int 0]))) (town ++ [.int 0]) (acc ++ [v]) (by rw [List.getElem?_set_self hlt]) (by simp; omega) (by simp; omega)
    refine ⟨v :: ds, by simp [d1], fun d hd => ?_, ?_⟩
    · rcases List.mem_cons.mp hd with rfl | hd
      · exact ⟨v1, v2⟩
      · exact d2 d hd
    · have hs : splitLast (st.set b (.list (town ++ [.int 0])) ++ [Cell.list (iv acc)]) = some (st.set b (.list (town ++ [.int 0])), iv acc) := splitLast_snoc _ _
      have hlen : (st.set b (.list (town ++ [.int 0])) ++ [Cell.list (iv acc)]).length = st.length + 1 := by simp
      simp only [compLoop, bxOk, if_true, hv, hlen, hs]
      rw [if_pos (by simp only [Val.pure, Bool.true_and, decide_eq_true_eq, iv_len]; exact Nat.lt_of_lt_of_le (show acc.length < 1000 by omega) (by decide))]
      have e1 : iv acc ++ [Val.int v] = iv (acc ++ [v]) := by simp [iv]
      rw [e1, d3]
      have ea : acc ++ [v] ++ ds = acc ++ v :: ds := by simp
      have eb : town ++ [.int 0] ++ zs its.length = town ++ zs (its.length + 1) := by simp [zs, List.replicate_succ]
      rw [ea, List.set_set, eb]
      rfl
theorem draws_ok {st0 : Store} (h : T .l_cell_at = some D.law_cell_at) (h' : T .l_mixed = some D.law_mixed) (h2 : T .l_draw = some D.law_draw) {ns : List Int} {b : Nat} {town : List Val} (hb : st[b]? = some (.list town)) {me m : Ex} (hme : me = .call .l_draw (.cons (.var 0) (.cons (.var 1) (.cons m .nil)))) {j n : Nat} {it : It} {many : Int} (hm : 0 < many)
    (r0 : ∀ v, (setAll (wipeAll ρ [j]) [j] [v])[0]? = some (some (.slst (ns.map .int)))) (r1 : ∀ v, (setAll (wipeAll ρ [j]) [j] [v])[1]? = some (some (.box b))) (rm : ∀ v s, ev (callN T (k + 3)) m (setAll (wipeAll ρ [j]) [j] [v]) s = .ok (.int many) s)
    (hi : evi (callN T (k + 3)) it ρ st0 = .ok (rangeL n, none) st) (hl : town.length + n < 100000) (hn : n ≤ 1000) :
    ∃ ds : List Int, ds.length = n ∧ (∀ d ∈ ds, 0 ≤ d ∧ d < many) ∧ ev (callN T (k + 3)) (.lc me [j] it .none) ρ st0 = .ok (.lst (iv ds)) (st.set b (.list (town ++ zs n))) := by
  subst hme
  obtain ⟨ds, d1, d2, d3⟩ := draws_loop (e := fun vs s => match vs with | [v] => lcStep (callN T (k + 3)) .none (.call .l_draw (.cons (.var 0) (.cons (.var 1) (.cons m .nil)))) ρ [j] [v] s | _ => lcStep (callN T (k + 3)) .none (.call .l_draw (.cons (.var 0) (.cons (.var 1) (.cons m .nil)))) ρ [j] [.non] s) (b := b) (many := many) (fun vs s town hb ht => by
      obtain ⟨v, v1, v2, hv⟩ := draw_ok (T := T) (k := k) (ns := ns) h h' h2 hb ht many hm
      have key : ∀ x, lcStep (callN T (k + 3)) .none (.call .l_draw (.cons (.var 0) (.cons (.var 1) (.cons m .nil)))) ρ [j] [x] s = .ok (some (.int v)) (s.set b (.list (town ++ [.int 0]))) := fun x => by
        unfold lcStep
        simp only [evc, Res.bind_ok, if_true]
        simp -implicitDefEqProofs [ev_var (r0 x), ev_var (r1 x), rm x, hv]
      refine ⟨v, v1, v2, ?_⟩
      split
      · exact key _
      · exact key _) (rangeL n) st town [] hb (by simpa using hl) (by simpa using hn)
  refine ⟨ds, by simpa using d1, d2, ?_⟩
  rw [ev_lc hi (by simpa using lim_big hn)]
  have hcong : compLoop none (lcStep (callN T (k + 3)) .none (.call .l_draw (.cons (.var 0) (.cons (.var 1) (.cons m .nil)))) ρ [j]) (rangeL n) st [] = .ok (iv ds) (st.set b (.list (town ++ zs n))) := by
    have : ∀ (f g : List Val → Store → Res (Option Val)) (its : List (List Val)) (st : Store) (acc : List Val), (∀ vs ∈ its, ∀ s, f vs s = g vs s) → compLoop none f its st acc = compLoop none g its st acc := by
      intro f g its
      induction its with
      | nil => intros; rfl
      | cons a l ih =>
        intro st acc hfg
        have ih' := fun st acc => ih st acc (fun vs hv => hfg vs (by simp [hv]))
        simp only [compLoop, hfg a (by simp)]
        simp only [ih']
    have d3' := d3
    simp only [List.nil_append, rangeL_len] at d3'
    refine (this _ _ (rangeL n) st [] (fun vs hv s => ?_)).trans d3'
    obtain ⟨i, _, rfl⟩ := rangeL_mem hv
    rfl
  simp only
  rw [hcong]
  simp
end
end Sw
end

section
/-! SwSpec5: the law's drawn function. -/
namespace Sw
open PySem (Str)
section
variable {T : Fn → Option FDef} {k : Nat} {st : Store} {C : Orc} {ρ : Env}
theorem forB_inv {body : Sts} {tg : List Nat} (I : Nat → Env → Store → Prop) : ∀ (its : List (List Val)) (i : Nat) (ρ : Env) (st : Store), (∀ j vs ρ st, its[j]? = some vs → I (i + j) ρ st → ∃ ρ' st', execs C body (setAll ρ tg vs) st = .next ρ' st' ∧ I (i + j + 1) ρ' st') → I i ρ st → ∃ ρ' st', forB C body tg none its ρ st = .next ρ' st' ∧ I (i + its.length) ρ' st'
  | [], i, ρ, st, _, h => ⟨ρ, st, forB_nil rfl, by simpa using h⟩
  | vs :: its, i, ρ, st, step, h => by
    obtain ⟨ρ1, st1, e1, h1⟩ := step 0 vs ρ st rfl (by simpa using h)
    obtain ⟨ρ2, st2, e2, h2⟩ := forB_inv I its (i + 1) ρ1 st1 (fun j ws ρ st hj hI => by
      have := step (j + 1) ws ρ st (by simpa using hj) (by rw [show i + (j + 1) = i + 1 + j by omega]; exact hI)
      rw [show i + (j + 1) + 1 = i + 1 + j + 1 by omega] at this
      exact this) (by simpa using h1)
    refine ⟨ρ2, st2, ?_, by rw [show i + (vs :: its).length = i + 1 + its.length by simp; omega]; exact h2⟩
    rw [forB_cons rfl, e1]
    exact e2
/-- tables that draw -/
structure HasD (T : Fn → Option FDef) : Prop where
  cell : T .l_cell_at = some D.law_cell_at
  mixed : T .l_mixed = some D.law_mixed
  draw : T .l_draw = some D.law_draw
  bits : T .l_bits_in = some D.law_bits_in
  odd : T .l_odd = some D.law_odd
  some_ : T .l_some_values = some D.law_some_values
theorem oddI_01 (m p : Int) : oddI m p = 0 ∨ oddI m p = 1 := by
  unfold oddI
  omega
theorem set_self {b : Nat} {town : List Val} (hb : st[b]? = some (.list town)) : st.set b (.list town) = st := by
  apply List.ext_getElem?
  intro i
  by_cases hi : b = i
  · subst hi
    rw [List.getElem?_set_self (List.getElem?_eq_some_iff.mp hb).1, hb]
  · rw [List.getElem?_set_ne hi]
theorem take_snoc' {b : Nat} {c d : Cell} : (st.set b c ++ [d]).take st.length = st.set b c := by
  rw [List.take_append_of_le_length (by simp), List.take_of_length_le (by simp)]
theorem ex_setidx {mo mi me : Ex} {v : Val} {n : Nat} {kk : Int} {xs : List Val} {j : Nat} {st1 : Store} (h1 : ev C me ρ st = .ok v st1) (h2 : ev C mo ρ st1 = .ok (.box n) st1) (h3 : ev C mi ρ st1 = .ok (.int kk) st1) (h4 : st1[n]? = some (.list xs)) (h5 : ixOf xs.length kk = some j) (h6 : v.pure = true) :
    exec C (.setidx mo mi me) ρ st = .next ρ (st1.set n (.list (xs.set j v))) := by
  simp only [exec, h1, h2, h3, Res.sbind_ok, h4, h5, if_pos h6]
theorem ex_app {mo me : Ex} {v : Val} {n : Nat} {xs : List Val} {st1 : Store} (h1 : ev C mo ρ st = .ok (.box n) st) (h0 : st[n]? = some (.list xs)) (h2 : ev C me ρ st = .ok v st) (h6 : v.pure = true) (h7 : xs.length < lim) :
    exec C (.app mo me) ρ st = .next ρ (st.set n (.list (xs ++ [v]))) := by
  simp only [exec, h1, Res.sbind_ok, deref_box h0, h2, h0]
  rw [if_pos (by simp [h6, h7])]
theorem ex_boxset {i : Nat} {me : Ex} {xs : List Val} {st1 : Store} (h : ev C me ρ st = .ok (.lst xs) st1) : exec C (.boxset i me) ρ st = .next (ρ.set i (some (.box st1.length))) (st1 ++ [.list xs]) := by
  simp only [exec, h, Res.sbind_ok]
def Bits (xs : List Int) : Prop := ∀ x ∈ xs, x = 0 ∨ x = 1
theorem Bits.set {xs : List Int} (h : Bits xs) {j : Nat} {v : Int} (hv : v = 0 ∨ v = 1) : Bits (xs.set j v) := fun x hx => by
  rcases List.mem_or_eq_of_mem_set hx with h1 | h1
  · exact h x h1
  · rw [h1]; exact hv
theorem iv_set {xs : List Int} {j : Nat} {v : Int} : (iv xs).set j (.int v) = iv (xs.set j v) := by simp [iv, List.map_set]
theorem ixOf_nat {n j : Nat} (h : j < n) : ixOf n (j : Nat) = some j := by
  unfold ixOf
  rw [if_pos (by omega), if_pos (by omega)]
  simp
abbrev e14 (a b c d e f g h i j l m n o : Option Val) : Env := [a, b, c, d, e, f, g, h, i, j, l, m, n, o]
/-- the second kind: a straight function, some places changed -/
theorem kind1 (H : HasD T) {ns : List Int} {b : Nat} {town : List Val} (hb : st[b]? = some (.list town)) (ht : town.length < 90000) {size : Nat} (hs : SizeOk size) (c d f g i10 h11 i12 n13 p8 p9 m7 : Option Val) :
    ∃ (xs : List Int) (t' : List Val), Bits xs ∧ xs.length = size ∧ t'.length ≤ town.length + 10 ∧ ∃ st2, execs (callN T (k + 3)) (.cons (.set 9 (.call .l_draw (.cons (.var 0) (.cons (.var 1) (.cons (.var 4) .nil))))) (.cons (.boxset 7 (.lc (.call .l_odd (.cons (.var 9) (.cons (.var 8) .nil))) [8] (.range (.var 4)) .none)) (.cons (.for_ [10] (.range (.call .l_draw (.cons (.var 0) (.cons (.var 1) (.cons (.ci 4) .nil))))) (.cons (.set 8 (.call .l_draw (.cons (.var 0) (.cons (.var 1) (.cons (.var 4) .nil))))) (.cons (.setidx (.var 7) (.var 8) (.bin .sub (.ci 1) (.idx (.var 7) (.var 8)))) .nil))) (.cons (.ret (.b1 .tuple (.var 7))) .nil)))) (e14 (some (.slst (ns.map .int))) (some (.box b)) c d (some (.int (size : Nat))) f g m7 p8 p9 i10 h11 i12 n13) st = .ret (.tup (iv xs)) (st.set b (.list t') ++ [st2]) := by
  have hlt : b < st.length := (List.getElem?_eq_some_iff.mp hb).1
  have hs16 : size ≤ 16 := by rcases hs with e | e | e | e <;> omega
  have hs2 : 2 ≤ size := by rcases hs with e | e | e | e <;> omega
  obtain ⟨mask, m1, m2, hm⟩ := draw_ok (T := T) (k := k) (ns := ns) H.cell H.mixed H.draw hb (by omega) (size : Nat) (by omega)
  have hb1 : (st.set b (.list (town ++ [.int 0])))[b]? = some (.list (town ++ [.int 0])) := by rw [List.getElem?_set_self hlt]
  have hlc : ∀ ρ : Env, (∀ v, (setAll (wipeAll ρ [8]) [8] [v])[9]? = some (some (.int mask)) ∧ (setAll (wipeAll ρ [8]) [8] [v])[8]? = some (some v)) → ρ[4]? = some (some (.int (size : Nat))) → ∀ s, ev (callN T (k + 3)) (.lc (.call .l_odd (.cons (.var 9) (.cons (.var 8) .nil))) [8] (.range (.var 4)) .none) ρ s = .ok (.lst (iv ((List.range size).map fun i => oddI mask (i : Nat)))) s := by
    intro ρ hρ h4 s
    rw [lc_mapA (l := List.range size) (e := fun i => [.int (i : Nat)]) (fun i => .int (oddI mask (i : Nat)))]
    · simp [iv, Function.comp_def]
    · rw [evi_range, ev_var h4]
      simp -implicitDefEqProofs [range_ok (show size ≤ 1000 by omega), rangeL_map]
    · simp only [List.length_range]; exact lim_big (by omega)
    · intro i hi s
      have ho := odd_ok (T := T) (k := k + 1) (st := s) H.bits H.odd mask (i : Nat)
      simp -implicitDefEqProofs [ev_var (hρ _).1, ev_var (hρ _).2, ho]
    · intro i hi; rfl
  -- the mask
  have s1 : exec (callN T (k + 3)) (.set 9 (.call .l_draw (.cons (.var 0) (.cons (.var 1) (.cons (.var 4) .nil))))) (e14 (some (.slst (ns.map .int))) (some (.box b)) c d (some (.int (size : Nat))) f g m7 p8 p9 i10 h11 i12 n13) st = .next (e14 (some (.slst (ns.map .int))) (some (.box b)) c d (some (.int (size : Nat))) f g m7 p8 (some (.int mask)) i10 h11 i12 n13) (st.set b (.list (town ++ [.int 0]))) := by
    simp -implicitDefEqProofs [hm]
  have hl1 : (st.set b (.list (town ++ [.int 0]))).length = st.length := by simp
  generalize hM : ((List.range size).map fun i => oddI mask (i : Nat)) = M at hlc
  have hMb : Bits M := by
    rw [← hM]
    intro x hx
    obtain ⟨i, _, rfl⟩ := List.mem_map.mp hx
    exact oddI_01 _ _
  have hMl : M.length = size := by rw [← hM]; simp
  have s2 : exec (callN T (k + 3)) (.boxset 7 (.lc (.call .l_odd (.cons (.var 9) (.cons (.var 8) .nil))) [8] (.range (.var 4)) .none)) (e14 (some (.slst (ns.map .int))) (some (.box b)) c d (some (.int (size : Nat))) f g m7 p8 (some (.int mask)) i10 h11 i12 n13) (st.set b (.list (town ++ [.int 0]))) = .next (e14 (some (.slst (ns.map .int))) (some (.box b)) c d (some (.int (size : Nat))) f g (some (.box st.length)) p8 (some (.int mask)) i10 h11 i12 n13) (st.set b (.list (town ++ [.int 0])) ++ [.list (iv M)]) := by
    rw [ex_boxset (hlc _ (fun v => ⟨rfl, rfl⟩) rfl _), hl1]
    rfl
  -- how many places
  have hb2 : (st.set b (.list (town ++ [.int 0])) ++ [Cell.list (iv M)])[b]? = some (.list (town ++ [.int 0])) := by rw [List.getElem?_append_left (by simpa using hlt)]; exact hb1
  obtain ⟨cnt, c1, c2, hc⟩ := draw_ok (T := T) (k := k) (ns := ns) H.cell H.mixed H.draw hb2 (by simp; omega) 4 (by omega)
  rw [set_snoc (by simpa using hlt), List.set_set] at hc
  obtain ⟨cn, rfl⟩ : ∃ cn : Nat, cnt = (cn : Nat) := ⟨cnt.toNat, by omega⟩
  -- the places
  have loop := forB_inv (C := callN T (k + 3)) (body := .cons (.set 8 (.call .l_draw (.cons (.var 0) (.cons (.var 1) (.cons (.var 4) .nil))))) (.cons (.setidx (.var 7) (.var 8) (.bin .sub (.ci 1) (.idx (.var 7) (.var 8)))) .nil)) (tg := [10])
    (fun i ρ s => ∃ (t' : List Val) (xs : List Int) (p8 i10 : Option Val), ρ = e14 (some (.slst (ns.map .int))) (some (.box b)) c d (some (.int (size : Nat))) f g (some (.box st.length)) p8 (some (.int mask)) i10 h11 i12 n13 ∧ s = st.set b (.list t') ++ [.list (iv xs)] ∧ t'.length = town.length + 2 + i ∧ Bits xs ∧ xs.length = size)
    (rangeL cn) 0 (e14 (some (.slst (ns.map .int))) (some (.box b)) c d (some (.int (size : Nat))) f g (some (.box st.length)) p8 (some (.int mask)) i10 h11 i12 n13) (st.set b (.list (town ++ [.int 0] ++ [.int 0])) ++ [.list (iv M)])
    (fun j vs ρ s hj ⟨t', xs, q8, q10, hρ, hs', hlen, hx1, hx2⟩ => by
      subst hρ hs'
      have hjn : j < cn := by have := (List.getElem?_eq_some_iff.mp hj).1; simpa using this
      obtain ⟨w, hw⟩ : ∃ w, vs = [w] := by
        obtain ⟨i, _, e⟩ := rangeL_mem (List.mem_of_getElem? hj)
        exact ⟨_, e⟩
      subst hw
      have hbb : (st.set b (.list t') ++ [Cell.list (iv xs)])[b]? = some (.list t') := by rw [List.getElem?_append_left (by simpa using hlt), List.getElem?_set_self hlt]
      obtain ⟨pl, q1, q2, hq⟩ := draw_ok (T := T) (k := k) (ns := ns) H.cell H.mixed H.draw hbb (by omega) (size : Nat) (by omega)
      rw [set_snoc (by simpa using hlt), List.set_set] at hq
      obtain ⟨pn, rfl⟩ : ∃ pn : Nat, pl = (pn : Nat) := ⟨pl.toNat, by omega⟩
      have hpn : pn < xs.length := by omega
      have hget : (st.set b (.list (t' ++ [.int 0])) ++ [Cell.list (iv xs)])[st.length]? = some (.list (iv xs)) := by rw [List.getElem?_append_right (by simp)]; simp
      have hix := ixLi (xs := xs) hpn
      have hval := hx1 (xs.getD pn 0) (by simp [List.getD, hpn])
      refine ⟨e14 (some (.slst (ns.map .int))) (some (.box b)) c d (some (.int (size : Nat))) f g (some (.box st.length)) (some (.int (pn : Nat))) (some (.int mask)) (some w) h11 i12 n13, st.set b (.list (t' ++ [.int 0])) ++ [.list (iv (xs.set pn (1 - xs.getD pn 0)))], ?_, t' ++ [.int 0], xs.set pn (1 - xs.getD pn 0), some (.int (pn : Nat)), some w, rfl, rfl, by simp [hlen]; omega, hx1.set (by omega), by simp [hx2]⟩
      generalize xs.getD pn 0 = x0 at hix hval
      have e1 : exec (callN T (k + 3)) (.set 8 (.call .l_draw (.cons (.var 0) (.cons (.var 1) (.cons (.var 4) .nil))))) (e14 (some (.slst (ns.map .int))) (some (.box b)) c d (some (.int (size : Nat))) f g (some (.box st.length)) q8 (some (.int mask)) (some w) h11 i12 n13) (st.set b (.list t') ++ [.list (iv xs)]) = .next (e14 (some (.slst (ns.map .int))) (some (.box b)) c d (some (.int (size : Nat))) f g (some (.box st.length)) (some (.int (pn : Nat))) (some (.int mask)) (some w) h11 i12 n13) (st.set b (.list (t' ++ [.int 0])) ++ [.list (iv xs)]) := by
        simp -implicitDefEqProofs [hq]
      have e2 := ex_setidx (C := callN T (k + 3)) (ρ := e14 (some (.slst (ns.map .int))) (some (.box b)) c d (some (.int (size : Nat))) f g (some (.box st.length)) (some (.int (pn : Nat))) (some (.int mask)) (some w) h11 i12 n13) (st := st.set b (.list (t' ++ [.int 0])) ++ [.list (iv xs)]) (me := .bin .sub (.ci 1) (.idx (.var 7) (.var 8))) (mo := .var 7) (mi := .var 8) (v := .int (1 - x0)) (n := st.length) (kk := (pn : Nat)) (j := pn) (by simp -implicitDefEqProofs [deref_box hget, hix]) (ev_var rfl) (ev_var rfl) hget (by rw [iv_len]; exact ixOf_nat hpn) rfl
      rw [iv_set] at e2
      have e3 : (st.set b (.list (t' ++ [.int 0])) ++ [Cell.list (iv xs)]).set st.length (.list (iv (xs.set pn (1 - x0)))) = st.set b (.list (t' ++ [.int 0])) ++ [.list (iv (xs.set pn (1 - x0)))] := by
        rw [List.set_append_right _ _ (by simp)]
        simp
      rw [e3] at e2
      show execs (callN T (k + 3)) _ (e14 (some (.slst (ns.map .int))) (some (.box b)) c d (some (.int (size : Nat))) f g (some (.box st.length)) q8 (some (.int mask)) (some w) h11 i12 n13) _ = _
      rw [ex_cons, e1, SRes.bind_next, ex_cons, e2, SRes.bind_next, ex_nil])
    ⟨town ++ [.int 0] ++ [.int 0], M, p8, i10, rfl, rfl, by simp, hMb, hMl⟩
  obtain ⟨ρ3, st3, hf, t', xs, q8, q10, rfl, rfl, hlen, hx1, hx2⟩ := loop
  refine ⟨xs, t', hx1, hx2, by simp at hlen; omega, .list (iv xs), ?_⟩
  have hget : (st.set b (.list t') ++ [Cell.list (iv xs)])[st.length]? = some (.list (iv xs)) := by rw [List.getElem?_append_right (by simp)]; simp
  rw [ex_cons, s1, SRes.bind_next, ex_cons, s2, SRes.bind_next, ex_cons]
  have s3 : exec (callN T (k + 3)) (.for_ [10] (.range (.call .l_draw (.cons (.var 0) (.cons (.var 1) (.cons (.ci 4) .nil))))) (.cons (.set 8 (.call .l_draw (.cons (.var 0) (.cons (.var 1) (.cons (.var 4) .nil))))) (.cons (.setidx (.var 7) (.var 8) (.bin .sub (.ci 1) (.idx (.var 7) (.var 8)))) .nil))) (e14 (some (.slst (ns.map .int))) (some (.box b)) c d (some (.int (size : Nat))) f g (some (.box st.length)) p8 (some (.int mask)) i10 h11 i12 n13) (st.set b (.list (town ++ [.int 0])) ++ [.list (iv M)]) = .next (e14 (some (.slst (ns.map .int))) (some (.box b)) c d (some (.int (size : Nat))) f g (some (.box st.length)) q8 (some (.int mask)) q10 h11 i12 n13) (st.set b (.list t') ++ [.list (iv xs)]) := by
    rw [ex_for, evi_range]
    have hr := range_ok (show cn ≤ 1000 by omega)
    simp -implicitDefEqProofs only [ev_call, evs_cons, evs_nil, ev_var (C := callN T (k + 3)) (ρ := e14 (some (.slst (ns.map .int))) (some (.box b)) c d (some (.int (size : Nat))) f g (some (.box st.length)) p8 (some (.int mask)) i10 h11 i12 n13) (i := 0) rfl, ev_var (C := callN T (k + 3)) (ρ := e14 (some (.slst (ns.map .int))) (some (.box b)) c d (some (.int (size : Nat))) f g (some (.box st.length)) p8 (some (.int mask)) i10 h11 i12 n13) (i := 1) rfl, ev_ci, Res.bind_ok, hc, hr, lift_some, Res.sbind_ok, hf]
  rw [s3, SRes.bind_next]
  simp -implicitDefEqProofs [deref_box hget]
end
end Sw
end

section
/-! SwSpec6: the third kind; the law's drawn function. -/
namespace Sw
open PySem (Str)
section
variable {T : Fn → Option FDef} {k : Nat} {st : Store} {C : Orc} {ρ : Env}
theorem eq_nil {α : Type} (l : List α) (g : α → Int) : cmpop .eq (.lst (l.map fun a => .int (g a))) (.lst []) = some l.isEmpty := by
  have e : cmpop .eq (.lst (l.map fun a => .int (g a))) (.lst []) = if (dat 8 (.lst (l.map fun a => .int (g a))) && dat 8 (.lst [])) = true then some (veq (.lst (l.map fun a => .int (g a))) (.lst [])) else none := rfl
  rw [e, if_pos (by simp [dat])]
  cases l <;> simp [veq, veqs]
theorem inside_ok (h : T .l_bits_in = some D.law_bits_in) {ms hs : List Int} (hm : ms.length ≤ 1000) {ρ : Env} (h6 : ρ[6]? = some (some (.lst (iv ms)))) (hl : ρ.length = 14) (h11 : ρ[11]? = some (some (.lst (iv hs)))) (s : Store) :
    ∃ n : Nat, ev (callN T (k + 1)) (.b1 .len (.lc (.ci 1) [9] (.over (.var 6)) (.some (.cmp .eq (.lc (.ci 1) [13] (.over (.call .l_bits_in (.cons (.var 9) .nil))) (.some (.cmp .notin (.var 13) (.var 11)))) (.lst .nil))))) ρ s = .ok (.int (n : Nat)) s ∧ ev (callN T (k + 1)) (.lc (.ci 1) [9] (.over (.var 6)) (.some (.cmp .eq (.lc (.ci 1) [13] (.over (.call .l_bits_in (.cons (.var 9) .nil))) (.some (.cmp .notin (.var 13) (.var 11)))) (.lst .nil)))) ρ s = .ok (.lst (List.replicate n (.int 1))) s := by
  have hb := fun (s : Store) (p : Int) => bits_ok (T := T) (k := k) (st := s) h p
  have key : ev (callN T (k + 1)) (.lc (.ci 1) [9] (.over (.var 6)) (.some (.cmp .eq (.lc (.ci 1) [13] (.over (.call .l_bits_in (.cons (.var 9) .nil))) (.some (.cmp .notin (.var 13) (.var 11)))) (.lst .nil)))) ρ s = .ok (.lst ((ms.filter fun m => ((bitsI m).filter fun i => !hs.any (· == i)).isEmpty).map fun _ => .int 1)) s := by
    rw [lc_filtA (l := ms) (e := fun x => [.int x]) (fun m => ((bitsI m).filter fun i => !hs.any (· == i)).isEmpty) (fun _ => .int 1)]
    · rw [evi_over, ev_var h6, Res.bind_ok, overL_iv]; rfl
    · exact lim_big hm
    · intro m hm' s
      have g9 : (setAll (wipeAll ρ [9]) [9] [.int m])[9]? = some (some (.int m)) := by simp [setAll, wipeAll, hl]
      have g11 : (setAll (wipeAll ρ [9]) [9] [.int m])[11]? = some (some (.lst (iv hs))) := by simp [setAll, wipeAll, h11]
      have gl : (setAll (wipeAll ρ [9]) [9] [.int m]).length = 14 := by simp [setAll, wipeAll, hl]
      generalize setAll (wipeAll ρ [9]) [9] [.int m] = ρ' at g9 g11 gl
      have inner : ev (callN T (k + 1)) (.lc (.ci 1) [13] (.over (.call .l_bits_in (.cons (.var 9) .nil))) (.some (.cmp .notin (.var 13) (.var 11)))) ρ' s = .ok (.lst (((bitsI m).filter fun i => !hs.any (· == i)).map fun _ => .int 1)) s := by
        rw [lc_filtA (l := bitsI m) (e := fun x => [.int x]) (fun i => !hs.any (· == i)) (fun _ => .int 1)]
        · simp -implicitDefEqProofs [evi_over, ev_var g9, hb, overL_iv]
        · exact lim_big (by have := bitsI_len m; omega)
        · intro i hi s
          have k13 : (setAll (wipeAll ρ' [13]) [13] [.int i])[13]? = some (some (.int i)) := by simp [setAll, wipeAll, gl]
          have k11 : (setAll (wipeAll ρ' [13]) [13] [.int i])[11]? = some (some (.lst (iv hs))) := by simp [setAll, wipeAll, g11]
          simp -implicitDefEqProofs [ev_var k13, ev_var k11, notin_iv]
        · intro i hi _ s
          simp
        · intro i hi; rfl
      simp -implicitDefEqProofs [inner, eq_nil _ (fun _ => 1), lim]
    · intro m hm' _ s
      simp
    · intro m hm'; rfl
  generalize (ms.filter fun m => ((bitsI m).filter fun i => !hs.any (· == i)).isEmpty) = F at key
  refine ⟨F.length, ?_, ?_⟩
  · rw [ev_b1, key]
    simp
  · rw [key, List.map_const']
theorem kind2 (H : HasD T) {ns : List Int} {b : Nat} {town : List Val} (hb : st[b]? = some (.list town)) (ht : town.length < 90000) {size : Nat} (hs : SizeOk size) (c d f g i10 h11 i12 n13 p8 p9 m7 : Option Val) :
    ∃ (xs : List Int) (t' : List Val), Bits xs ∧ xs.length = size ∧ t'.length ≤ town.length + 10 ∧ ∃ st2, execs (callN T (k + 3)) (.cons (.set 6 (.lc (.call .l_draw (.cons (.var 0) (.cons (.var 1) (.cons (.var 4) .nil)))) [10] (.range (.call .l_draw (.cons (.var 0) (.cons (.var 1) (.cons (.ci 4) .nil))))) .none)) (.cons (.boxset 7 (.lst .nil)) (.cons (.for_ [8] (.range (.var 4)) (.cons (.set 11 (.call .l_bits_in (.cons (.var 8) .nil))) (.cons (.set 12 (.lc (.ci 1) [9] (.over (.var 6)) (.some (.cmp .eq (.lc (.ci 1) [13] (.over (.call .l_bits_in (.cons (.var 9) .nil))) (.some (.cmp .notin (.var 13) (.var 11)))) (.lst .nil))))) (.cons (.app (.var 7) (.bin .mod (.b1 .len (.var 12)) (.ci 2))) .nil)))) (.cons (.ret (.b1 .tuple (.var 7))) .nil)))) (e14 (some (.slst (ns.map .int))) (some (.box b)) c d (some (.int (size : Nat))) f g m7 p8 p9 i10 h11 i12 n13) st = .ret (.tup (iv xs)) (st.set b (.list t') ++ [st2]) := by
  have hlt : b < st.length := (List.getElem?_eq_some_iff.mp hb).1
  have hs16 : size ≤ 16 := by rcases hs with e | e | e | e <;> omega
  have hs2 : 2 ≤ size := by rcases hs with e | e | e | e <;> omega
  obtain ⟨cnt, c1, c2, hc⟩ := draw_ok (T := T) (k := k) (ns := ns) H.cell H.mixed H.draw hb (by omega) 4 (by omega)
  obtain ⟨cn, rfl⟩ : ∃ cn : Nat, cnt = (cn : Nat) := ⟨cnt.toNat, by omega⟩
  have hb1 : (st.set b (.list (town ++ [.int 0])))[b]? = some (.list (town ++ [.int 0])) := by rw [List.getElem?_set_self hlt]
  have hr := range_ok (show cn ≤ 1000 by omega)
  obtain ⟨ms, ml, mb, hms⟩ := draws_ok (T := T) (k := k) (st0 := st) (st := st.set b (.list (town ++ [.int 0]))) (ρ := e14 (some (.slst (ns.map .int))) (some (.box b)) c d (some (.int (size : Nat))) f g m7 p8 p9 i10 h11 i12 n13) H.cell H.mixed H.draw (ns := ns) hb1 (me := .call .l_draw (.cons (.var 0) (.cons (.var 1) (.cons (.var 4) .nil)))) (m := .var 4) rfl (j := 10) (n := cn) (it := .range (.call .l_draw (.cons (.var 0) (.cons (.var 1) (.cons (.ci 4) .nil))))) (many := (size : Nat)) (by omega) (fun _ => rfl) (fun _ => rfl) (fun v s => ev_var rfl)
    (by simp -implicitDefEqProofs [evi_range, hc, hr]) (by simp; omega) (by omega)
  rw [List.set_set] at hms
  generalize hT : town ++ [.int 0] ++ zs cn = t1 at hms
  have ht1 : t1.length ≤ town.length + 5 := by rw [← hT]; simp [zs]; omega
  have s1 : exec (callN T (k + 3)) (.set 6 (.lc (.call .l_draw (.cons (.var 0) (.cons (.var 1) (.cons (.var 4) .nil)))) [10] (.range (.call .l_draw (.cons (.var 0) (.cons (.var 1) (.cons (.ci 4) .nil))))) .none)) (e14 (some (.slst (ns.map .int))) (some (.box b)) c d (some (.int (size : Nat))) f g m7 p8 p9 i10 h11 i12 n13) st = .next (e14 (some (.slst (ns.map .int))) (some (.box b)) c d (some (.int (size : Nat))) f (some (.lst (iv ms))) m7 p8 p9 i10 h11 i12 n13) (st.set b (.list t1)) := by
    rw [ex_set, hms]
    rfl
  have s2 : exec (callN T (k + 3)) (.boxset 7 (.lst .nil)) (e14 (some (.slst (ns.map .int))) (some (.box b)) c d (some (.int (size : Nat))) f (some (.lst (iv ms))) m7 p8 p9 i10 h11 i12 n13) (st.set b (.list t1)) = .next (e14 (some (.slst (ns.map .int))) (some (.box b)) c d (some (.int (size : Nat))) f (some (.lst (iv ms))) (some (.box st.length)) p8 p9 i10 h11 i12 n13) (st.set b (.list t1) ++ [.list (iv [])]) := by
    rw [ex_boxset (xs := []) (st1 := st.set b (.list t1)) (by simp [lim])]
    simp [iv]
  have loop := forB_inv (C := callN T (k + 3)) (body := .cons (.set 11 (.call .l_bits_in (.cons (.var 8) .nil))) (.cons (.set 12 (.lc (.ci 1) [9] (.over (.var 6)) (.some (.cmp .eq (.lc (.ci 1) [13] (.over (.call .l_bits_in (.cons (.var 9) .nil))) (.some (.cmp .notin (.var 13) (.var 11)))) (.lst .nil))))) (.cons (.app (.var 7) (.bin .mod (.b1 .len (.var 12)) (.ci 2))) .nil))) (tg := [8])
    (fun i ρ s => ∃ (xs : List Int) (p8 h11 i12 : Option Val), ρ = e14 (some (.slst (ns.map .int))) (some (.box b)) c d (some (.int (size : Nat))) f (some (.lst (iv ms))) (some (.box st.length)) p8 p9 i10 h11 i12 n13 ∧ s = st.set b (.list t1) ++ [.list (iv xs)] ∧ Bits xs ∧ xs.length = i)
    (rangeL size) 0 (e14 (some (.slst (ns.map .int))) (some (.box b)) c d (some (.int (size : Nat))) f (some (.lst (iv ms))) (some (.box st.length)) p8 p9 i10 h11 i12 n13) (st.set b (.list t1) ++ [.list (iv [])])
    (fun j vs ρ s hj ⟨xs, q8, q11, q12, hρ, hs', hx1, hx2⟩ => by
      subst hρ hs'
      obtain ⟨i, hi, rfl⟩ := rangeL_mem (List.mem_of_getElem? hj)
      have hjn : j < size := by have := (List.getElem?_eq_some_iff.mp hj).1; simpa using this
      have hbi := bits_ok (T := T) (k := k + 2) (st := st.set b (.list t1) ++ [.list (iv xs)]) H.bits (i : Nat)
      have e1 : exec (callN T (k + 3)) (.set 11 (.call .l_bits_in (.cons (.var 8) .nil))) (e14 (some (.slst (ns.map .int))) (some (.box b)) c d (some (.int (size : Nat))) f (some (.lst (iv ms))) (some (.box st.length)) (some (.int (i : Nat))) p9 i10 q11 q12 n13) (st.set b (.list t1) ++ [.list (iv xs)]) = .next (e14 (some (.slst (ns.map .int))) (some (.box b)) c d (some (.int (size : Nat))) f (some (.lst (iv ms))) (some (.box st.length)) (some (.int (i : Nat))) p9 i10 (some (.lst (iv (bitsI (i : Nat))))) q12 n13) (st.set b (.list t1) ++ [.list (iv xs)]) := by
        simp -implicitDefEqProofs [hbi]
      obtain ⟨n, _, hn⟩ := inside_ok (T := T) (k := k + 2) H.bits (ms := ms) (hs := bitsI (i : Nat)) (by omega) (ρ := e14 (some (.slst (ns.map .int))) (some (.box b)) c d (some (.int (size : Nat))) f (some (.lst (iv ms))) (some (.box st.length)) (some (.int (i : Nat))) p9 i10 (some (.lst (iv (bitsI (i : Nat))))) q12 n13) rfl rfl rfl (st.set b (.list t1) ++ [.list (iv xs)])
      have e2 : exec (callN T (k + 3)) (.set 12 (.lc (.ci 1) [9] (.over (.var 6)) (.some (.cmp .eq (.lc (.ci 1) [13] (.over (.call .l_bits_in (.cons (.var 9) .nil))) (.some (.cmp .notin (.var 13) (.var 11)))) (.lst .nil))))) (e14 (some (.slst (ns.map .int))) (some (.box b)) c d (some (.int (size : Nat))) f (some (.lst (iv ms))) (some (.box st.length)) (some (.int (i : Nat))) p9 i10 (some (.lst (iv (bitsI (i : Nat))))) q12 n13) (st.set b (.list t1) ++ [.list (iv xs)]) = .next (e14 (some (.slst (ns.map .int))) (some (.box b)) c d (some (.int (size : Nat))) f (some (.lst (iv ms))) (some (.box st.length)) (some (.int (i : Nat))) p9 i10 (some (.lst (iv (bitsI (i : Nat))))) (some (.lst (List.replicate n (.int 1)))) n13) (st.set b (.list t1) ++ [.list (iv xs)]) := by
        rw [ex_set, hn]
        rfl
      have hget : (st.set b (.list t1) ++ [Cell.list (iv xs)])[st.length]? = some (.list (iv xs)) := by rw [List.getElem?_append_right (by simp)]; simp
      have md : binop .mod (.int ((n : Nat) : Int)) (.int 2) = some (.int ((n : Nat) % 2)) := mod_int (by omega)
      have e3 := ex_app (C := callN T (k + 3)) (ρ := e14 (some (.slst (ns.map .int))) (some (.box b)) c d (some (.int (size : Nat))) f (some (.lst (iv ms))) (some (.box st.length)) (some (.int (i : Nat))) p9 i10 (some (.lst (iv (bitsI (i : Nat))))) (some (.lst (List.replicate n (.int 1)))) n13) (st := st.set b (.list t1) ++ [.list (iv xs)]) (st1 := st) (mo := .var 7) (me := .bin .mod (.b1 .len (.var 12)) (.ci 2)) (v := .int ((n : Nat) % 2)) (n := st.length) (xs := iv xs) (ev_var rfl) hget (by simp -implicitDefEqProofs [md]) rfl (by rw [iv_len]; exact Nat.lt_of_lt_of_le (show xs.length < 1000 by omega) (by decide))
      have e4 : (st.set b (.list t1) ++ [Cell.list (iv xs)]).set st.length (.list (iv xs ++ [.int ((n : Nat) % 2)])) = st.set b (.list t1) ++ [.list (iv (xs ++ [((n : Nat) : Int) % 2]))] := by
        rw [List.set_append_right _ _ (by simp)]
        simp [iv]
      rw [e4] at e3
      refine ⟨e14 (some (.slst (ns.map .int))) (some (.box b)) c d (some (.int (size : Nat))) f (some (.lst (iv ms))) (some (.box st.length)) (some (.int (i : Nat))) p9 i10 (some (.lst (iv (bitsI (i : Nat))))) (some (.lst (List.replicate n (.int 1)))) n13, st.set b (.list t1) ++ [.list (iv (xs ++ [((n : Nat) : Int) % 2]))], ?_, xs ++ [((n : Nat) : Int) % 2], some (.int (i : Nat)), some (.lst (iv (bitsI (i : Nat)))), some (.lst (List.replicate n (.int 1))), rfl, rfl, ?_, by simp [hx2]⟩
      · show execs (callN T (k + 3)) _ (e14 (some (.slst (ns.map .int))) (some (.box b)) c d (some (.int (size : Nat))) f (some (.lst (iv ms))) (some (.box st.length)) (some (.int (i : Nat))) p9 i10 q11 q12 n13) _ = _
        rw [ex_cons, e1, SRes.bind_next, ex_cons, e2, SRes.bind_next, ex_cons, e3, SRes.bind_next, ex_nil]
      · intro x hx
        rcases List.mem_append.mp hx with hx | hx
        · exact hx1 x hx
        · rw [List.mem_singleton] at hx
          omega)
    ⟨[], p8, h11, i12, rfl, rfl, fun _ h => by simp at h, rfl⟩
  obtain ⟨ρ3, st3, hf, xs, q8, q11, q12, rfl, rfl, hx1, hx2⟩ := loop
  refine ⟨xs, t1, hx1, by simpa using hx2, by omega, .list (iv xs), ?_⟩
  have hget : (st.set b (.list t1) ++ [Cell.list (iv xs)])[st.length]? = some (.list (iv xs)) := by rw [List.getElem?_append_right (by simp)]; simp
  rw [ex_cons, s1, SRes.bind_next, ex_cons, s2, SRes.bind_next, ex_cons]
  have hr2 := range_ok (show size ≤ 1000 by omega)
  have s3 : exec (callN T (k + 3)) (.for_ [8] (.range (.var 4)) (.cons (.set 11 (.call .l_bits_in (.cons (.var 8) .nil))) (.cons (.set 12 (.lc (.ci 1) [9] (.over (.var 6)) (.some (.cmp .eq (.lc (.ci 1) [13] (.over (.call .l_bits_in (.cons (.var 9) .nil))) (.some (.cmp .notin (.var 13) (.var 11)))) (.lst .nil))))) (.cons (.app (.var 7) (.bin .mod (.b1 .len (.var 12)) (.ci 2))) .nil)))) (e14 (some (.slst (ns.map .int))) (some (.box b)) c d (some (.int (size : Nat))) f (some (.lst (iv ms))) (some (.box st.length)) p8 p9 i10 h11 i12 n13) (st.set b (.list t1) ++ [.list (iv [])]) = .next (e14 (some (.slst (ns.map .int))) (some (.box b)) c d (some (.int (size : Nat))) f (some (.lst (iv ms))) (some (.box st.length)) q8 p9 i10 q11 q12 n13) (st.set b (.list t1) ++ [.list (iv xs)]) := by
    rw [ex_for, evi_range, ev_var (v := .int (size : Nat)) rfl, Res.bind_ok, hr2, lift_some, Res.sbind_ok]
    exact hf
  rw [s3, SRes.bind_next]
  simp -implicitDefEqProofs [deref_box hget]
theorem fin_cell {b : Nat} {c d : Cell} {xs : List Val} : fin false st.length (.tup xs) (st.set b c ++ [d]) = .ok (.tup xs) (st.set b c) := by
  show Res.ok _ ((st.set b c ++ [d]).take st.length) = _
  rw [take_snoc']
/-- the drawn function -/
theorem some_ok (H : HasD T) {ns : List Int} {b : Nat} {town : List Val} (hb : st[b]? = some (.list town)) (ht : town.length < 80000) {least most : Nat} (h1 : 1 ≤ least) (h2 : least ≤ most) (h3 : most ≤ 4) :
    ∃ (xs : List Int) (t' : List Val), IsF xs ∧ (∃ n, least ≤ n ∧ n ≤ most ∧ xs.length = 2 ^ n) ∧ t'.length ≤ town.length + 40 ∧ callN T (k + 4) .l_some_values [.slst (ns.map .int), .box b, .int (least : Nat), .int (most : Nat)] st = .ok (.tup (iv xs)) (st.set b (.list t')) := by
  have hlt : b < st.length := (List.getElem?_eq_some_iff.mp hb).1
  obtain ⟨d1, p1, p2, e1⟩ := draw_ok (T := T) (k := k) (ns := ns) H.cell H.mixed H.draw hb (by omega) ((most : Nat) - (least : Nat) + 1) (by omega)
  obtain ⟨n, hn1, hn2, hn3⟩ : ∃ n : Nat, least ≤ n ∧ n ≤ most ∧ (least : Int) - 1 + d1 = (n : Nat) - 1 := ⟨(least + d1).toNat, by omega, by omega, by omega⟩
  have hz : opIx (.lst [.int 2, .int 4, .int 8, .int 16]) (.int ((least : Nat) - 1 + d1)) = some (.int ((2 ^ n : Nat) : Int)) := by
    rw [hn3]
    have : n = 1 ∨ n = 2 ∨ n = 3 ∨ n = 4 := by omega
    rcases this with rfl | rfl | rfl | rfl <;> rfl
  have hsz : SizeOk (2 ^ n) := by
    have : n = 1 ∨ n = 2 ∨ n = 3 ∨ n = 4 := by omega
    rcases this with rfl | rfl | rfl | rfl
    · exact .inl rfl
    · exact .inr (.inl rfl)
    · exact .inr (.inr (.inl rfl))
    · exact .inr (.inr (.inr rfl))
  have hs16 : 2 ^ n ≤ 16 := by rcases hsz with e | e | e | e <;> omega
  have hb1 : (st.set b (.list (town ++ [.int 0])))[b]? = some (.list (town ++ [.int 0])) := by rw [List.getElem?_set_self hlt]
  obtain ⟨kd, q1, q2, e2⟩ := draw_ok (T := T) (k := k) (ns := ns) H.cell H.mixed H.draw hb1 (by simp; omega) 3 (by omega)
  rw [List.set_set] at e2
  have hb2 : (st.set b (.list (town ++ [.int 0] ++ [.int 0])))[b]? = some (.list (town ++ [.int 0] ++ [.int 0])) := by rw [List.getElem?_set_self hlt]
  have hl2 : (st.set b (.list (town ++ [.int 0] ++ [.int 0]))).length = st.length := by simp
  rw [callN_succ H.some_, callD_eq rfl]
  have pre : ∀ rest, execs (callN T (k + 3)) (.cons (.set 4 (.idx (.lst (.cons (.ci 2) (.cons (.ci 4) (.cons (.ci 8) (.cons (.ci 16) .nil))))) (.bin .add (.bin .sub (.var 2) (.ci 1)) (.call .l_draw (.cons (.var 0) (.cons (.var 1) (.cons (.bin .add (.bin .sub (.var 3) (.var 2)) (.ci 1)) .nil))))))) (.cons (.set 5 (.call .l_draw (.cons (.var 0) (.cons (.var 1) (.cons (.ci 3) .nil))))) rest)) (e14 (some (.slst (ns.map .int))) (some (.box b)) (some (.int (least : Nat))) (some (.int (most : Nat))) none none none none none none none none none none) st = execs (callN T (k + 3)) rest (e14 (some (.slst (ns.map .int))) (some (.box b)) (some (.int (least : Nat))) (some (.int (most : Nat))) (some (.int ((2 ^ n : Nat) : Int))) (some (.int kd)) none none none none none none none none) (st.set b (.list (town ++ [.int 0] ++ [.int 0]))) := by
    intro rest
    generalize (2 ^ n : Nat) = sz at hz
    simp -implicitDefEqProofs [e1, e2, hz, Val.pure, lim]
  have hbody : ∀ ρ : Env, ρ = List.map some [.slst (ns.map .int), .box b, .int (least : Nat), .int (most : Nat)] ++ List.replicate (D.law_some_values.ns - D.law_some_values.np) none → ρ = e14 (some (.slst (ns.map .int))) (some (.box b)) (some (.int (least : Nat))) (some (.int (most : Nat))) none none none none none none none none none none := by
    rintro ρ rfl; rfl
  rw [hbody _ rfl]
  have hkd : kd = 0 ∨ kd = 1 ∨ kd = 2 := by omega
  rcases hkd with rfl | rfl | rfl
  · -- drawn values
    obtain ⟨ds, l1, l2, l3⟩ := draws_ok (T := T) (k := k) (st0 := st.set b (.list (town ++ [.int 0] ++ [.int 0]))) (st := st.set b (.list (town ++ [.int 0] ++ [.int 0]))) (ρ := e14 (some (.slst (ns.map .int))) (some (.box b)) (some (.int (least : Nat))) (some (.int (most : Nat))) (some (.int ((2 ^ n : Nat) : Int))) (some (.int 0)) none none none none none none none none) H.cell H.mixed H.draw (ns := ns) hb2 (me := .call .l_draw (.cons (.var 0) (.cons (.var 1) (.cons (.ci 2) .nil)))) (m := .ci 2) rfl (j := 10) (n := 2 ^ n) (it := .range (.var 4)) (many := 2) (by omega) (fun _ => rfl) (fun _ => rfl) (fun v s => by simp)
      (by rw [evi_range, ev_var (v := .int ((2 ^ n : Nat) : Int)) rfl, Res.bind_ok, range_ok (by omega)]; rfl) (by simp; omega) (by omega)
    rw [List.set_set] at l3
    refine ⟨ds, town ++ [.int 0] ++ [.int 0] ++ zs (2 ^ n), ⟨by rw [l1]; exact hsz, fun x hx => by have := l2 x hx; omega⟩, ⟨n, hn1, hn2, l1⟩, ?_, ?_⟩
    rotate_left 1
    · unfold D.law_some_values
      simp only
      rw [pre, ex_cons]
      have : exec (callN T (k + 3)) (.ife (.cmp .eq (.var 5) (.ci 0)) (.cons (.ret (.b1 .tuple (.lc (.call .l_draw (.cons (.var 0) (.cons (.var 1) (.cons (.ci 2) .nil)))) [10] (.range (.var 4)) .none))) .nil) .nil) (e14 (some (.slst (ns.map .int))) (some (.box b)) (some (.int (least : Nat))) (some (.int (most : Nat))) (some (.int ((2 ^ n : Nat) : Int))) (some (.int 0)) none none none none none none none none) (st.set b (.list (town ++ [.int 0] ++ [.int 0]))) = .ret (.tup (iv ds)) (st.set b (.list (town ++ [.int 0] ++ [.int 0] ++ zs (2 ^ n)))) := by
        generalize st.set b (.list (town ++ [.int 0] ++ [.int 0] ++ zs (2 ^ n))) = S2 at l3 ⊢
        generalize st.set b (.list (town ++ [.int 0] ++ [.int 0])) = S1 at l3 ⊢
        generalize (2 ^ n : Nat) = sz at l3 ⊢
        simp -implicitDefEqProofs [l3]
      rw [this, SRes.bind_ret, endC_ret]
      exact fin_no (fun _ w => by cases w) (by simp)
    · simp [zs]; omega
  · obtain ⟨xs, t', x1, x2, x3, c, hx⟩ := kind1 (T := T) (k := k) H (ns := ns) hb2 (by simp; omega) hsz (some (.int (least : Nat))) (some (.int (most : Nat))) (some (.int 1)) none none none none none none none none
    rw [List.set_set] at hx
    refine ⟨xs, t', ⟨by rw [x2]; exact hsz, x1⟩, ⟨n, hn1, hn2, x2⟩, by simp at x3; omega, ?_⟩
    unfold D.law_some_values
    simp only
    rw [pre, ex_cons]
    have c0 : ∀ body, exec (callN T (k + 3)) (.ife (.cmp .eq (.var 5) (.ci 0)) body .nil) (e14 (some (.slst (ns.map .int))) (some (.box b)) (some (.int (least : Nat))) (some (.int (most : Nat))) (some (.int ((2 ^ n : Nat) : Int))) (some (.int 1)) none none none none none none none none) (st.set b (.list (town ++ [.int 0] ++ [.int 0]))) = .next (e14 (some (.slst (ns.map .int))) (some (.box b)) (some (.int (least : Nat))) (some (.int (most : Nat))) (some (.int ((2 ^ n : Nat) : Int))) (some (.int 1)) none none none none none none none none) (st.set b (.list (town ++ [.int 0] ++ [.int 0]))) := by
      intro body
      generalize st.set b (.list (town ++ [.int 0] ++ [.int 0])) = S1
      generalize (2 ^ n : Nat) = sz
      simp -implicitDefEqProofs
    have c1 : ∀ body, exec (callN T (k + 3)) (.ife (.cmp .eq (.var 5) (.ci 1)) body .nil) (e14 (some (.slst (ns.map .int))) (some (.box b)) (some (.int (least : Nat))) (some (.int (most : Nat))) (some (.int ((2 ^ n : Nat) : Int))) (some (.int 1)) none none none none none none none none) (st.set b (.list (town ++ [.int 0] ++ [.int 0]))) = execs (callN T (k + 3)) body (e14 (some (.slst (ns.map .int))) (some (.box b)) (some (.int (least : Nat))) (some (.int (most : Nat))) (some (.int ((2 ^ n : Nat) : Int))) (some (.int 1)) none none none none none none none none) (st.set b (.list (town ++ [.int 0] ++ [.int 0]))) := by
      intro body
      generalize st.set b (.list (town ++ [.int 0] ++ [.int 0])) = S1
      generalize (2 ^ n : Nat) = sz
      simp -implicitDefEqProofs
    rw [c0, SRes.bind_next, ex_cons, c1, hx, SRes.bind_ret, endC_ret]
    exact fin_cell
  · obtain ⟨xs, t', x1, x2, x3, c, hx⟩ := kind2 (T := T) (k := k) H (ns := ns) hb2 (by simp; omega) hsz (some (.int (least : Nat))) (some (.int (most : Nat))) (some (.int 2)) none none none none none none none none
    rw [List.set_set] at hx
    refine ⟨xs, t', ⟨by rw [x2]; exact hsz, x1⟩, ⟨n, hn1, hn2, x2⟩, by simp at x3; omega, ?_⟩
    unfold D.law_some_values
    simp only
    rw [pre, ex_cons]
    have c0 : ∀ (q : Int) body, q ≠ 2 → exec (callN T (k + 3)) (.ife (.cmp .eq (.var 5) (.ci q)) body .nil) (e14 (some (.slst (ns.map .int))) (some (.box b)) (some (.int (least : Nat))) (some (.int (most : Nat))) (some (.int ((2 ^ n : Nat) : Int))) (some (.int 2)) none none none none none none none none) (st.set b (.list (town ++ [.int 0] ++ [.int 0]))) = .next (e14 (some (.slst (ns.map .int))) (some (.box b)) (some (.int (least : Nat))) (some (.int (most : Nat))) (some (.int ((2 ^ n : Nat) : Int))) (some (.int 2)) none none none none none none none none) (st.set b (.list (town ++ [.int 0] ++ [.int 0]))) := by
      intro q body hq
      have : ((2 : Int) == q) = false := by rw [beq_eq_false_iff_ne]; exact fun e => hq e.symm
      generalize st.set b (.list (town ++ [.int 0] ++ [.int 0])) = S1
      generalize (2 ^ n : Nat) = sz
      simp -implicitDefEqProofs [this]
    rw [c0 0 _ (by omega), SRes.bind_next, ex_cons, c0 1 _ (by omega), SRes.bind_next, hx, endC_ret]
    exact fin_cell
end
end Sw
end

section
/-! SwAlg: waves and echoes of lists of integers. -/
namespace Sw
/-- likenesses with shifts -/
def corrL : Nat → List Int → List Int → List Int
  | 0, xs, ys => List.zipWith (· * ·) xs ys
  | n + 1, xs, ys => List.zipWith (· + ·) (corrL n (xs.take (2 ^ n)) (ys.take (2 ^ n))) (corrL n (xs.drop (2 ^ n)) (ys.drop (2 ^ n))) ++ List.zipWith (· + ·) (corrL n (xs.take (2 ^ n)) (ys.drop (2 ^ n))) (corrL n (xs.drop (2 ^ n)) (ys.take (2 ^ n)))
theorem halves {n : Nat} {xs : List Int} (h : xs.length = 2 ^ (n + 1)) : (xs.take (2 ^ n)).length = 2 ^ n ∧ (xs.drop (2 ^ n)).length = 2 ^ n := by
  rw [List.length_take, List.length_drop]
  omega
theorem corrL_len : ∀ (n : Nat) (xs ys : List Int), xs.length = 2 ^ n → ys.length = 2 ^ n → (corrL n xs ys).length = 2 ^ n
  | 0, xs, ys, h, h' => by simp [corrL, h, h']
  | n + 1, xs, ys, h, h' => by
    obtain ⟨a1, a2⟩ := halves h
    obtain ⟨b1, b2⟩ := halves h'
    simp only [corrL, List.length_append, List.length_zipWith, corrL_len n _ _ a1 b1, corrL_len n _ _ a2 b2, corrL_len n _ _ a1 b2, corrL_len n _ _ a2 b1]
    omega
theorem spread_app {n : Nat} {xs ys : List Int} (h : xs.length = 2 ^ n) (h' : ys.length = 2 ^ n) : spreadL (n + 1) (xs ++ ys) = List.zipWith (· + ·) (spreadL n xs) (spreadL n ys) ++ List.zipWith (· - ·) (spreadL n xs) (spreadL n ys) := by
  simp only [spreadL]
  rw [List.take_left' h, List.drop_left' h]
/-- spread goes through sums and differences -/
theorem zw_take (f : Int → Int → Int) (xs ys : List Int) (k : Nat) : (List.zipWith f xs ys).take k = List.zipWith f (xs.take k) (ys.take k) := List.take_zipWith
theorem zw_drop (f : Int → Int → Int) (xs ys : List Int) (k : Nat) : (List.zipWith f xs ys).drop k = List.zipWith f (xs.drop k) (ys.drop k) := List.drop_zipWith
theorem zw4 (f g : Int → Int → Int) (hfg : ∀ a b c d, f (g a b) (g c d) = g (f a c) (f b d)) : ∀ (A B C D : List Int), A.length = C.length → B.length = D.length → A.length = B.length → List.zipWith f (List.zipWith g A B) (List.zipWith g C D) = List.zipWith g (List.zipWith f A C) (List.zipWith f B D)
  | [], B, C, D, h1, h2, h3 => by
    have : C = [] := List.eq_nil_of_length_eq_zero (by simpa using h1.symm)
    subst this; simp
  | a :: A, [], C, D, h1, h2, h3 => by simp at h3
  | a :: A, b :: B, [], D, h1, h2, h3 => by simp at h1
  | a :: A, b :: B, c :: C, [], h1, h2, h3 => by simp at h2
  | a :: A, b :: B, c :: C, d :: D, h1, h2, h3 => by
    simp only [List.zipWith_cons_cons, hfg]
    rw [zw4 f g hfg A B C D (by simpa using h1) (by simpa using h2) (by simpa using h3)]
theorem spread_add : ∀ (n : Nat) (xs ys : List Int), xs.length = 2 ^ n → ys.length = 2 ^ n → spreadL n (List.zipWith (· + ·) xs ys) = List.zipWith (· + ·) (spreadL n xs) (spreadL n ys)
  | 0, xs, ys, _, _ => rfl
  | n + 1, xs, ys, h, h' => by
    obtain ⟨a1, a2⟩ := halves h
    obtain ⟨b1, b2⟩ := halves h'
    have l1 := spreadL_len n _ a1
    have l2 := spreadL_len n _ a2
    have l3 := spreadL_len n _ b1
    have l4 := spreadL_len n _ b2
    simp only [spreadL, zw_take, zw_drop]
    rw [spread_add n _ _ a1 b1, spread_add n _ _ a2 b2]
    rw [List.zipWith_append (by simp [l1, l2, l3, l4])]
    congr 1
    · exact zw4 (· + ·) (· + ·) (fun a b c d => by omega) _ _ _ _ (by omega) (by omega) (by omega)
    · exact zw4 (· - ·) (· + ·) (fun a b c d => by omega) _ _ _ _ (by omega) (by omega) (by omega)
/-- the square law: the wave of likenesses with shifts is the product of the waves -/
theorem zw_prod (op : Int → Int → Int) : ∀ (A B C D : List Int), A.length = B.length → C.length = D.length → A.length = C.length → List.zipWith (· + ·) (List.zipWith (· + ·) (List.zipWith (· * ·) A C) (List.zipWith (· * ·) B D)) (List.zipWith (· + ·) (List.zipWith (· * ·) A D) (List.zipWith (· * ·) B C)) = List.zipWith (· * ·) (List.zipWith (· + ·) A B) (List.zipWith (· + ·) C D) ∧ List.zipWith (· - ·) (List.zipWith (· + ·) (List.zipWith (· * ·) A C) (List.zipWith (· * ·) B D)) (List.zipWith (· + ·) (List.zipWith (· * ·) A D) (List.zipWith (· * ·) B C)) = List.zipWith (· * ·) (List.zipWith (· - ·) A B) (List.zipWith (· - ·) C D)
  | [], B, C, D, h1, h2, h3 => by
    have : B = [] := List.eq_nil_of_length_eq_zero (by simpa using h1.symm)
    subst this; simp
  | a :: A, [], C, D, h1, h2, h3 => by simp at h1
  | a :: A, b :: B, [], D, h1, h2, h3 => by simp at h3
  | a :: A, b :: B, c :: C, [], h1, h2, h3 => by simp at h2
  | a :: A, b :: B, c :: C, d :: D, h1, h2, h3 => by
    obtain ⟨e1, e2⟩ := zw_prod op A B C D (by simpa using h1) (by simpa using h2) (by simpa using h3)
    simp only [List.zipWith_cons_cons, e1, e2]
    refine ⟨?_, ?_⟩
    · congr 1
      grind
    · congr 1
      grind
theorem corr_spread : ∀ (n : Nat) (xs ys : List Int), xs.length = 2 ^ n → ys.length = 2 ^ n → spreadL n (corrL n xs ys) = List.zipWith (· * ·) (spreadL n xs) (spreadL n ys)
  | 0, xs, ys, _, _ => rfl
  | n + 1, xs, ys, h, h' => by
    obtain ⟨a1, a2⟩ := halves h
    obtain ⟨b1, b2⟩ := halves h'
    have l1 := spreadL_len n _ a1
    have l2 := spreadL_len n _ a2
    have l3 := spreadL_len n _ b1
    have l4 := spreadL_len n _ b2
    have c1 := corrL_len n _ _ a1 b1
    have c2 := corrL_len n _ _ a2 b2
    have c3 := corrL_len n _ _ a1 b2
    have c4 := corrL_len n _ _ a2 b1
    have hS : ∀ zs : List Int, spreadL (n + 1) zs = List.zipWith (· + ·) (spreadL n (zs.take (2 ^ n))) (spreadL n (zs.drop (2 ^ n))) ++ List.zipWith (· - ·) (spreadL n (zs.take (2 ^ n))) (spreadL n (zs.drop (2 ^ n))) := fun _ => rfl
    have hC : corrL (n + 1) xs ys = List.zipWith (· + ·) (corrL n (xs.take (2 ^ n)) (ys.take (2 ^ n))) (corrL n (xs.drop (2 ^ n)) (ys.drop (2 ^ n))) ++ List.zipWith (· + ·) (corrL n (xs.take (2 ^ n)) (ys.drop (2 ^ n))) (corrL n (xs.drop (2 ^ n)) (ys.take (2 ^ n))) := rfl
    rw [hC, spread_app (by simp [c1, c2]) (by simp [c3, c4]), spread_add n _ _ c1 c2, spread_add n _ _ c3 c4, corr_spread n _ _ a1 b1, corr_spread n _ _ a2 b2, corr_spread n _ _ a1 b2, corr_spread n _ _ a2 b1, hS xs, hS ys]
    rw [List.zipWith_append (by simp [l1, l2, l3, l4])]
    obtain ⟨e1, e2⟩ := zw_prod (· + ·) (spreadL n (xs.take (2 ^ n))) (spreadL n (xs.drop (2 ^ n))) (spreadL n (ys.take (2 ^ n))) (spreadL n (ys.drop (2 ^ n))) (by omega) (by omega) (by omega)
    rw [e1, e2]
/-- twice: every number times the size -/
theorem zw_twice : ∀ (A B : List Int) (q : Int), A.length = B.length → List.zipWith (· + ·) (List.zipWith (· + ·) (A.map (q * ·)) (B.map (q * ·))) (List.zipWith (· - ·) (A.map (q * ·)) (B.map (q * ·))) = A.map (2 * q * ·) ∧ List.zipWith (· - ·) (List.zipWith (· + ·) (A.map (q * ·)) (B.map (q * ·))) (List.zipWith (· - ·) (A.map (q * ·)) (B.map (q * ·))) = B.map (2 * q * ·)
  | [], B, q, h => by
    have : B = [] := List.eq_nil_of_length_eq_zero (by simpa using h.symm)
    subst this; simp
  | a :: A, [], q, h => by simp at h
  | a :: A, b :: B, q, h => by
    obtain ⟨e1, e2⟩ := zw_twice A B q (by simpa using h)
    simp only [List.map_cons, List.zipWith_cons_cons, e1, e2]
    refine ⟨?_, ?_⟩
    · congr 1; grind
    · congr 1; grind
theorem spread_sub : ∀ (n : Nat) (xs ys : List Int), xs.length = 2 ^ n → ys.length = 2 ^ n → spreadL n (List.zipWith (· - ·) xs ys) = List.zipWith (· - ·) (spreadL n xs) (spreadL n ys)
  | 0, xs, ys, _, _ => rfl
  | n + 1, xs, ys, h, h' => by
    obtain ⟨a1, a2⟩ := halves h
    obtain ⟨b1, b2⟩ := halves h'
    have l1 := spreadL_len n _ a1
    have l2 := spreadL_len n _ a2
    have l3 := spreadL_len n _ b1
    have l4 := spreadL_len n _ b2
    simp only [spreadL, zw_take, zw_drop]
    rw [spread_sub n _ _ a1 b1, spread_sub n _ _ a2 b2]
    rw [List.zipWith_append (by simp [l1, l2, l3, l4])]
    congr 1
    · exact zw4 (· + ·) (· - ·) (fun a b c d => by omega) _ _ _ _ (by omega) (by omega) (by omega)
    · exact zw4 (· - ·) (· - ·) (fun a b c d => by omega) _ _ _ _ (by omega) (by omega) (by omega)
theorem spread_twice : ∀ (n : Nat) (xs : List Int), xs.length = 2 ^ n → spreadL n (spreadL n xs) = xs.map ((2 ^ n : Int) * ·)
  | 0, xs, h => by simp [spreadL]
  | n + 1, xs, h => by
    obtain ⟨a1, a2⟩ := halves h
    have l1 := spreadL_len n _ a1
    have l2 := spreadL_len n _ a2
    have hS : spreadL (n + 1) xs = List.zipWith (· + ·) (spreadL n (xs.take (2 ^ n))) (spreadL n (xs.drop (2 ^ n))) ++ List.zipWith (· - ·) (spreadL n (xs.take (2 ^ n))) (spreadL n (xs.drop (2 ^ n))) := rfl
    rw [hS, spread_app (by simp [l1, l2]) (by simp [l1, l2]), spread_add n _ _ l1 l2, spread_sub n _ _ l1 l2, spread_twice n _ a1, spread_twice n _ a2]
    obtain ⟨e1, e2⟩ := zw_twice (xs.take (2 ^ n)) (xs.drop (2 ^ n)) (2 ^ n) (by omega)
    rw [e1, e2, ← List.map_append, List.take_append_drop]
    congr 1
    funext x
    congr 1
    rw [Int.pow_succ]
    omega
end Sw
end

section
/-! SwAlg2: rows of signs, shifted places. -/
namespace Sw
/-- the sum of the numbers, each times f of its place -/
def rowAt (f : Nat → Int) : List Int → Int
  | [] => 0
  | x :: xs => x * f 0 + rowAt (fun i => f (i + 1)) xs
theorem rowAt_congr : ∀ (xs : List Int) (f g : Nat → Int), (∀ i < xs.length, f i = g i) → rowAt f xs = rowAt g xs
  | [], f, g, _ => rfl
  | x :: xs, f, g, h => by
    simp only [rowAt]
    rw [h 0 (by simp), rowAt_congr xs _ (fun i => g (i + 1)) (fun i hi => h (i + 1) (by simp; omega))]
theorem rowAt_app : ∀ (xs ys : List Int) (f : Nat → Int), rowAt f (xs ++ ys) = rowAt f xs + rowAt (fun i => f (i + xs.length)) ys
  | [], ys, f => by simp [rowAt]
  | x :: xs, ys, f => by
    simp only [List.cons_append, rowAt, rowAt_app xs ys, List.length_cons]
    have : (fun i => f (i + xs.length + 1)) = fun i => f (i + (xs.length + 1)) := by funext i; congr 1
    rw [this]
    omega
theorem rowAt_neg : ∀ (xs : List Int) (f : Nat → Int), rowAt (fun i => -f i) xs = -rowAt f xs
  | [], f => rfl
  | x :: xs, f => by
    simp only [rowAt, rowAt_neg xs (fun i => f (i + 1))]
    grind
theorem getD_zw (f : Int → Int → Int) : ∀ (A B : List Int) (i : Nat), i < A.length → A.length = B.length → (List.zipWith f A B).getD i 0 = f (A.getD i 0) (B.getD i 0)
  | [], B, i, h, _ => by simp at h
  | a :: A, [], i, _, h => by simp at h
  | a :: A, b :: B, 0, _, _ => by simp
  | a :: A, b :: B, i + 1, h, h' => by
    have := getD_zw f A B i (by simpa using h) (by simpa using h')
    simpa using this
theorem getD_left {A B : List Int} {i : Nat} (h : i < A.length) : (A ++ B).getD i 0 = A.getD i 0 := by
  simp [List.getD, List.getElem?_append_left h]
theorem getD_right {A B : List Int} {i : Nat} : (A ++ B).getD (i + A.length) 0 = B.getD i 0 := by
  simp only [List.getD]
  rw [List.getElem?_append_right (by omega)]
  congr 2
  omega
theorem getD_take {A : List Int} {i k : Nat} (h : i < k) : (A.take k).getD i 0 = A.getD i 0 := by
  simp [List.getD, List.getElem?_take, h]
theorem getD_drop {A : List Int} {i k : Nat} : (A.drop k).getD i 0 = A.getD (i + k) 0 := by
  simp [List.getD, List.getElem?_drop, Nat.add_comm]
/-! ### signs -/
def sg (m s : Nat) : Int := 1 - 2 * oddI (m : Nat) (s : Nat)
theorem sg_tab : ∀ n < 4, ∀ m < 2 ^ n, ∀ i < 2 ^ n, sg m (i + 2 ^ n) = sg m i ∧ sg (m + 2 ^ n) i = sg m i ∧ sg (m + 2 ^ n) (i + 2 ^ n) = -sg m i := by decide +kernel
theorem sg_symm : ∀ m < 16, ∀ i < 16, sg m i = sg i m := by decide +kernel
theorem row_wave : ∀ (n : Nat) (xs : List Int), n ≤ 4 → xs.length = 2 ^ n → ∀ m < 2 ^ n, rowAt (sg m) xs = (spreadL n xs).getD m 0
  | 0, xs, _, h, m, hm => by
    have hm0 : m = 0 := by simpa using hm
    subst hm0
    match xs, h with
    | [x], _ =>
      have : sg 0 0 = 1 := by decide +kernel
      simp [rowAt, spreadL, this]
  | n + 1, xs, hn, h, m, hm => by
    obtain ⟨a1, a2⟩ := halves h
    have l1 := spreadL_len n _ a1
    have l2 := spreadL_len n _ a2
    have tab := sg_tab n (by omega)
    have hx : rowAt (sg m) xs = rowAt (sg m) (xs.take (2 ^ n)) + rowAt (fun i => sg m (i + 2 ^ n)) (xs.drop (2 ^ n)) := by
      conv => lhs; rw [← List.take_append_drop (2 ^ n) xs]
      rw [rowAt_app, a1]
    rw [hx]
    simp only [spreadL]
    by_cases hlt : m < 2 ^ n
    · rw [rowAt_congr _ (fun i => sg m (i + 2 ^ n)) (sg m) (fun i hi => (tab m hlt i (by omega)).1), row_wave n _ (by omega) a1 m hlt, row_wave n _ (by omega) a2 m hlt]
      rw [getD_left (by simp [l1, l2, hlt]), getD_zw _ _ _ _ (by omega) (by omega)]
    · obtain ⟨m', rfl⟩ : ∃ m', m = m' + 2 ^ n := ⟨m - 2 ^ n, by omega⟩
      have hm' : m' < 2 ^ n := by omega
      rw [rowAt_congr _ (sg (m' + 2 ^ n)) (sg m') (fun i hi => (tab m' hm' i (by omega)).2.1), rowAt_congr _ (fun i => sg (m' + 2 ^ n) (i + 2 ^ n)) (fun i => -sg m' i) (fun i hi => (tab m' hm' i (by omega)).2.2), rowAt_neg, row_wave n _ (by omega) a1 m' hm', row_wave n _ (by omega) a2 m' hm']
      have hl : (List.zipWith (· + ·) (spreadL n (xs.take (2 ^ n))) (spreadL n (xs.drop (2 ^ n)))).length = 2 ^ n := by simp [l1, l2]
      have := getD_right (A := List.zipWith (· + ·) (spreadL n (xs.take (2 ^ n))) (spreadL n (xs.drop (2 ^ n)))) (B := List.zipWith (· - ·) (spreadL n (xs.take (2 ^ n))) (spreadL n (xs.drop (2 ^ n)))) (i := m')
      rw [hl] at this
      rw [this, getD_zw _ _ _ _ (by omega) (by omega)]
      omega
/-! ### shifts -/
theorem xor_tabs : ∀ n < 4, ∀ i < 2 ^ n, ∀ s < 2 ^ n, i ^^^ s < 2 ^ n ∧ (i + 2 ^ n) ^^^ s = (i ^^^ s) + 2 ^ n ∧ i ^^^ (s + 2 ^ n) = (i ^^^ s) + 2 ^ n ∧ (i + 2 ^ n) ^^^ (s + 2 ^ n) = i ^^^ s := by decide +kernel
theorem corr_row : ∀ (n : Nat) (xs ys : List Int), n ≤ 4 → xs.length = 2 ^ n → ys.length = 2 ^ n → ∀ s < 2 ^ n, (corrL n xs ys).getD s 0 = rowAt (fun i => ys.getD (i ^^^ s) 0) xs
  | 0, xs, ys, _, h, h', s, hs => by
    have hs0 : s = 0 := by simpa using hs
    subst hs0
    match xs, ys, h, h' with
    | [x], [y], _, _ => simp [corrL, rowAt]
  | n + 1, xs, ys, hn, h, h', s, hs => by
    obtain ⟨a1, a2⟩ := halves h
    obtain ⟨b1, b2⟩ := halves h'
    have c1 := corrL_len n _ _ a1 b1
    have c2 := corrL_len n _ _ a2 b2
    have c3 := corrL_len n _ _ a1 b2
    have c4 := corrL_len n _ _ a2 b1
    have tab := xor_tabs n (by omega)
    have hx : ∀ f : Nat → Int, rowAt f xs = rowAt f (xs.take (2 ^ n)) + rowAt (fun i => f (i + 2 ^ n)) (xs.drop (2 ^ n)) := by
      intro f
      conv => lhs; rw [← List.take_append_drop (2 ^ n) xs]
      rw [rowAt_app, a1]
    rw [hx]
    simp only [corrL]
    by_cases hlt : s < 2 ^ n
    · rw [getD_left (by simp [c1, c2, hlt]), getD_zw _ _ _ _ (by omega) (by omega), corr_row n _ _ (by omega) a1 b1 s hlt, corr_row n _ _ (by omega) a2 b2 s hlt]
      congr 1
      · exact rowAt_congr _ _ _ fun i hi => getD_take (tab i (by omega) s hlt).1
      · refine rowAt_congr _ _ _ fun i hi => ?_
        rw [getD_drop, (tab i (by omega) s hlt).2.1]
    · obtain ⟨t, rfl⟩ : ∃ t, s = t + 2 ^ n := ⟨s - 2 ^ n, by omega⟩
      have ht : t < 2 ^ n := by omega
      have hl : (List.zipWith (· + ·) (corrL n (xs.take (2 ^ n)) (ys.take (2 ^ n))) (corrL n (xs.drop (2 ^ n)) (ys.drop (2 ^ n)))).length = 2 ^ n := by simp [c1, c2]
      have := getD_right (A := List.zipWith (· + ·) (corrL n (xs.take (2 ^ n)) (ys.take (2 ^ n))) (corrL n (xs.drop (2 ^ n)) (ys.drop (2 ^ n)))) (B := List.zipWith (· + ·) (corrL n (xs.take (2 ^ n)) (ys.drop (2 ^ n))) (corrL n (xs.drop (2 ^ n)) (ys.take (2 ^ n)))) (i := t)
      rw [hl] at this
      rw [this, getD_zw _ _ _ _ (by omega) (by omega), corr_row n _ _ (by omega) a1 b2 t ht, corr_row n _ _ (by omega) a2 b1 t ht]
      congr 1
      · refine rowAt_congr _ _ _ fun i hi => ?_
        rw [getD_drop, (tab i (by omega) t ht).2.2.1]
      · refine rowAt_congr _ _ _ fun i hi => ?_
        rw [getD_take (tab i (by omega) t ht).1, (tab i (by omega) t ht).2.2.2]
/-! ### likenesses of 0s and 1s -/
theorem alike_row : ∀ (xs : List Int) (y : Nat → Int), Bits xs → (∀ i < xs.length, y i = 0 ∨ y i = 1) → (xs.length : Int) - 2 * (apartL xs ((List.range xs.length).map y) : Nat) = rowAt (fun i => 1 - 2 * y i) (signL xs)
  | [], y, _, _ => rfl
  | x :: xs, y, hx, hy => by
    have ih := alike_row xs (fun i => y (i + 1)) (fun z hz => hx z (by simp [hz])) (fun i hi => hy (i + 1) (by simp; omega))
    have hx0 := hx x (by simp)
    have hy0 := hy 0 (by simp)
    have hr : (List.range (x :: xs).length).map y = y 0 :: (List.range xs.length).map fun i => y (i + 1) := by
      simp [List.range_succ_eq_map, Function.comp_def]
    rw [hr]
    have hsg : signL (x :: xs) = (1 - 2 * x) :: signL xs := rfl
    rw [hsg]
    simp only [rowAt, apartL, List.zip_cons_cons, List.filter_cons, List.length_cons] at ih ⊢
    rcases hx0 with rfl | rfl <;> rcases hy0 with h0 | h0 <;> simp [h0] <;> omega
theorem signL_getD {xs : List Int} {i : Nat} (h : i < xs.length) : (signL xs).getD i 0 = 1 - 2 * xs.getD i 0 := by
  simp [signL, List.getD, h]
theorem echo_corr {xs : List Int} (h : IsF xs) : echoL xs = corrL (lg xs.length) (signL xs) (signL xs) := by
  obtain ⟨p1, p2⟩ := lg_pow h.1
  have hl : (signL xs).length = xs.length := by simp [signL]
  apply List.ext_getElem (by rw [corrL_len _ _ _ (by rw [hl]; exact p1) (by rw [hl]; exact p1), echoL]; simp; exact p1)
  intro s h1 h2
  have hs : s < xs.length := by simpa [echoL] using h1
  have e2 : (corrL (lg xs.length) (signL xs) (signL xs))[s] = (corrL (lg xs.length) (signL xs) (signL xs)).getD s 0 := by simp [List.getD, h2]
  rw [e2, corr_row _ _ _ p2 (by rw [hl]; exact p1) (by rw [hl]; exact p1) s (by omega)]
  simp only [echoL, List.getElem_map, List.getElem_range]
  unfold movedL
  rw [alike_row xs _ h.2 (fun i hi => h.2 _ (by
    have := xor_lt h.1 hi hs
    simp [List.getD, this]))]
  refine rowAt_congr _ _ _ fun i hi => ?_
  rw [signL_getD (xor_lt h.1 (by omega) hs)]
end Sw
end

section
/-! SwAlg3: enumerated sums, equal tuples, bounds. -/
namespace Sw
section
variable {T : Fn → Option FDef} {k : Nat} {st : Store} {C : Orc} {ρ : Env}
def enFrom (n : Nat) : List Int → List (Nat × Int)
  | [] => []
  | x :: xs => (n, x) :: enFrom (n + 1) xs
theorem enFrom_len : ∀ (xs : List Int) (n : Nat), (enFrom n xs).length = xs.length
  | [], n => rfl
  | x :: xs, n => by simp [enFrom, enFrom_len xs]
theorem enFrom_mem : ∀ (xs : List Int) (n : Nat) (p : Nat × Int), p ∈ enFrom n xs → n ≤ p.1 ∧ p.1 < n + xs.length ∧ p.2 ∈ xs ∧ p.2 = xs.getD (p.1 - n) 0
  | [], n, p, h => by simp [enFrom] at h
  | x :: xs, n, p, h => by
    rcases List.mem_cons.mp h with rfl | h
    · simp
    · obtain ⟨h1, h2, h3, h4⟩ := enFrom_mem xs (n + 1) p h
      refine ⟨by omega, by simp; omega, by simp [h3], ?_⟩
      rw [h4]
      have : p.1 - n = (p.1 - (n + 1)) + 1 := by omega
      rw [this]
      simp
theorem enumV_iv : ∀ (xs : List Int) (n : Nat), enumV n (iv xs) = (enFrom n xs).map fun p => [.int (p.1 : Nat), .int p.2]
  | [], n => rfl
  | x :: xs, n => by
    have := enumV_iv xs (n + 1)
    simp only [iv] at this
    simp [iv, enumV, enFrom, this]
theorem enumT_iv {xs : List Int} : enumOf st (.tup (iv xs)) = some ((enFrom 0 xs).map (fun p => [.int (p.1 : Nat), .int p.2]), none) := by simp [enumOf, enumV_iv]
theorem en_sum (f : Nat → Int) : ∀ (xs : List Int) (n : Nat), ((enFrom n xs).map fun p => p.2 * f p.1).sum = rowAt (fun i => f (i + n)) xs
  | [], n => rfl
  | x :: xs, n => by
    simp only [enFrom, List.map_cons, List.sum_cons, rowAt, en_sum f xs (n + 1)]
    have : (fun i => f (i + (n + 1))) = fun i => f (i + 1 + n) := by funext i; congr 1; omega
    rw [this]
    simp
theorem en_sum0 (f : Nat → Int) (xs : List Int) : ((enFrom 0 xs).map fun p => p.2 * f p.1).sum = rowAt f xs := by rw [en_sum]; rfl
theorem en_sumM (f : Nat → Int) (h : Int → Int) : ∀ (xs : List Int) (n : Nat), ((enFrom n xs).map fun p => h p.2 * f p.1).sum = rowAt (fun i => f (i + n)) (xs.map h)
  | [], n => rfl
  | x :: xs, n => by
    simp only [enFrom, List.map_cons, List.sum_cons, rowAt, en_sumM f h xs (n + 1)]
    have : (fun i => f (i + (n + 1))) = fun i => f (i + 1 + n) := by funext i; congr 1; omega
    rw [this]
    simp
theorem veqs_iv : ∀ xs : List Int, veqs (iv xs) (iv xs) = true
  | [] => rfl
  | x :: xs => by
    have := veqs_iv xs
    simp only [iv] at this
    simp [iv, veqs, veq, this]
theorem dat_iv (xs : List Int) (n : Nat) : (iv xs).all (dat n) = true := by
  simp only [iv, List.all_map, List.all_eq_true, Function.comp]
  intro x _
  cases n <;> rfl
theorem ne_self (xs : List Int) : cmpop .ne (.tup (iv xs)) (.tup (iv xs)) = some false := by
  have e : cmpop .ne (.tup (iv xs)) (.tup (iv xs)) = if (dat 8 (.tup (iv xs)) && dat 8 (.tup (iv xs))) = true then some (!veq (.tup (iv xs)) (.tup (iv xs))) else none := rfl
  rw [e, if_pos (by simp [dat, dat_iv])]
  simp [veq, veqs_iv]
theorem sgn_ix {o : Int} (h : o = 0 ∨ o = 1) : opIx (.lst [.int 1, .int (-1)]) (.int o) = some (.int (1 - 2 * o)) := by
  rcases h with rfl | rfl <;> rfl
theorem spread_bound : ∀ (n : Nat) (xs : List Int) (B : Int), xs.length = 2 ^ n → (∀ x ∈ xs, -B ≤ x ∧ x ≤ B) → ∀ y ∈ spreadL n xs, -(2 ^ n * B) ≤ y ∧ y ≤ 2 ^ n * B
  | 0, xs, B, _, h, y, hy => by have := h y hy; simpa using this
  | n + 1, xs, B, hl, h, y, hy => by
    obtain ⟨a1, a2⟩ := halves hl
    have b1 := spread_bound n _ B a1 (fun x hx => h x (List.mem_of_mem_take hx))
    have b2 := spread_bound n _ B a2 (fun x hx => h x (List.mem_of_mem_drop hx))
    have hp : (2 : Int) ^ (n + 1) * B = 2 ^ n * B + 2 ^ n * B := by rw [Int.pow_succ]; grind
    have zwm : ∀ (f : Int → Int → Int) (A B : List Int) (z : Int), z ∈ List.zipWith f A B → ∃ a ∈ A, ∃ b ∈ B, z = f a b := by
      intro f A
      induction A with
      | nil => intro B z h; simp at h
      | cons a A ih =>
        intro B z h
        cases B with
        | nil => simp at h
        | cons b B =>
          rcases List.mem_cons.mp h with rfl | h
          · exact ⟨a, by simp, b, by simp, rfl⟩
          · obtain ⟨a', ha, b', hb, e⟩ := ih B z h
            exact ⟨a', by simp [ha], b', by simp [hb], e⟩
    rw [hp]
    generalize (2 : Int) ^ n * B = Q at b1 b2
    simp only [spreadL] at hy
    rcases List.mem_append.mp hy with hy | hy
    · obtain ⟨a, ha, b, hb, rfl⟩ := zwm _ _ _ _ hy
      have := b1 a ha
      have := b2 b hb
      omega
    · obtain ⟨a, ha, b, hb, rfl⟩ := zwm _ _ _ _ hy
      have := b1 a ha
      have := b2 b hb
      omega
theorem wave_bound {xs : List Int} (h : IsF xs) : ∀ y ∈ waveL xs, -16 ≤ y ∧ y ≤ 16 := by
  intro y hy
  obtain ⟨p1, p2⟩ := lg_pow h.1
  have := spread_bound (lg xs.length) (signL xs) 1 (by rw [signL, List.length_map]; exact p1) (fun x hx => by
    obtain ⟨z, hz, rfl⟩ := List.mem_map.mp hx
    have := h.2 z hz
    omega) y hy
  have hn := len_ok h.1
  have : (2 : Int) ^ lg xs.length ≤ 16 := by
    have e : ((2 ^ lg xs.length : Nat) : Int) = (2 : Int) ^ lg xs.length := by simp
    rw [← e, ← p1]
    omega
  omega
end
end Sw
end

section
/-! SwAlg4: what the echo law asks. -/
namespace Sw
theorem zw_comm (A B : List Int) : List.zipWith (· + ·) A B = List.zipWith (· + ·) B A := by
  induction A generalizing B with
  | nil => cases B <;> simp
  | cons a A ih => cases B with
    | nil => simp
    | cons b B => simp only [List.zipWith_cons_cons, ih B]; congr 1; omega
theorem corr_symm : ∀ (n : Nat) (xs ys : List Int), corrL n xs ys = corrL n ys xs
  | 0, xs, ys => by
    simp only [corrL]
    induction xs generalizing ys with
    | nil => cases ys <;> simp
    | cons a A ih => cases ys with
      | nil => simp
      | cons b B => simp only [List.zipWith_cons_cons, ih B]; congr 1; exact Int.mul_comm _ _
  | n + 1, xs, ys => by
    simp only [corrL]
    rw [corr_symm n (xs.take _) (ys.take _), corr_symm n (xs.drop _) (ys.drop _), corr_symm n (xs.take _) (ys.drop _), corr_symm n (xs.drop _) (ys.take _), zw_comm (corrL n (ys.drop _) (xs.take _))]
theorem zw_mem {f : Int → Int → Int} : ∀ {A B : List Int} {z : Int}, z ∈ List.zipWith f A B → ∃ a ∈ A, ∃ b ∈ B, z = f a b
  | [], B, z, h => by simp at h
  | a :: A, [], z, h => by simp at h
  | a :: A, b :: B, z, h => by
    rcases List.mem_cons.mp h with rfl | h
    · exact ⟨a, by simp, b, by simp, rfl⟩
    · obtain ⟨a', ha, b', hb, e⟩ := zw_mem h
      exact ⟨a', by simp [ha], b', by simp [hb], e⟩
theorem corr_par : ∀ (n : Nat) (xs ys : List Int), (∀ x ∈ xs, x % 2 = 1) → (∀ y ∈ ys, y % 2 = 1) → ∀ z ∈ corrL n xs ys, z % 2 = 2 ^ n % 2
  | 0, xs, ys, hx, hy, z, hz => by
    obtain ⟨a, ha, b, hb, rfl⟩ := zw_mem hz
    have h1 := hx a ha
    have h2 := hy b hb
    rw [Int.mul_emod, h1, h2]
    rfl
  | n + 1, xs, ys, hx, hy, z, hz => by
    have x1 : ∀ x ∈ xs.take (2 ^ n), x % 2 = 1 := fun x h => hx x (List.mem_of_mem_take h)
    have x2 : ∀ x ∈ xs.drop (2 ^ n), x % 2 = 1 := fun x h => hx x (List.mem_of_mem_drop h)
    have y1 : ∀ x ∈ ys.take (2 ^ n), x % 2 = 1 := fun x h => hy x (List.mem_of_mem_take h)
    have y2 : ∀ x ∈ ys.drop (2 ^ n), x % 2 = 1 := fun x h => hy x (List.mem_of_mem_drop h)
    have hp : (2 : Int) ^ (n + 1) = 2 ^ n + 2 ^ n := by rw [Int.pow_succ]; omega
    rw [hp]
    simp only [corrL] at hz
    rcases List.mem_append.mp hz with hz | hz
    · obtain ⟨a, ha, b, hb, rfl⟩ := zw_mem hz
      have h1 := corr_par n _ _ x1 y1 a ha
      have h2 := corr_par n _ _ x2 y2 b hb
      generalize (2 : Int) ^ n = Q at *
      omega
    · obtain ⟨a, ha, b, hb, rfl⟩ := zw_mem hz
      have h1 := corr_par n _ _ x1 y2 a ha
      have h2 := corr_par n _ _ x2 y1 b hb
      generalize (2 : Int) ^ n = Q at *
      omega
theorem zw_same {A : List Int} {z : Int} (h : z ∈ List.zipWith (· + ·) A A) : ∃ a ∈ A, z = a + a := by
  induction A with
  | nil => simp at h
  | cons a A ih =>
    rcases List.mem_cons.mp h with rfl | h
    · exact ⟨a, by simp, rfl⟩
    · obtain ⟨b, hb, e⟩ := ih h
      exact ⟨b, by simp [hb], e⟩
theorem corr_four : ∀ (n : Nat) (xs : List Int), (∀ x ∈ xs, x = 1 ∨ x = -1) → ∀ z ∈ corrL n xs xs, z % 4 = 2 ^ n % 4
  | 0, xs, hx, z, hz => by
    have : ∀ (A : List Int), (∀ x ∈ A, x = 1 ∨ x = -1) → z ∈ List.zipWith (· * ·) A A → z = 1 := by
      intro A
      induction A with
      | nil => intro _ h; simp at h
      | cons a A ih =>
        intro hA h
        rcases List.mem_cons.mp h with rfl | h
        · rcases hA a (by simp) with rfl | rfl <;> rfl
        · exact ih (fun x hx => hA x (by simp [hx])) h
    rw [this xs hx hz]
    rfl
  | n + 1, xs, hx, z, hz => by
    have x1 : ∀ x ∈ xs.take (2 ^ n), x = 1 ∨ x = -1 := fun x h => hx x (List.mem_of_mem_take h)
    have x2 : ∀ x ∈ xs.drop (2 ^ n), x = 1 ∨ x = -1 := fun x h => hx x (List.mem_of_mem_drop h)
    have hp : (2 : Int) ^ (n + 1) = 2 ^ n + 2 ^ n := by rw [Int.pow_succ]; omega
    rw [hp]
    simp only [corrL] at hz
    rcases List.mem_append.mp hz with hz | hz
    · obtain ⟨a, ha, b, hb, rfl⟩ := zw_mem hz
      have h1 := corr_four n _ x1 a ha
      have h2 := corr_four n _ x2 b hb
      generalize (2 : Int) ^ n = Q at *
      omega
    · rw [corr_symm n (xs.drop _) (xs.take _)] at hz
      obtain ⟨a, ha, rfl⟩ := zw_same hz
      have h1 := corr_par n _ _ (fun x h => by rcases x1 x h with rfl | rfl <;> rfl) (fun x h => by rcases x2 x h with rfl | rfl <;> rfl) a ha
      generalize (2 : Int) ^ n = Q at *
      omega
section
variable {xs : List Int}
theorem echo_wave (h : IsF xs) {m : Nat} (hm : m < xs.length) : rowAt (sg m) (echoL xs) = (waveL xs).getD m 0 * (waveL xs).getD m 0 := by
  obtain ⟨p1, p2⟩ := lg_pow h.1
  have hl : (signL xs).length = 2 ^ lg xs.length := by rw [signL, List.length_map]; exact p1
  rw [echo_corr h, row_wave _ _ p2 (corrL_len _ _ _ hl hl) m (by omega), corr_spread _ _ _ hl hl]
  rw [getD_zw _ _ _ _ (by rw [spreadL_len _ _ hl]; omega) rfl]
  rfl
theorem map_sq : ∀ A : List Int, A.map (fun w => w * w) = List.zipWith (· * ·) A A
  | [] => rfl
  | a :: A => by
    simp only [List.map_cons, List.zipWith_cons_cons]
    rw [← map_sq A]
theorem wave_echo (h : IsF xs) {s : Nat} (hs : s < xs.length) : rowAt (fun m => sg m s) ((waveL xs).map fun w => w * w) = (xs.length : Int) * (echoL xs).getD s 0 := by
  obtain ⟨p1, p2⟩ := lg_pow h.1
  have hl : (signL xs).length = 2 ^ lg xs.length := by rw [signL, List.length_map]; exact p1
  have hn := len_ok h.1
  have hw := waveL_len h.1
  rw [rowAt_congr _ _ (sg s) (fun i hi => sg_symm i (by rw [List.length_map] at hi; omega) s (by omega)), map_sq]
  have e : List.zipWith (· * ·) (waveL xs) (waveL xs) = spreadL (lg xs.length) (echoL xs) := by rw [echo_corr h, corr_spread _ _ _ hl hl]; rfl
  have hE : (echoL xs).length = 2 ^ lg xs.length := by rw [echo_corr h]; exact corrL_len _ _ _ hl hl
  rw [e, row_wave _ _ p2 (spreadL_len _ _ hE) s (by omega), spread_twice _ _ hE]
  have : ((2 : Int) ^ lg xs.length) = (xs.length : Int) := by
    conv => rhs; rw [p1]
    simp
  rw [this]
  have hsE : s < (echoL xs).length := by omega
  simp [List.getD, hsE]
theorem rowAt_one : ∀ A : List Int, rowAt (fun _ => 1) A = A.sum
  | [] => rfl
  | a :: A => by simp [rowAt, rowAt_one A]
theorem sg_zero : ∀ i < 16, sg 0 i = 1 := by decide +kernel
theorem echoL_len : (echoL xs).length = xs.length := by simp [echoL]
theorem echo_sum (h : IsF xs) : (echoL xs).sum = (waveL xs).getD 0 0 * (waveL xs).getD 0 0 := by
  have hn := len_ok h.1
  rw [← rowAt_one, ← echo_wave h (m := 0) (by rcases h.1 with e | e | e | e <;> omega)]
  exact rowAt_congr _ _ _ fun i hi => (sg_zero i (by rw [echoL_len] at hi; omega)).symm
theorem apart_le (ys : List Int) : apartL xs ys ≤ xs.length := by
  unfold apartL
  exact Nat.le_trans (List.length_filter_le _ _) (by rw [List.length_zip]; omega)
theorem echo_ge : ∀ y ∈ echoL xs, -(xs.length : Int) ≤ y := by
  intro y hy
  obtain ⟨s, _, rfl⟩ := List.mem_map.mp hy
  have := apart_le (xs := xs) (movedL xs s)
  omega
theorem moved_zero : movedL xs 0 = xs := by
  unfold movedL
  apply List.ext_getElem (by simp)
  intro i h1 h2
  simp [List.getD, h2]
theorem apart_self : ∀ A : List Int, apartL A A = 0
  | [] => rfl
  | a :: A => by
    have := apart_self A
    unfold apartL at this ⊢
    simpa using this
theorem echo_zero (h : IsF xs) : (echoL xs).getD 0 0 = xs.length := by
  have h0 : 0 < xs.length := by rcases h.1 with e | e | e | e <;> omega
  simp [echoL, List.getD, h0, moved_zero, apart_self]
theorem echo_four (h : IsF xs) (h2 : 2 < xs.length) : ∀ y ∈ echoL xs, y % 4 = 0 := by
  intro y hy
  rw [echo_corr h] at hy
  rw [corr_four _ _ (fun x hx => by
    obtain ⟨z, hz, rfl⟩ := List.mem_map.mp hx
    have := h.2 z hz
    omega) y hy]
  rcases h.1 with e | e | e | e
  · omega
  all_goals rw [e]; rfl
/-- the law's own likenesses -/
theorem cross_tab : ∀ a < 16, ∀ b < 16, crossI (a : Nat) (b : Nat) = ((a ^^^ b : Nat) : Int) := by decide +kernel
theorem like_alike : ∀ (A B : List Int), A.length = B.length → likeL A B = (A.length : Int) - 2 * (apartL A B : Nat)
  | [], [], _ => rfl
  | [], b :: B, h => by simp at h
  | a :: A, [], h => by simp at h
  | a :: A, b :: B, h => by
    have := like_alike A B (by simpa using h)
    unfold likeL apartL at this ⊢
    simp only [List.zip_cons_cons, List.map_cons, List.sum_cons, List.filter_cons, List.length_cons]
    generalize ((A.zip B).map fun p => if (p.1 == p.2) = true then (1 : Int) else -1).sum = S at this ⊢
    generalize ((A.zip B).filter fun p => !(p.1 == p.2)) = L at this ⊢
    cases hq : (a == b)
    · simp only [Bool.not_false, if_true, List.length_cons, Bool.false_eq_true, if_false]
      omega
    · simp only [Bool.not_true, if_true, Bool.false_eq_true, if_false]
      omega
theorem due_echo (h : IsF xs) {s : Nat} (hs : s < xs.length) : likeL xs ((List.range xs.length).map fun p => xs.getD (p ^^^ s) 0) = (echoL xs).getD s 0 := by
  rw [like_alike _ _ (by simp)]
  have : (echoL xs).getD s 0 = (xs.length : Int) - 2 * (apartL xs (movedL xs s) : Nat) := by simp [echoL, List.getD, hs]
  rw [this]
  rfl
end
end Sw
end

section
/-! SwW: rules of evaluation, one for each form. -/
namespace Sw
open PySem (Str)
section
variable {C : Orc} {ρ : Env} {st st1 st2 st3 : Store} {a b c g o e : Ex} {as : Exs} {x y z v r : Val} {t u : Bool}
theorem w_var {i : Nat} (h : ρ[i]? = some (some v)) : ev C (.var i) ρ st = .ok v st := ev_var h
theorem w_bin {p : Bop} (ha : ev C a ρ st = .ok x st1) (hb : ev C b ρ st1 = .ok y st2) (h : binop p (deref st2 x) (deref st2 y) = some r) : ev C (.bin p a b) ρ st = .ok r st2 := by
  simp only [ev_bin, ha, hb, Res.bind_ok, h, lift_some]
theorem w_cmp {p : Cop} (ha : ev C a ρ st = .ok x st1) (hb : ev C b ρ st1 = .ok y st2) (h : cmpop p (deref st2 x) (deref st2 y) = some t) : ev C (.cmp p a b) ρ st = .ok (.bl t) st2 := by
  simp only [ev_cmp, ha, hb, Res.bind_ok, h, lift_some, Option.map_some]
theorem w_chain {p q : Cop} (ha : ev C a ρ st = .ok x st1) (hb : ev C b ρ st1 = .ok y st2) (h1 : cmpop p (deref st2 x) (deref st2 y) = some t) (hc : t = true → ev C c ρ st2 = .ok z st2) (h2 : t = true → cmpop q (deref st2 y) (deref st2 z) = some u) : ev C (.chain p q a b c) ρ st = .ok (.bl (t && u)) st2 := by
  cases t with
  | false => simp only [ev_chain, ha, hb, Res.bind_ok, h1, lift_some, Option.map_some, pick_f, Bool.false_and]
  | true => simp only [ev_chain, ha, hb, Res.bind_ok, h1, lift_some, Option.map_some, pick_t, hc rfl, h2 rfl, Bool.true_and]
theorem w_neg {i : Int} (ha : ev C a ρ st = .ok (.int i) st1) : ev C (.neg a) ρ st = .ok (.int (-i)) st1 := by
  simp only [ev_neg, ha, Res.bind_ok, intV_int, Option.map_some, lift_some]
theorem w_not (ha : ev C a ρ st = .ok (.bl t) st1) : ev C (.not a) ρ st = .ok (.bl (!t)) st1 := by
  simp only [ev_not, ha, Res.bind_ok, boolV_bl, Option.map_some, lift_some]
theorem w_and (ha : ev C a ρ st = .ok (.bl t) st1) (hb : t = true → ev C b ρ st1 = .ok (.bl u) st1) : ev C (.and a b) ρ st = .ok (.bl (t && u)) st1 := by
  cases t with
  | false => simp only [ev_and, ha, Res.bind_ok, pick_f, Bool.false_and]
  | true => simp only [ev_and, ha, Res.bind_ok, pick_t, hb rfl, Bool.true_and]
theorem w_or (ha : ev C a ρ st = .ok (.bl t) st1) (hb : t = false → ev C b ρ st1 = .ok (.bl u) st1) : ev C (.or a b) ρ st = .ok (.bl (t || u)) st1 := by
  cases t with
  | true => simp only [ev_or, ha, Res.bind_ok, pick_t, Bool.true_or]
  | false => simp only [ev_or, ha, Res.bind_ok, pick_f, hb rfl, Bool.false_or]
theorem w_ife (hc : ev C c ρ st = .ok (.bl t) st1) (ha : t = true → ev C a ρ st1 = .ok x st1) (hb : t = false → ev C b ρ st1 = .ok y st1) (hv : (if t = true then x else y) = v) : ev C (.ife c a b) ρ st = .ok v st1 := by
  subst hv
  cases t with
  | true => simp only [ev_ife, hc, Res.bind_ok, pick_t, ha rfl, if_true]
  | false => simp only [ev_ife, hc, Res.bind_ok, pick_f, hb rfl]; rfl
theorem w_ifT (hc : ev C c ρ st = .ok (.bl true) st1) (ha : ev C a ρ st1 = .ok x st2) : ev C (.ife c a b) ρ st = .ok x st2 := by
  simp only [ev_ife, hc, Res.bind_ok, pick_t, ha]
theorem w_ifF (hc : ev C c ρ st = .ok (.bl false) st1) (hb : ev C b ρ st1 = .ok x st2) : ev C (.ife c a b) ρ st = .ok x st2 := by
  simp only [ev_ife, hc, Res.bind_ok, pick_f, hb]
theorem w_call {f : Fn} {vs : List Val} (h : evs C as ρ st = .ok vs st1) (hc : C f vs st1 = .ok v st2) : ev C (.call f as) ρ st = .ok v st2 := by
  simp only [ev_call, h, Res.bind_ok, hc]
theorem w_callE {f : Fn} {vs : List Val} {n : Nat} (h : evs C as ρ st = .ok vs st1) (hc : C f vs st1 = .exc n st2) : ev C (.call f as) ρ st = .exc n st2 := by
  simp only [ev_call, h, Res.bind_ok, hc]
theorem w_nil : evs C .nil ρ st = .ok [] st := evs_nil
theorem w_cons {vs : List Val} (h : ev C a ρ st = .ok v st1) (h2 : evs C as ρ st1 = .ok vs st2) : evs C (.cons a as) ρ st = .ok (v :: vs) st2 := by
  simp only [evs_cons, h, h2, Res.bind_ok]
theorem w_b1 {f : B1} (h : ev C a ρ st = .ok x st1) (h2 : op1 f (deref st1 x) = some r) : ev C (.b1 f a) ρ st = .ok r st1 := by
  simp only [ev_b1, h, Res.bind_ok, h2, lift_some]
theorem w_b2 {f : B2} (h : ev C a ρ st = .ok x st1) (h1 : ev C b ρ st1 = .ok y st2) (h2 : op2 f x y = some r) : ev C (.b2 f a b) ρ st = .ok r st2 := by
  simp only [ev_b2, h, h1, Res.bind_ok, h2, lift_some]
theorem w_m1 {f : M1} (h : ev C a ρ st = .ok x st1) (hr : recvOk f (deref st1 x) = true) (h1 : ev C b ρ st1 = .ok y st2) (h2 : opM f (deref st2 x) y = some r) : ev C (.m1 f a b) ρ st = .ok r st2 := by
  simp only [ev, h, hr, if_true, h1, Res.bind_ok, h2, lift_some]
theorem w_isi {ty : Ty} (h : ev C a ρ st = .ok x st1) (h2 : isTy st1 x ty = some t) : ev C (.isi a ty) ρ st = .ok (.bl t) st1 := by
  simp only [ev_isi, h, Res.bind_ok, h2, Option.map_some, lift_some]
theorem w_idx (ha : ev C a ρ st = .ok x st1) (hi : ev C b ρ st1 = .ok y st2) (h : opIx (deref st2 x) y = some r) : ev C (.idx a b) ρ st = .ok r st2 := by
  simp only [ev_idx, ha, hi, Res.bind_ok, h, lift_some]
theorem w_tup {vs : List Val} (h : evs C as ρ st = .ok vs st1) (hp : (vs.all Val.pure && decide (vs.length ≤ lim)) = true) (hv : Val.tup vs = v) : ev C (.tup as) ρ st = .ok v st1 := by
  subst hv
  simp only [ev_tup, h, Res.bind_ok]
  rw [if_pos hp]
theorem w_lst {vs : List Val} (h : evs C as ρ st = .ok vs st1) (hp : (vs.all Val.pure && decide (vs.length ≤ lim)) = true) (hv : Val.lst vs = v) : ev C (.lst as) ρ st = .ok v st1 := by
  subst hv
  simp only [ev_lst, h, Res.bind_ok]
  rw [if_pos hp]
theorem w_on : evo C .none ρ st = .ok none st := evo_none
theorem w_os {i : Int} (h : ev C a ρ st = .ok (.int i) st1) : evo C (.some a) ρ st = .ok (some i) st1 := by
  simp only [evo_some, h, Res.bind_ok, intV_int, Option.map_some, lift_some]
theorem w_sl {lo hi : OEx} {l h : Option Int} (ha : ev C a ρ st = .ok x st1) (hl : evo C lo ρ st1 = .ok l st2) (hh : evo C hi ρ st2 = .ok h st3) (hr : opSl l h (deref st3 x) = some r) : ev C (.sl a lo hi) ρ st = .ok r st3 := by
  simp only [ev_sl, ha, hl, hh, Res.bind_ok, hr, lift_some]
theorem w_rev {xs : List Val} (ha : ev C a ρ st = .ok x st1) (hx : deref st1 x = .lst xs) : ev C (.rev a) ρ st = .ok (.lst xs.reverse) st1 := by
  simp only [ev, ha, Res.bind_ok, hx]
/-! what is walked -/
section
variable {α : Type} {l : List α} {en : α → List Val}
theorem w_range {n : Nat} {j : Int} (ha : ev C a ρ st = .ok (.int j) st1) (hj : j = (n : Nat)) (hn : n ≤ 1000) : evi C (.range a) ρ st = .ok ((List.range n).map (fun i => [.int (i : Nat)]), none) st1 := by
  subst hj
  rw [evi_range, ha, Res.bind_ok, range_ok hn]
  rfl
theorem w_over (ha : ev C a ρ st = .ok x st1) (hx : overV st1 x = some (l.map en, none)) : evi C (.over a) ρ st = .ok (l.map en, none) st1 := by
  rw [evi_over, ha, Res.bind_ok, hx, lift_some]
theorem w_zip (ha : ev C a ρ st = .ok x st1) (hb : ev C b ρ st1 = .ok y st2) (hx : zipOf x y = some (l.map en, none)) : evi C (.zip a b) ρ st = .ok (l.map en, none) st2 := by
  rw [evi_zip, ha, Res.bind_ok, hb, Res.bind_ok, zipB_of hx, lift_some]
theorem w_enum (ha : ev C a ρ st = .ok x st1) (hx : enumOf st1 x = some (l.map en, none)) : evi C (.enum a) ρ st = .ok (l.map en, none) st1 := by
  rw [evi_enum, ha, Res.bind_ok, hx, lift_some]
theorem w_lc {it : It} {tg : List Nat} {gg : α → Val} (hi : evi C it ρ st = .ok (l.map en, none) st1) (hl : l.length ≤ 1000) (hg : ∀ a ∈ l, ∀ s, ev C e (setAll (wipeAll ρ tg) tg (en a)) s = .ok (gg a) s) (hp : ∀ a ∈ l, (gg a).pure = true) (hv : Val.lst (l.map gg) = v) :
    ev C (.lc e tg it .none) ρ st = .ok v st1 := by
  subst hv
  rw [ev_lc hi (by simpa using lim_big hl)]
  simp only
  rw [comp_A (g := fun a => some (gg a)) l [] (fun a ha s => by unfold lcStep; simp only [evc, Res.bind_ok, if_true, hg a ha s]) (fun a ha v e => by cases e; exact hp a ha) (by simpa using lim_big hl)]
  simp [fm_some]
theorem w_lcf {it : It} {tg : List Nat} {gg : α → Val} {p : α → Bool} (hi : evi C it ρ st = .ok (l.map en, none) st1) (hl : l.length ≤ 1000) (hc : ∀ a ∈ l, ∀ s, ev C c (setAll (wipeAll ρ tg) tg (en a)) s = .ok (.bl (p a)) s) (hg : ∀ a ∈ l, p a = true → ∀ s, ev C e (setAll (wipeAll ρ tg) tg (en a)) s = .ok (gg a) s) (hp : ∀ a ∈ l, (gg a).pure = true) (hv : Val.lst ((l.filter p).map gg) = v) :
    ev C (.lc e tg it (.some c)) ρ st = .ok v st1 := by
  subst hv
  rw [ev_lc hi (by simpa using lim_big hl)]
  simp only
  rw [comp_A (g := fun a => if p a then some (gg a) else none) l [] (fun a ha s => by
    unfold lcStep
    simp only [evc, hc a ha s, Res.bind_ok, boolV_bl, lift_some]
    cases hq : p a with
    | true => simp only [if_true, hg a ha hq s, Res.bind_ok]
    | false => simp) (fun a ha v e => by
    split at e
    · cases e; exact hp a ha
    · cases e) (by simpa using lim_big hl)]
  simp [fm_if]
end
/-! ### tests -/
/-- the test fails, holds -/
structure TF (C : Orc) (e : Ex) (ρ : Env) (st : Store) : Prop where
  h : ev C e ρ st = .ok (.bl false) st
structure TT (C : Orc) (e : Ex) (ρ : Env) (st : Store) : Prop where
  h : ev C e ρ st = .ok (.bl true) st
theorem tf_or (ha : TF C a ρ st) (hb : TF C b ρ st) : TF C (.or a b) ρ st := ⟨by simp only [ev_or, ha.h, Res.bind_ok, pick_f, hb.h]⟩
theorem tf_and (ha : TF C a ρ st) : TF C (.and a b) ρ st := ⟨by simp only [ev_and, ha.h, Res.bind_ok, pick_f]⟩
theorem tf_not (ha : TT C a ρ st) : TF C (.not a) ρ st := ⟨by simp only [ev_not, ha.h, Res.bind_ok]; rfl⟩
theorem tt_not (ha : TF C a ρ st) : TT C (.not a) ρ st := ⟨by simp only [ev_not, ha.h, Res.bind_ok]; rfl⟩
theorem tt_and (ha : TT C a ρ st) (hb : TT C b ρ st) : TT C (.and a b) ρ st := ⟨by simp only [ev_and, ha.h, Res.bind_ok, pick_t, hb.h]⟩
theorem tt_or (ha : TT C a ρ st) : TT C (.or a b) ρ st := ⟨by simp only [ev_or, ha.h, Res.bind_ok, pick_t]⟩
theorem tf_of (h : ev C e ρ st = .ok (.bl t) st) (ht : t = false) : TF C e ρ st := ⟨by rw [h, ht]⟩
theorem tt_of (h : ev C e ρ st = .ok (.bl t) st) (ht : t = true) : TT C e ρ st := ⟨by rw [h, ht]⟩
/-- data that can be compared: equal to itself -/
def okEq (v : Val) : Bool := dat 8 (unS v) && dat 8 v && veq (unS v) v
theorem tf_ne (ha : ev C a ρ st = .ok x st) (hb : ev C b ρ st = .ok y st) (hd : okEq (deref st y) = true) (hv : deref st x = deref st y) : TF C (.cmp .ne a b) ρ st := by
  refine ⟨w_cmp ha hb ?_⟩
  simp only [okEq, Bool.and_eq_true] at hd
  rw [hv]
  have e : ∀ w : Val, cmpop .ne w w = if (dat 8 (unS w) && dat 8 w) = true then some (!veq (unS w) w) else none := fun w => by cases w <;> rfl
  rw [e, if_pos (by simp [hd.1.1, hd.1.2]), hd.2]
  rfl
theorem tt_eq (ha : ev C a ρ st = .ok x st) (hb : ev C b ρ st = .ok y st) (hd : okEq (deref st y) = true) (hv : deref st x = deref st y) : TT C (.cmp .eq a b) ρ st := by
  refine ⟨w_cmp ha hb ?_⟩
  simp only [okEq, Bool.and_eq_true] at hd
  rw [hv]
  have e : ∀ w : Val, cmpop .eq w w = if (dat 8 (unS w) && dat 8 w) = true then some (veq (unS w) w) else none := fun w => by cases w <;> rfl
  rw [e, if_pos (by simp [hd.1.1, hd.1.2]), hd.2]
/-! ### statements -/
variable {ss : Sts} {R : SRes} {i : Nat}
theorem q_set (h : ev C e ρ st = .ok v st1) (k : execs C ss (ρ.set i (some v)) st1 = R) : execs C (.cons (.set i e) ss) ρ st = R := by
  rw [ex_cons, ex_set, h]; exact k
theorem q_box {xs : List Val} (h : ev C e ρ st = .ok (.lst xs) st1) (k : execs C ss (ρ.set i (some (.box st1.length))) (st1 ++ [.list xs]) = R) : execs C (.cons (.boxset i e) ss) ρ st = R := by
  rw [ex_cons, ex_boxset h]; exact k
theorem q_par {is : List Nat} {vs : List Val} (h : evs C as ρ st = .ok vs st1) (hl : is.length = vs.length) (k : execs C ss (setAll ρ is vs) st1 = R) : execs C (.cons (.par is as) ss) ρ st = R := by
  rw [ex_cons, ex_par, h, Res.sbind_ok, if_pos hl]; exact k
theorem q_aug {p : Bop} {i' j n : Int} (hx : ρ[i]? = some (some (.int i'))) (h : ev C e ρ st = .ok (.int j) st1) (ho : augV p i' j = some n) (k : execs C ss (ρ.set i (some (.int n))) st1 = R) : execs C (.cons (.aug i p e) ss) ρ st = R := by
  rw [ex_cons]; simp only [exec, hx, h, Res.sbind_ok, ho]; exact k
theorem q_expr (h : ev C e ρ st = .ok v st1) (k : execs C ss ρ st1 = R) : execs C (.cons (.expr e) ss) ρ st = R := by
  rw [ex_cons, ex_expr, h]; exact k
theorem q_exprE {n : Nat} (h : ev C e ρ st = .exc n st1) : execs C (.cons (.expr e) ss) ρ st = .exc n st1 := by
  rw [ex_cons, ex_expr, h]; rfl
theorem q_ret (h : ev C e ρ st = .ok v st1) : execs C (.cons (.ret e) ss) ρ st = .ret v st1 := by
  rw [ex_cons, ex_ret, h]; rfl
theorem q_retE {n : Nat} (h : ev C e ρ st = .exc n st1) : execs C (.cons (.ret e) ss) ρ st = .exc n st1 := by
  rw [ex_cons, ex_ret, h]; rfl
theorem q_retT (h : TT C e ρ st) : execs C (.cons (.ret e) ss) ρ st = .ret (.bl true) st := q_ret h.h
theorem q_raise {n : Nat} : execs C (.cons (.raise n) ss) ρ st = .exc n st := by rw [ex_cons, ex_raise]; rfl
theorem q_skip {sx : Sts} (h : TF C c ρ st) (k : execs C ss ρ st = R) : execs C (.cons (.ife c sx .nil) ss) ρ st = R := by
  rw [ex_cons, ex_ife, h.h, Res.sbind_ok, pick_f, ex_nil]; exact k
/-- one way of a choice -/
theorem q_ifF {sx sy : Sts} {R1 : SRes} (h : ev C c ρ st = .ok (.bl false) st1) (k1 : execs C sy ρ st1 = R1) (k : (R1.bind fun ρ' s => execs C ss ρ' s) = R) : execs C (.cons (.ife c sx sy) ss) ρ st = R := by
  rw [ex_cons, ex_ife, h, Res.sbind_ok, pick_f, k1]; exact k
theorem q_ifT {sx sy : Sts} {R1 : SRes} (h : ev C c ρ st = .ok (.bl true) st1) (k1 : execs C sx ρ st1 = R1) (k : (R1.bind fun ρ' s => execs C ss ρ' s) = R) : execs C (.cons (.ife c sx sy) ss) ρ st = R := by
  rw [ex_cons, ex_ife, h, Res.sbind_ok, pick_t, k1]; exact k
theorem q_app {n : Nat} {xs : List Val} (h1 : ev C o ρ st = .ok (.box n) st) (h0 : st[n]? = some (.list xs)) (h2 : ev C e ρ st = .ok v st) (h6 : v.pure = true) (h7 : xs.length < lim) (k : execs C ss ρ (st.set n (.list (xs ++ [v]))) = R) : execs C (.cons (.app o e) ss) ρ st = R := by
  rw [ex_cons, ex_app (st1 := st) h1 h0 h2 h6 h7]; exact k
theorem q_ext {n : Nat} {xs ys : List Val} (h1 : ev C o ρ st = .ok (.box n) st) (h0 : st[n]? = some (.list xs)) (h2 : ev C e ρ st = .ok (.lst ys) st) (h7 : xs.length + ys.length ≤ lim) (k : execs C ss ρ (st.set n (.list (xs ++ ys))) = R) : execs C (.cons (.ext o e) ss) ρ st = R := by
  rw [ex_cons]
  have : deref st (.box n) = .lst xs := by simp only [deref, h0]
  simp only [exec, h1, Res.sbind_ok, this, h2, h0, if_pos h7]
  exact k
theorem q_for {tg : List Nat} {it : It} {body : Sts} {is : Items} {ρ' : Env} {st' : Store} (hi : evi C it ρ st = .ok is st1) (hf : forB C body tg is.2 is.1 ρ st1 = .next ρ' st') (k : execs C ss ρ' st' = R) : execs C (.cons (.for_ tg it body) ss) ρ st = R := by
  rw [ex_cons, ex_for, hi, Res.sbind_ok, hf]; exact k
theorem q_nil : execs C .nil ρ st = .next ρ st := ex_nil
/-- a loop that only looks: the slots that it writes are told by t -/
theorem for_chk {α τ : Type} {en : α → List Val} {body : Sts} {tg : List Nat} (mk : τ → Env) : ∀ (l : List α), (∀ a ∈ l, ∀ t, ∃ t', execs C body (setAll (mk t) tg (en a)) st = .next (mk t') st) → ∀ t, ∃ t', forB C body tg none (l.map en) (mk t) st = .next (mk t') st
  | [], _, t => ⟨t, forB_nil rfl⟩
  | a :: l, h, t => by
    obtain ⟨t1, h1⟩ := h a (by simp) t
    obtain ⟨t2, h2⟩ := for_chk mk l (fun b hb => h b (by simp [hb])) t1
    refine ⟨t2, ?_⟩
    rw [List.map_cons, forB_cons rfl, h1, SRes.bind_next, h2]
/-- a loop by what it has made so far -/
theorem for_inv {α : Type} {en : α → List Val} {body : Sts} {tg : List Nat} (I : List α → Env → Store → Prop) : ∀ (l done : List α) (ρ : Env) (st : Store), (∀ d a r ρ st, done ++ l = d ++ a :: r → I d ρ st → ∃ ρ' st', execs C body (setAll ρ tg (en a)) st = .next ρ' st' ∧ I (d ++ [a]) ρ' st') → I done ρ st → ∃ ρ' st', forB C body tg none (l.map en) ρ st = .next ρ' st' ∧ I (done ++ l) ρ' st'
  | [], done, ρ, st, _, h0 => ⟨ρ, st, forB_nil rfl, by simpa using h0⟩
  | a :: l, done, ρ, st, h, h0 => by
    obtain ⟨ρ1, st1, h1, i1⟩ := h done a l ρ st rfl h0
    obtain ⟨ρ2, st2, h2, i2⟩ := for_inv I l (done ++ [a]) ρ1 st1 (fun d b r ρ st e hi => h d b r ρ st (by simpa using e) hi) i1
    refine ⟨ρ2, st2, ?_, by simpa using i2⟩
    rw [List.map_cons, forB_cons rfl, h1, SRes.bind_next, h2]
/-! ### calls -/
section
variable {T : Fn → Option FDef} {k : Nat} {f : Fn} {d : FDef} {vs : List Val}
theorem call_ret (h : T f = some d) (hn : vs.length = d.np) (hk : d.keep = false) (hb : execs (callN T k) d.body (vs.map some ++ List.replicate (d.ns - d.np) none) st = .ret v st) (hv : fin false st.length v st = .ok v st := by first | exact fin_int | exact fin_bl | exact fin_tup | exact fin_lst | exact fin_non) : callN T (k + 1) f vs st = .ok v st := by
  rw [callN_succ h, callD_eq hn, hb, endC_ret, hk, hv]
/-- the same, told otherwise -/
theorem call_as {v' : Val} (h : T f = some d) (hn : vs.length = d.np) (hk : d.keep = false) (hb : execs (callN T k) d.body (vs.map some ++ List.replicate (d.ns - d.np) none) st = .ret v st) (e : v = v') (hv : fin false st.length v' st = .ok v' st := by first | exact fin_int | exact fin_bl | exact fin_tup | exact fin_lst | exact fin_non) : callN T (k + 1) f vs st = .ok v' st := by
  subst e
  exact call_ret h hn hk hb hv
theorem call_next {ρ' : Env} (h : T f = some d) (hn : vs.length = d.np) (hk : d.keep = false) (hb : execs (callN T k) d.body (vs.map some ++ List.replicate (d.ns - d.np) none) st = .next ρ' st) : callN T (k + 1) f vs st = .ok .non st := by
  rw [callN_succ h, callD_eq hn, hb, endC_next, hk, fin_non]
theorem call_exc {n : Nat} (h : T f = some d) (hn : vs.length = d.np) (hb : execs (callN T k) d.body (vs.map some ++ List.replicate (d.ns - d.np) none) st = .exc n st1) (hs : st1.take st.length = st) : callN T (k + 1) f vs st = .exc n st := by
  rw [callN_succ h, callD_eq hn, hb, endC_exc, hs]
/-- the law's run ends with True -/
def Done (r : SRes) : Prop := ∃ s, r = .ret (.bl true) s
theorem dn {r r' : SRes} (h : r = r') (k : Done r') : Done r := by rw [h]; exact k
theorem dn_end {r : SRes} {s : Store} (h : r = .ret (.bl true) s) : Done r := ⟨s, h⟩
theorem law_end (h : T f = some d) (hn : vs.length = d.np) (hk : d.keep = false) (hb : Done (execs (callN T k) d.body (vs.map some ++ List.replicate (d.ns - d.np) none) [])) : callN T (k + 1) f vs [] = .ok (.bl true) [] := by
  obtain ⟨s, hb⟩ := hb
  rw [callN_succ h, callD_eq hn, hb, endC_ret, hk]
  simp [fin]
end
end
end Sw
end

section
/-! SwW2: operations on lists of integers, as the rules want them. -/
namespace Sw
open PySem (Str)
/-- tuples of integers -/
def tv (xs : List (List Int)) : List Val := xs.map fun t => .tup (iv t)
section
variable {st : Store} {α β : Type} {l : List α} {xs ys : List Int} {i j : Int} {m n : Nat}
/-! forms of values -/
theorem cv_id {xs : List Int} : Val.lst (xs.map fun a => Val.int a) = .lst (iv xs) := rfl
theorem cv_int {f : α → Int} : Val.lst (l.map fun a => Val.int (f a)) = .lst (iv (l.map f)) := by simp [iv, Function.comp_def]
theorem cv_bl {f : α → Bool} : Val.lst (l.map fun a => Val.bl (f a)) = .lst (blv (l.map f)) := by simp [blv, Function.comp_def]
theorem cv_tid {xs : List (List Int)} : Val.lst (xs.map fun a => Val.tup (iv a)) = .lst (tv xs) := rfl
theorem cv_tup {f : α → List Int} : Val.lst (l.map fun a => Val.tup (iv (f a))) = .lst (tv (l.map f)) := by simp [tv, Function.comp_def]
theorem cv_l0 : Val.lst [] = .lst (iv []) := rfl
theorem cv_l1 {a : Int} : Val.lst [.int a] = .lst (iv [a]) := rfl
theorem cv_l2 {a b : Int} : Val.lst [.int a, .int b] = .lst (iv [a, b]) := rfl
theorem cv_l3 {a b c : Int} : Val.lst [.int a, .int b, .int c] = .lst (iv [a, b, c]) := rfl
theorem cv_l4 {a b c d : Int} : Val.lst [.int a, .int b, .int c, .int d] = .lst (iv [a, b, c, d]) := rfl
theorem cv_l5 {a b c d e : Int} : Val.lst [.int a, .int b, .int c, .int d, .int e] = .lst (iv [a, b, c, d, e]) := rfl
theorem cv_lt1 {a : List Int} : Val.lst [.tup (iv a)] = .lst (tv [a]) := rfl
theorem cv_lt2 {a b : List Int} : Val.lst [.tup (iv a), .tup (iv b)] = .lst (tv [a, b]) := rfl
theorem cv_t0 : Val.tup [] = .tup (iv []) := rfl
theorem cv_t1 {a : Int} : Val.tup [.int a] = .tup (iv [a]) := rfl
theorem cv_t2 {a b : Int} : Val.tup [.int a, .int b] = .tup (iv [a, b]) := rfl
theorem cv_t3 {a b c : Int} : Val.tup [.int a, .int b, .int c] = .tup (iv [a, b, c]) := rfl
theorem cv_t4 {a b c d : Int} : Val.tup [.int a, .int b, .int c, .int d] = .tup (iv [a, b, c, d]) := rfl
theorem cv_t8 {a b c d e f g h : Int} : Val.tup [.int a, .int b, .int c, .int d, .int e, .int f, .int g, .int h] = .tup (iv [a, b, c, d, e, f, g, h]) := rfl
theorem cv_iteI {p : Prop} [Decidable p] {a b : Int} : (if p then Val.int a else Val.int b) = .int (if p then a else b) := by split <;> rfl
theorem cv_iteT {p : Prop} [Decidable p] {a b : List Int} : (if p then Val.tup (iv a) else Val.tup (iv b)) = .tup (iv (if p then a else b)) := by split <;> rfl
theorem cv_iteL {p : Prop} [Decidable p] {a b : List Int} : (if p then Val.lst (iv a) else Val.lst (iv b)) = .lst (iv (if p then a else b)) := by split <;> rfl
theorem cv_iteB {p : Prop} [Decidable p] {a b : Bool} : (if p then Val.bl a else Val.bl b) = .bl (if p then a else b) := by split <;> rfl
/-! arithmetic -/
def Small (i : Int) : Prop := -18446744073709551616 < i ∧ i < 18446744073709551616
theorem o_mulL (h : Small i) : binop .mul (.int i) (.int j) = some (.int (i * j)) := mul_int (.inl h)
theorem o_mulR (h : Small j) : binop .mul (.int i) (.int j) = some (.int (i * j)) := mul_int (.inr h)
theorem o_mod (h : 0 < j) : binop .mod (.int i) (.int j) = some (.int (i % j)) := mod_int h
theorem o_modN {a b : Nat} (h : 0 < b) : binop .mod (.int (a : Nat)) (.int (b : Nat)) = some (.int ((a % b : Nat) : Int)) := by
  rw [mod_int (by omega)]; rfl
theorem o_divN {a b : Nat} (h : 0 < b ∧ b < 1073741824) : binop .fdiv (.int (a : Nat)) (.int (b : Nat)) = some (.int ((a / b : Nat) : Int)) := by
  rw [fdiv_int (by omega)]; rfl
theorem o_div (h : 0 < j ∧ j < 1073741824) : binop .fdiv (.int i) (.int j) = some (.int (i / j)) := fdiv_int h
theorem o_addL (h : xs.length + ys.length ≤ 1000) : binop .add (.lst (iv xs)) (.lst (iv ys)) = some (.lst (iv (xs ++ ys))) := add_lst (lim_big h)
theorem o_addLT {a b : List (List Int)} (h : a.length + b.length ≤ 1000) : binop .add (.lst (tv a)) (.lst (tv b)) = some (.lst (tv (a ++ b))) := by
  have : (tv a).length + (tv b).length ≤ lim := by simpa [tv] using lim_big h
  simp only [binop, this, if_true]
  simp [tv]
theorem o_addT (h : xs.length + ys.length ≤ 1000) : binop .add (.tup (iv xs)) (.tup (iv ys)) = some (.tup (iv (xs ++ ys))) := by
  have : (iv xs).length + (iv ys).length ≤ lim := by simpa using lim_big h
  simp only [binop, this, if_true]
  simp [iv]
theorem rep_iv (xs : List Int) (n : Nat) : rep n (iv xs) = iv (rep n xs) := by
  induction n with
  | zero => rfl
  | succ n ih =>
    simp only [rep, List.replicate_succ, List.flatten_cons, iv, List.map_append] at ih ⊢
    rw [ih]
theorem rep_len (n : Nat) (xs : List Int) : (rep n xs).length = n * xs.length := by
  induction n with
  | zero => simp [rep]
  | succ n ih =>
    simp only [rep, List.replicate_succ, List.flatten_cons, List.length_append] at ih ⊢
    rw [ih]
    grind
theorem o_mulT {n : Nat} (h1 : 1 ≤ n ∧ n ≤ 64) (h2 : xs.length ≤ 64 ∧ 0 < xs.length) : binop .mul (.tup (iv xs)) (.int (n : Nat)) = some (.tup (iv (rep n xs))) := by
  have e : (1 ≤ (n : Int) && (n : Int) ≤ 64 && (iv xs).length ≤ 64 && !(iv xs).isEmpty) = true := by
    have : (iv xs).isEmpty = false := by
      cases xs with
      | nil => simp at h2
      | cons => rfl
    simp only [this, iv_len, Bool.and_eq_true, decide_eq_true_eq, Bool.not_false, and_true]
    omega
  simp only [binop]
  rw [if_pos e, rep_iv]
  simp
/-! looks -/
theorem o_in : cmpop .isin (.int i) (.lst (iv xs)) = some (xs.any (· == i)) := in_iv i xs
theorem o_notin : cmpop .notin (.int i) (.lst (iv xs)) = some (!xs.any (· == i)) := notin_iv i xs
theorem o_inT : cmpop .isin (.int i) (.tup (iv xs)) = some (xs.any (· == i)) := in_iv i xs
theorem o_notinT : cmpop .notin (.int i) (.tup (iv xs)) = some (!xs.any (· == i)) := notin_iv i xs
theorem veqs_dec : ∀ xs ys : List Int, veqs (iv xs) (iv ys) = decide (xs = ys)
  | [], [] => rfl
  | [], y :: ys => by simp [iv, veqs]
  | x :: xs, [] => by simp [iv, veqs]
  | x :: xs, y :: ys => by
    have := veqs_dec xs ys
    simp only [iv] at this
    simp only [iv, List.map_cons, veqs, veq, this, List.cons.injEq, Bool.decide_and]
    congr 1
theorem o_eqT : cmpop .eq (.tup (iv xs)) (.tup (iv ys)) = some (decide (xs = ys)) := by
  have e : cmpop .eq (.tup (iv xs)) (.tup (iv ys)) = if (dat 8 (.tup (iv xs)) && dat 8 (.tup (iv ys))) = true then some (veq (.tup (iv xs)) (.tup (iv ys))) else none := rfl
  rw [e, if_pos (by simp [dat, dat_iv])]
  simp [veq, veqs_dec]
theorem o_neT : cmpop .ne (.tup (iv xs)) (.tup (iv ys)) = some (!decide (xs = ys)) := by
  have e : cmpop .ne (.tup (iv xs)) (.tup (iv ys)) = if (dat 8 (.tup (iv xs)) && dat 8 (.tup (iv ys))) = true then some (!veq (.tup (iv xs)) (.tup (iv ys))) else none := rfl
  rw [e, if_pos (by simp [dat, dat_iv])]
  simp [veq, veqs_dec]
theorem o_eqL : cmpop .eq (.lst (iv xs)) (.lst (iv ys)) = some (decide (xs = ys)) := by
  have e : cmpop .eq (.lst (iv xs)) (.lst (iv ys)) = if (dat 8 (.lst (iv xs)) && dat 8 (.lst (iv ys))) = true then some (veq (.lst (iv xs)) (.lst (iv ys))) else none := rfl
  rw [e, if_pos (by simp [dat, dat_iv])]
  simp [veq, veqs_dec]
theorem o_neL : cmpop .ne (.lst (iv xs)) (.lst (iv ys)) = some (!decide (xs = ys)) := by
  have e : cmpop .ne (.lst (iv xs)) (.lst (iv ys)) = if (dat 8 (.lst (iv xs)) && dat 8 (.lst (iv ys))) = true then some (!veq (.lst (iv xs)) (.lst (iv ys))) else none := rfl
  rw [e, if_pos (by simp [dat, dat_iv])]
  simp [veq, veqs_dec]
theorem o_eqB {a b : Bool} : cmpop .eq (.bl a) (.bl b) = some (a == b) := by cases a <;> cases b <;> rfl
theorem o_neB {a b : Bool} : cmpop .ne (.bl a) (.bl b) = some (a != b) := cmp_neB a b
theorem k_iv : okEq (.tup (iv xs)) = true := by simp [okEq, unS, dat, dat_iv, veq, veqs_iv]
theorem k_il : okEq (.lst (iv xs)) = true := by simp [okEq, unS, dat, dat_iv, veq, veqs_iv]
theorem k_int : okEq (.int i) = true := by simp [okEq, unS, dat, veq]
theorem k_bl {b : Bool} : okEq (.bl b) = true := by simp [okEq, unS, dat, veq]
theorem veqs_tv : ∀ xs : List (List Int), veqs (tv xs) (tv xs) = true
  | [] => rfl
  | x :: xs => by
    have := veqs_tv xs
    simp only [tv] at this
    simp [tv, veqs, veq, veqs_iv, this]
theorem k_tv {xs : List (List Int)} : okEq (.lst (tv xs)) = true := by
  have : (tv xs).all (dat 7) = true := by simp [tv, dat, dat_iv]
  simp [okEq, unS, dat, this, veq, veqs_tv]
theorem veqs_blv : ∀ xs : List Bool, veqs (blv xs) (blv xs) = true
  | [] => rfl
  | x :: xs => by
    have := veqs_blv xs
    simp only [blv] at this
    simp [blv, veqs, veq, this]
theorem k_blv {xs : List Bool} : okEq (.lst (blv xs)) = true := by
  have : (blv xs).all (dat 7) = true := by simp [blv, dat]
  simp [okEq, unS, dat, this, veq, veqs_blv]
/-! builtins -/
theorem o_len : op1 .len (.lst (iv xs)) = some (.int (xs.length : Nat)) := by simp
theorem o_lenM {f : α → Int} : op1 .len (.lst (iv (l.map f))) = some (.int (l.length : Nat)) := by simp
theorem o_lenT : op1 .len (.tup (iv xs)) = some (.int (xs.length : Nat)) := by simp
theorem o_lenTv {xs : List (List Int)} : op1 .len (.lst (tv xs)) = some (.int (xs.length : Nat)) := by simp [tv]
theorem o_sum : op1 .sum (.lst (iv xs)) = some (.int xs.sum) := sum_iv xs
theorem o_sumT : op1 .sum (.tup (iv xs)) = some (.int xs.sum) := sumT_iv xs
theorem o_all {bs : List Bool} : op1 .all (.lst (blv bs)) = some (.bl (bs.all id)) := all_bl bs
/-- the greatest, the least of a list that isn't empty -/
def maxL : List Int → Int
  | [] => 0
  | x :: r => maxI x r
def minL : List Int → Int
  | [] => 0
  | x :: r => minI x r
theorem o_max (h : xs ≠ []) : op1 .max (.lst (iv xs)) = some (.int (maxL xs)) := by
  cases xs with
  | nil => exact absurd rfl h
  | cons x r => simp [op1, iv, intsOf, intsOf_iv, maxL]
theorem o_maxT (h : xs ≠ []) : op1 .max (.tup (iv xs)) = some (.int (maxL xs)) := by
  cases xs with
  | nil => exact absurd rfl h
  | cons x r => simp [op1, iv, intsOf, intsOf_iv, maxL]
theorem o_min (h : xs ≠ []) : op1 .min (.lst (iv xs)) = some (.int (minL xs)) := by
  cases xs with
  | nil => exact absurd rfl h
  | cons x r => simp [op1, iv, intsOf, intsOf_iv, minL]
theorem o_minT (h : xs ≠ []) : op1 .min (.tup (iv xs)) = some (.int (minL xs)) := by
  cases xs with
  | nil => exact absurd rfl h
  | cons x r => simp [op1, iv, intsOf, intsOf_iv, minL]
theorem tupsOf_tv : ∀ xs : List (List Int), tupsOf (tv xs) = some xs
  | [] => rfl
  | x :: xs => by
    have := tupsOf_tv xs
    simp only [tv] at this
    simp only [tv, iv, List.map_cons, tupsOf, intsOf_iv] at this ⊢
    rw [this]
theorem o_sorted {xs : List (List Int)} (h : xs.length ≤ 1000) (h2 : ∀ t ∈ xs, t ≠ []) : op1 .sorted (.lst (tv xs)) = some (.lst (tv (sortL xs))) := by
  have e : (xs.length ≤ 1000 && xs.all fun t => !t.isEmpty) = true := by
    simp only [h, decide_true, Bool.true_and, List.all_eq_true]
    intro t ht
    cases t with
    | nil => exact absurd rfl (h2 _ ht)
    | cons => rfl
  simp only [op1, tupsOf_tv, Option.bind_some, e, if_true]
  rfl
theorem o_ixT {i : Nat} (h : i < xs.length) : opIx (.tup (iv xs)) (.int (i : Nat)) = some (.int (xs.getD i 0)) := ixT h
theorem o_ixL {i : Nat} (h : i < xs.length) : opIx (.lst (iv xs)) (.int (i : Nat)) = some (.int (xs.getD i 0)) := ixLi h
theorem o_ixT' {i : Int} (h : 0 ≤ i ∧ i < xs.length) : opIx (.tup (iv xs)) (.int i) = some (.int (xs.getD i.toNat 0)) := by
  have := ixT (xs := xs) (i := i.toNat) (by omega)
  rwa [Int.toNat_of_nonneg h.1] at this
theorem o_ixL' {i : Int} (h : 0 ≤ i ∧ i < xs.length) : opIx (.lst (iv xs)) (.int i) = some (.int (xs.getD i.toNat 0)) := by
  have := ixLi (xs := xs) (i := i.toNat) (by omega)
  rwa [Int.toNat_of_nonneg h.1] at this
theorem o_ixTv {xs : List (List Int)} {i : Nat} (h : i < xs.length) : opIx (.lst (tv xs)) (.int (i : Nat)) = some (.tup (iv (xs.getD i []))) := by
  simp only [opIx, seqOf, Option.bind_some, ixOf, tv, List.length_map]
  rw [if_pos (by omega), if_pos (by omega), Option.bind_some]
  simp [List.getD, h]
theorem o_take {h : Nat} (hh : h ≤ xs.length) : opSl none (some (h : Nat)) (.lst (iv xs)) = some (.lst (iv (xs.take h))) := cut_lo hh
theorem o_drop {h : Nat} (hh : h ≤ xs.length) : opSl (some (h : Nat)) none (.lst (iv xs)) = some (.lst (iv (xs.drop h))) := cut_hi hh
theorem sIx_nat {n d h : Nat} (hh : h ≤ n) : sIx n d (some (h : Nat)) = h := by
  show (if (h : Int) < 0 then ((h : Int) + (n : Int)).toNat else min (h : Int).toNat n) = h
  rw [if_neg (by omega)]
  omega
theorem o_takeT {h : Nat} (hh : h < xs.length) : opSl none (some (h : Nat)) (.tup (iv xs)) = some (.tup (iv (xs.take h))) := by
  have e : sIx (iv xs).length (iv xs).length (some (h : Nat)) = h := sIx_nat (by simp; omega)
  have w : whole (iv xs).length none (some (h : Nat)) = false := by
    simp only [whole, sIx_nat (show h ≤ (iv xs).length by simp; omega), Bool.and_eq_false_iff, beq_eq_false_iff_ne]
    right
    simp
    omega
  simp only [opSl, w, Bool.false_eq_true, if_false, cut, e]
  simp [sIx, iv, List.map_take]
theorem o_dropT {h : Nat} (hh : h ≤ xs.length) (h0 : 0 < h) : opSl (some (h : Nat)) none (.tup (iv xs)) = some (.tup (iv (xs.drop h))) := by
  have e : sIx (iv xs).length 0 (some (h : Nat)) = h := sIx_nat (by simp; omega)
  have w : whole (iv xs).length (some (h : Nat)) none = false := by
    simp only [whole, sIx_nat (show h ≤ (iv xs).length by simp; omega), Bool.and_eq_false_iff, beq_eq_false_iff_ne]
    left
    omega
  simp only [opSl, w, Bool.false_eq_true, if_false, cut, e]
  have : sIx (iv xs).length (iv xs).length none = xs.length := by simp [sIx]
  rw [this]
  simp only [iv, ← List.map_drop, ← List.map_take, Option.some.injEq, Val.tup.injEq]
  rw [List.take_of_length_le (by simp)]
/-! what is walked -/
theorem o_overL : overV st (.lst (iv xs)) = some (xs.map (fun x => [.int x]), none) := overL_iv
theorem o_overT : overV st (.tup (iv xs)) = some (xs.map (fun x => [.int x]), none) := overT_iv
theorem o_overTv {xs : List (List Int)} : overV st (.lst (tv xs)) = some (xs.map (fun x => [.tup (iv x)]), none) := by simp [overV, tv, Function.comp_def]
theorem o_overV {xs : List Val} : overV st (.lst xs) = some (xs.map (fun x => [x]), none) := rfl
theorem o_overVT {xs : List Val} : overV st (.tup xs) = some (xs.map (fun x => [x]), none) := rfl
theorem zip_range : ∀ (xs ys : List Int), ys.length = xs.length → xs.zip ys = (List.range xs.length).map fun i => (xs.getD i 0, ys.getD i 0)
  | [], [], _ => rfl
  | [], y :: ys, h => by simp at h
  | x :: xs, [], h => by simp at h
  | x :: xs, y :: ys, h => by
    have := zip_range xs ys (by simpa using h)
    rw [List.zip_cons_cons, this, List.length_cons, List.range_succ_eq_map]
    simp [Function.comp_def]
theorem o_zipTT (h : ys.length = xs.length) : zipOf (.tup (iv xs)) (.tup (iv ys)) = some ((List.range xs.length).map (fun i => [.int (xs.getD i 0), .int (ys.getD i 0)]), none) := by
  rw [zipT_iv, zip_range xs ys h, List.map_map]; rfl
theorem o_zipLL (h : ys.length = xs.length) : zipOf (.lst (iv xs)) (.lst (iv ys)) = some ((List.range xs.length).map (fun i => [.int (xs.getD i 0), .int (ys.getD i 0)]), none) := by
  rw [zipL_iv, zip_range xs ys h, List.map_map]; rfl
theorem o_zipTL (h : ys.length = xs.length) : zipOf (.tup (iv xs)) (.lst (iv ys)) = some ((List.range xs.length).map (fun i => [.int (xs.getD i 0), .int (ys.getD i 0)]), none) := by
  rw [zipTL_iv, zip_range xs ys h, List.map_map]; rfl
theorem en_range : ∀ (xs : List Int) (n : Nat), enFrom n xs = (List.range xs.length).map fun i => (i + n, xs.getD i 0)
  | [], n => rfl
  | x :: xs, n => by
    have := en_range xs (n + 1)
    rw [enFrom, this, List.length_cons, List.range_succ_eq_map]
    simp only [List.map_cons, Nat.zero_add, List.map_map]
    congr 1
    apply List.map_congr_left
    intro i _
    simp only [Function.comp, List.getD_cons_succ]
    congr 1
    omega
theorem o_enumT : enumOf st (.tup (iv xs)) = some ((List.range xs.length).map (fun i => [.int (i : Nat), .int (xs.getD i 0)]), none) := by
  rw [enumT_iv, en_range, List.map_map]; rfl
theorem o_enumL : enumOf st (.lst (iv xs)) = some ((List.range xs.length).map (fun i => [.int (i : Nat), .int (xs.getD i 0)]), none) := by
  have : enumOf st (.lst (iv xs)) = enumOf st (.tup (iv xs)) := rfl
  rw [this, o_enumT]
theorem map_getD {β : Type} (f : Int → β) (xs : List Int) : xs.map f = (List.range xs.length).map fun i => f (xs.getD i 0) := by
  apply List.ext_getElem (by simp)
  intro i h1 h2
  have : i < xs.length := by simpa using h1
  simp [List.getD, this]
theorem self_getD (xs : List Int) : (List.range xs.length).map (fun i => xs.getD i 0) = xs := by
  have := map_getD (fun a => a) xs
  rw [← this]; simp
theorem ge_range {n : Nat} {f : Nat → Int} {i : Nat} (h : i < n) : ((List.range n).map f).getD i 0 = f i := by
  simp [List.getD, h]
theorem castS {n : Nat} : ((n : Int) + 1) = ((n + 1 : Nat) : Int) := by omega
/-! bounds -/
theorem b_range (h : n ≤ 1000) : (List.range n).length ≤ 1000 := by simpa using h
theorem b_map {f : α → β} (h : l.length ≤ 1000) : (l.map f).length ≤ 1000 := by simpa using h
theorem b_filter {p : α → Bool} (h : l.length ≤ 1000) : (l.filter p).length ≤ 1000 := Nat.le_trans (List.length_filter_le _ _) h
theorem isF_size (h : IsF xs) : SizeOk xs.length := h.1
theorem isF_ne (h : IsF xs) : xs ≠ [] := by rintro rfl; rcases h.1 with e | e | e | e <;> simp at e
theorem wave_ne (h : SizeOk xs.length) : waveL xs ≠ [] := by
  intro e
  have := waveL_len h
  rw [e] at this
  rcases h with e | e | e | e <;> simp [e] at this
end
end Sw
end

section
/-! SwX: the rules over operations that aren't unfolded. -/
namespace Sw
open PySem (Str)
@[irreducible] def bo (p : Bop) (x y : Val) : Option Val := binop p x y
theorem bo_eq (p : Bop) (x y : Val) : bo p x y = binop p x y := by unfold bo; rfl
@[irreducible] def co (p : Cop) (x y : Val) : Option Bool := cmpop p x y
theorem co_eq (p : Cop) (x y : Val) : co p x y = cmpop p x y := by unfold co; rfl
@[irreducible] def o1 (p : B1) (x : Val) : Option Val := op1 p x
theorem o1_eq (p : B1) (x : Val) : o1 p x = op1 p x := by unfold o1; rfl
@[irreducible] def oix (x y : Val) : Option Val := opIx x y
theorem oix_eq (x y : Val) : oix x y = opIx x y := by unfold oix; rfl
@[irreducible] def ovr (st : Store) (x : Val) : Option Items := overV st x
theorem ovr_eq (st : Store) (x : Val) : ovr st x = overV st x := by unfold ovr; rfl
@[irreducible] def zpo (x y : Val) : Option Items := zipOf x y
theorem zpo_eq (x y : Val) : zpo x y = zipOf x y := by unfold zpo; rfl
@[irreducible] def eno (st : Store) (x : Val) : Option Items := enumOf st x
theorem eno_eq (st : Store) (x : Val) : eno st x = enumOf st x := by unfold eno; rfl
section
variable {C : Orc} {ρ : Env} {st st1 st2 st3 : Store} {a b c g o e : Ex} {as : Exs} {x y z v r : Val} {t u : Bool}
theorem x_bin {p : Bop} (ha : ev C a ρ st = .ok x st1) (hb : ev C b ρ st1 = .ok y st2) (h : bo p (deref st2 x) (deref st2 y) = some r) : ev C (.bin p a b) ρ st = .ok r st2 := w_bin ha hb (by rw [← bo_eq]; exact h)
theorem x_cmp {p : Cop} (ha : ev C a ρ st = .ok x st1) (hb : ev C b ρ st1 = .ok y st2) (h : co p (deref st2 x) (deref st2 y) = some t) : ev C (.cmp p a b) ρ st = .ok (.bl t) st2 := w_cmp ha hb (by rw [← co_eq]; exact h)
theorem x_chain {p q : Cop} (ha : ev C a ρ st = .ok x st1) (hb : ev C b ρ st1 = .ok y st2) (h1 : co p (deref st2 x) (deref st2 y) = some t) (hc : t = true → ev C c ρ st2 = .ok z st2) (h2 : t = true → co q (deref st2 y) (deref st2 z) = some u) : ev C (.chain p q a b c) ρ st = .ok (.bl (t && u)) st2 := w_chain ha hb (by rw [← co_eq]; exact h1) hc (fun h => by rw [← co_eq]; exact h2 h)
theorem x_b1 {f : B1} (h : ev C a ρ st = .ok x st1) (h2 : o1 f (deref st1 x) = some r) : ev C (.b1 f a) ρ st = .ok r st1 := w_b1 h (by rw [← o1_eq]; exact h2)
theorem x_idx (ha : ev C a ρ st = .ok x st1) (hi : ev C b ρ st1 = .ok y st2) (h : oix (deref st2 x) y = some r) : ev C (.idx a b) ρ st = .ok r st2 := w_idx ha hi (by rw [← oix_eq]; exact h)
theorem x_over {α : Type} {l : List α} {en : α → List Val} (ha : ev C a ρ st = .ok x st1) (hx : ovr st1 x = some (l.map en, none)) : evi C (.over a) ρ st = .ok (l.map en, none) st1 := w_over ha (by rw [← ovr_eq]; exact hx)
theorem x_zip {α : Type} {l : List α} {en : α → List Val} (ha : ev C a ρ st = .ok x st1) (hb : ev C b ρ st1 = .ok y st2) (hx : zpo x y = some (l.map en, none)) : evi C (.zip a b) ρ st = .ok (l.map en, none) st2 := w_zip ha hb (by rw [← zpo_eq]; exact hx)
theorem x_enum {α : Type} {l : List α} {en : α → List Val} (ha : ev C a ρ st = .ok x st1) (hx : eno st1 x = some (l.map en, none)) : evi C (.enum a) ρ st = .ok (l.map en, none) st1 := w_enum ha (by rw [← eno_eq]; exact hx)
end
section
variable {C : Orc} {ρ ρ' : Env} {st st1 st2 st3 : Store} {a b c g o e : Ex} {as : Exs} {x y z v r : Val} {t u : Bool} {α : Type} {l : List α} {en : α → List Val} {it : It} {tg : List Nat} {gg : α → Val} {p : α → Bool} {ρl : α → Env}
theorem x_lc (hi : evi C it ρ st = .ok (l.map en, none) st1) (hl : l.length ≤ 1000) (hρ : ∀ a, setAll (wipeAll ρ tg) tg (en a) = ρl a) (hg : ∀ a ∈ l, ∀ s, ev C e (ρl a) s = .ok (gg a) s) (hp : ∀ a ∈ l, (gg a).pure = true) (hv : Val.lst (l.map gg) = v) :
    ev C (.lc e tg it .none) ρ st = .ok v st1 := w_lc hi hl (fun a ha s => by rw [hρ a]; exact hg a ha s) hp hv
theorem x_lcf (hi : evi C it ρ st = .ok (l.map en, none) st1) (hl : l.length ≤ 1000) (hρ : ∀ a, setAll (wipeAll ρ tg) tg (en a) = ρl a) (hc : ∀ a ∈ l, ∀ s, ev C c (ρl a) s = .ok (.bl (p a)) s) (hg : ∀ a ∈ l, p a = true → ∀ s, ev C e (ρl a) s = .ok (gg a) s) (hp : ∀ a ∈ l, (gg a).pure = true) (hv : Val.lst ((l.filter p).map gg) = v) :
    ev C (.lc e tg it (.some c)) ρ st = .ok v st1 := w_lcf hi hl (fun a ha s => by rw [hρ a]; exact hc a ha s) (fun a ha h s => by rw [hρ a]; exact hg a ha h s) hp hv
variable {ss : Sts} {i : Nat}
theorem d_set (h : ev C e ρ st = .ok v st1) (hρ : ρ.set i (some v) = ρ') (k : Done (execs C ss ρ' st1)) : Done (execs C (.cons (.set i e) ss) ρ st) := dn (q_set h rfl) (by rw [hρ]; exact k)
theorem d_par {is : List Nat} {vs : List Val} (h : evs C as ρ st = .ok vs st1) (hl : is.length = vs.length) (hρ : setAll ρ is vs = ρ') (k : Done (execs C ss ρ' st1)) : Done (execs C (.cons (.par is as) ss) ρ st) := dn (q_par h hl rfl) (by rw [hρ]; exact k)
theorem d_box {xs : List Val} (h : ev C e ρ st = .ok (.lst xs) st1) (hρ : ρ.set i (some (.box st1.length)) = ρ') (hs : st1 ++ [.list xs] = st2) (k : Done (execs C ss ρ' st2)) : Done (execs C (.cons (.boxset i e) ss) ρ st) := dn (q_box h rfl) (by rw [hρ, hs]; exact k)
theorem d_skip {sx : Sts} (h : TF C c ρ st) (k : Done (execs C ss ρ st)) : Done (execs C (.cons (.ife c sx .nil) ss) ρ st) := dn (q_skip h rfl) k
theorem d_expr (h : ev C e ρ st = .ok v st1) (k : Done (execs C ss ρ st1)) : Done (execs C (.cons (.expr e) ss) ρ st) := dn (q_expr h rfl) k
theorem d_for {body : Sts} {is : Items} {st' : Store} (hi : evi C it ρ st = .ok is st1) (hf : forB C body tg is.2 is.1 ρ st1 = .next ρ' st') (k : Done (execs C ss ρ' st')) : Done (execs C (.cons (.for_ tg it body) ss) ρ st) := dn (q_for hi hf rfl) k
theorem d_ret (h : TT C e ρ st) : Done (execs C (.cons (.ret e) ss) ρ st) := dn_end (q_retT h)
theorem d_aug {q : Bop} {i' j n : Int} (hx : ρ[i]? = some (some (.int i'))) (h : ev C e ρ st = .ok (.int j) st1) (ho : augV q i' j = some n) (hρ : ρ.set i (some (.int n)) = ρ') (k : Done (execs C ss ρ' st1)) : Done (execs C (.cons (.aug i q e) ss) ρ st) := dn (q_aug hx h ho rfl) (by rw [hρ]; exact k)
theorem law_start {T : Fn → Option FDef} {k : Nat} {f : Fn} {d : FDef} {vs : List Val} (h : T f = some d) (hn : vs.length = d.np) (hk : d.keep = false) (hρ : vs.map some ++ List.replicate (d.ns - d.np) none = ρ) (hb : Done (execs (callN T k) d.body ρ [])) : callN T (k + 1) f vs [] = .ok (.bl true) [] := law_end h hn hk (by rw [hρ]; exact hb)
end
section
variable {st : Store} {α β : Type} {l : List α} {xs ys : List Int} {i j : Int} {m n : Nat}
theorem x_add : bo .add (.int i) (.int j) = some (.int (i + j)) := by rw [bo_eq]; rfl
theorem x_sub : bo .sub (.int i) (.int j) = some (.int (i - j)) := by rw [bo_eq]; rfl
theorem x_lt : co .lt (.int i) (.int j) = some (decide (i < j)) := by rw [co_eq]; rfl
theorem x_le : co .le (.int i) (.int j) = some (decide (i ≤ j)) := by rw [co_eq]; rfl
theorem x_gt : co .gt (.int i) (.int j) = some (decide (j < i)) := by rw [co_eq]; rfl
theorem x_ge : co .ge (.int i) (.int j) = some (decide (j ≤ i)) := by rw [co_eq]; rfl
theorem x_eqI : co .eq (.int i) (.int j) = some (i == j) := by rw [co_eq]; rfl
theorem x_neI : co .ne (.int i) (.int j) = some (!(i == j)) := by rw [co_eq]; rfl
theorem x_isB {a b : Bool} : co .is (.bl a) (.bl b) = some (a == b) := by rw [co_eq]; rfl
theorem x_isnotB {a b : Bool} : co .isnot (.bl a) (.bl b) = some (!(a == b)) := by rw [co_eq]; rfl
theorem x_tuple {vs : List Val} : o1 .tuple (.lst vs) = some (.tup vs) := by rw [o1_eq]; rfl
theorem x_tupleT {vs : List Val} : o1 .tuple (.tup vs) = some (.tup vs) := by rw [o1_eq]; rfl
theorem x_list {vs : List Val} : o1 .list (.tup vs) = some (.lst vs) := by rw [o1_eq]; rfl
theorem x_listL {vs : List Val} : o1 .list (.lst vs) = some (.lst vs) := by rw [o1_eq]; rfl
theorem x_lenV {vs : List Val} : o1 .len (.lst vs) = some (.int (vs.length : Nat)) := by rw [o1_eq]; rfl
theorem x_mulL (h : Small i) : bo .mul (.int i) (.int j) = some (.int (i * j)) := by rw [bo_eq]; exact o_mulL h
theorem x_mulR (h : Small j) : bo .mul (.int i) (.int j) = some (.int (i * j)) := by rw [bo_eq]; exact o_mulR h
theorem x_mod (h : 0 < j) : bo .mod (.int i) (.int j) = some (.int (i % j)) := by rw [bo_eq]; exact o_mod h
theorem x_modN {a b : Nat} (h : 0 < b) : bo .mod (.int (a : Nat)) (.int (b : Nat)) = some (.int ((a % b : Nat) : Int)) := by rw [bo_eq]; exact o_modN h
theorem x_divN {a b : Nat} (h : 0 < b ∧ b < 1073741824) : bo .fdiv (.int (a : Nat)) (.int (b : Nat)) = some (.int ((a / b : Nat) : Int)) := by rw [bo_eq]; exact o_divN h
theorem x_div (h : 0 < j ∧ j < 1073741824) : bo .fdiv (.int i) (.int j) = some (.int (i / j)) := by rw [bo_eq]; exact o_div h
theorem x_addL (h : xs.length + ys.length ≤ 1000) : bo .add (.lst (iv xs)) (.lst (iv ys)) = some (.lst (iv (xs ++ ys))) := by rw [bo_eq]; exact o_addL h
theorem x_addLT {a b : List (List Int)} (h : a.length + b.length ≤ 1000) : bo .add (.lst (tv a)) (.lst (tv b)) = some (.lst (tv (a ++ b))) := by rw [bo_eq]; exact o_addLT h
theorem x_addT (h : xs.length + ys.length ≤ 1000) : bo .add (.tup (iv xs)) (.tup (iv ys)) = some (.tup (iv (xs ++ ys))) := by rw [bo_eq]; exact o_addT h
theorem x_mulT {n : Nat} (h1 : 1 ≤ n ∧ n ≤ 64) (h2 : xs.length ≤ 64 ∧ 0 < xs.length) : bo .mul (.tup (iv xs)) (.int (n : Nat)) = some (.tup (iv (rep n xs))) := by rw [bo_eq]; exact o_mulT h1 h2
theorem x_in : co .isin (.int i) (.lst (iv xs)) = some (xs.any (· == i)) := by rw [co_eq]; exact o_in 
theorem x_notin : co .notin (.int i) (.lst (iv xs)) = some (!xs.any (· == i)) := by rw [co_eq]; exact o_notin 
theorem x_inT : co .isin (.int i) (.tup (iv xs)) = some (xs.any (· == i)) := by rw [co_eq]; exact o_inT 
theorem x_notinT : co .notin (.int i) (.tup (iv xs)) = some (!xs.any (· == i)) := by rw [co_eq]; exact o_notinT 
theorem x_eqT : co .eq (.tup (iv xs)) (.tup (iv ys)) = some (decide (xs = ys)) := by rw [co_eq]; exact o_eqT 
theorem x_neT : co .ne (.tup (iv xs)) (.tup (iv ys)) = some (!decide (xs = ys)) := by rw [co_eq]; exact o_neT 
theorem x_eqL : co .eq (.lst (iv xs)) (.lst (iv ys)) = some (decide (xs = ys)) := by rw [co_eq]; exact o_eqL 
theorem x_neL : co .ne (.lst (iv xs)) (.lst (iv ys)) = some (!decide (xs = ys)) := by rw [co_eq]; exact o_neL 
theorem x_eqB {a b : Bool} : co .eq (.bl a) (.bl b) = some (a == b) := by rw [co_eq]; exact o_eqB 
theorem x_neB {a b : Bool} : co .ne (.bl a) (.bl b) = some (a != b) := by rw [co_eq]; exact o_neB 
theorem x_len : o1 .len (.lst (iv xs)) = some (.int (xs.length : Nat)) := by rw [o1_eq]; exact o_len 
theorem x_lenM {f : α → Int} : o1 .len (.lst (iv (l.map f))) = some (.int (l.length : Nat)) := by rw [o1_eq]; exact o_lenM 
theorem x_lenT : o1 .len (.tup (iv xs)) = some (.int (xs.length : Nat)) := by rw [o1_eq]; exact o_lenT 
theorem x_lenTv {xs : List (List Int)} : o1 .len (.lst (tv xs)) = some (.int (xs.length : Nat)) := by rw [o1_eq]; exact o_lenTv 
theorem x_sum : o1 .sum (.lst (iv xs)) = some (.int xs.sum) := by rw [o1_eq]; exact o_sum 
theorem x_sumT : o1 .sum (.tup (iv xs)) = some (.int xs.sum) := by rw [o1_eq]; exact o_sumT 
theorem x_all {bs : List Bool} : o1 .all (.lst (blv bs)) = some (.bl (bs.all id)) := by rw [o1_eq]; exact o_all 
theorem x_max (h : xs ≠ []) : o1 .max (.lst (iv xs)) = some (.int (maxL xs)) := by rw [o1_eq]; exact o_max h
theorem x_maxT (h : xs ≠ []) : o1 .max (.tup (iv xs)) = some (.int (maxL xs)) := by rw [o1_eq]; exact o_maxT h
theorem x_min (h : xs ≠ []) : o1 .min (.lst (iv xs)) = some (.int (minL xs)) := by rw [o1_eq]; exact o_min h
theorem x_minT (h : xs ≠ []) : o1 .min (.tup (iv xs)) = some (.int (minL xs)) := by rw [o1_eq]; exact o_minT h
theorem x_sorted {xs : List (List Int)} (h : xs.length ≤ 1000) (h2 : ∀ t ∈ xs, t ≠ []) : o1 .sorted (.lst (tv xs)) = some (.lst (tv (sortL xs))) := by rw [o1_eq]; exact o_sorted h h2
theorem x_ixT {i : Nat} (h : i < xs.length) : oix (.tup (iv xs)) (.int (i : Nat)) = some (.int (xs.getD i 0)) := by rw [oix_eq]; exact o_ixT h
theorem x_ixL {i : Nat} (h : i < xs.length) : oix (.lst (iv xs)) (.int (i : Nat)) = some (.int (xs.getD i 0)) := by rw [oix_eq]; exact o_ixL h
theorem x_ixT' {i : Int} (h : 0 ≤ i ∧ i < xs.length) : oix (.tup (iv xs)) (.int i) = some (.int (xs.getD i.toNat 0)) := by rw [oix_eq]; exact o_ixT' h
theorem x_ixL' {i : Int} (h : 0 ≤ i ∧ i < xs.length) : oix (.lst (iv xs)) (.int i) = some (.int (xs.getD i.toNat 0)) := by rw [oix_eq]; exact o_ixL' h
theorem x_ixTv {xs : List (List Int)} {i : Nat} (h : i < xs.length) : oix (.lst (tv xs)) (.int (i : Nat)) = some (.tup (iv (xs.getD i []))) := by rw [oix_eq]; exact o_ixTv h
theorem x_overL : ovr st (.lst (iv xs)) = some (xs.map (fun x => [.int x]), none) := by rw [ovr_eq]; exact o_overL 
theorem x_overT : ovr st (.tup (iv xs)) = some (xs.map (fun x => [.int x]), none) := by rw [ovr_eq]; exact o_overT 
theorem x_overTv {xs : List (List Int)} : ovr st (.lst (tv xs)) = some (xs.map (fun x => [.tup (iv x)]), none) := by rw [ovr_eq]; exact o_overTv 
theorem x_overV {xs : List Val} : ovr st (.lst xs) = some (xs.map (fun x => [x]), none) := by rw [ovr_eq]; exact o_overV 
theorem x_overVT {xs : List Val} : ovr st (.tup xs) = some (xs.map (fun x => [x]), none) := by rw [ovr_eq]; exact o_overVT 
theorem x_zipTT (h : ys.length = xs.length) : zpo (.tup (iv xs)) (.tup (iv ys)) = some ((List.range xs.length).map (fun i => [.int (xs.getD i 0), .int (ys.getD i 0)]), none) := by rw [zpo_eq]; exact o_zipTT h
theorem x_zipLL (h : ys.length = xs.length) : zpo (.lst (iv xs)) (.lst (iv ys)) = some ((List.range xs.length).map (fun i => [.int (xs.getD i 0), .int (ys.getD i 0)]), none) := by rw [zpo_eq]; exact o_zipLL h
theorem x_zipTL (h : ys.length = xs.length) : zpo (.tup (iv xs)) (.lst (iv ys)) = some ((List.range xs.length).map (fun i => [.int (xs.getD i 0), .int (ys.getD i 0)]), none) := by rw [zpo_eq]; exact o_zipTL h
theorem x_enumT : eno st (.tup (iv xs)) = some ((List.range xs.length).map (fun i => [.int (i : Nat), .int (xs.getD i 0)]), none) := by rw [eno_eq]; exact o_enumT 
theorem x_enumL : eno st (.lst (iv xs)) = some ((List.range xs.length).map (fun i => [.int (i : Nat), .int (xs.getD i 0)]), none) := by rw [eno_eq]; exact o_enumL
/-! under deref -/
theorem xd_add : bo .add (deref st (.int i)) (deref st (.int j)) = some (.int (i + j)) := x_add
theorem xd_sub : bo .sub (deref st (.int i)) (deref st (.int j)) = some (.int (i - j)) := x_sub
theorem xd_lt : co .lt (deref st (.int i)) (deref st (.int j)) = some (decide (i < j)) := x_lt
theorem xd_le : co .le (deref st (.int i)) (deref st (.int j)) = some (decide (i ≤ j)) := x_le
theorem xd_gt : co .gt (deref st (.int i)) (deref st (.int j)) = some (decide (j < i)) := x_gt
theorem xd_ge : co .ge (deref st (.int i)) (deref st (.int j)) = some (decide (j ≤ i)) := x_ge
theorem xd_eqI : co .eq (deref st (.int i)) (deref st (.int j)) = some (i == j) := x_eqI
theorem xd_neI : co .ne (deref st (.int i)) (deref st (.int j)) = some (!(i == j)) := x_neI
theorem xd_isB {a b : Bool} : co .is (deref st (.bl a)) (deref st (.bl b)) = some (a == b) := x_isB
theorem xd_isnotB {a b : Bool} : co .isnot (deref st (.bl a)) (deref st (.bl b)) = some (!(a == b)) := x_isnotB
theorem xd_tuple {vs : List Val} : o1 .tuple (deref st (.lst vs)) = some (.tup vs) := x_tuple
theorem xd_tupleT {vs : List Val} : o1 .tuple (deref st (.tup vs)) = some (.tup vs) := x_tupleT
theorem xd_list {vs : List Val} : o1 .list (deref st (.tup vs)) = some (.lst vs) := x_list
theorem xd_listL {vs : List Val} : o1 .list (deref st (.lst vs)) = some (.lst vs) := x_listL
theorem xd_lenV {vs : List Val} : o1 .len (deref st (.lst vs)) = some (.int (vs.length : Nat)) := x_lenV
theorem xd_mulL (h : Small i) : bo .mul (deref st (.int i)) (deref st (.int j)) = some (.int (i * j)) := x_mulL h
theorem xd_mulR (h : Small j) : bo .mul (deref st (.int i)) (deref st (.int j)) = some (.int (i * j)) := x_mulR h
theorem xd_mod (h : 0 < j) : bo .mod (deref st (.int i)) (deref st (.int j)) = some (.int (i % j)) := x_mod h
theorem xd_modN {a b : Nat} (h : 0 < b) : bo .mod (deref st (.int (a : Nat))) (deref st (.int (b : Nat))) = some (.int ((a % b : Nat) : Int)) := x_modN h
theorem xd_divN {a b : Nat} (h : 0 < b ∧ b < 1073741824) : bo .fdiv (deref st (.int (a : Nat))) (deref st (.int (b : Nat))) = some (.int ((a / b : Nat) : Int)) := x_divN h
theorem xd_div (h : 0 < j ∧ j < 1073741824) : bo .fdiv (deref st (.int i)) (deref st (.int j)) = some (.int (i / j)) := x_div h
theorem xd_addL (h : xs.length + ys.length ≤ 1000) : bo .add (deref st (.lst (iv xs))) (deref st (.lst (iv ys))) = some (.lst (iv (xs ++ ys))) := x_addL h
theorem xd_addLT {a b : List (List Int)} (h : a.length + b.length ≤ 1000) : bo .add (deref st (.lst (tv a))) (deref st (.lst (tv b))) = some (.lst (tv (a ++ b))) := x_addLT h
theorem xd_addT (h : xs.length + ys.length ≤ 1000) : bo .add (deref st (.tup (iv xs))) (deref st (.tup (iv ys))) = some (.tup (iv (xs ++ ys))) := x_addT h
theorem xd_mulT {n : Nat} (h1 : 1 ≤ n ∧ n ≤ 64) (h2 : xs.length ≤ 64 ∧ 0 < xs.length) : bo .mul (deref st (.tup (iv xs))) (deref st (.int (n : Nat))) = some (.tup (iv (rep n xs))) := x_mulT h1 h2
theorem xd_in : co .isin (deref st (.int i)) (deref st (.lst (iv xs))) = some (xs.any (· == i)) := x_in
theorem xd_notin : co .notin (deref st (.int i)) (deref st (.lst (iv xs))) = some (!xs.any (· == i)) := x_notin
theorem xd_inT : co .isin (deref st (.int i)) (deref st (.tup (iv xs))) = some (xs.any (· == i)) := x_inT
theorem xd_notinT : co .notin (deref st (.int i)) (deref st (.tup (iv xs))) = some (!xs.any (· == i)) := x_notinT
theorem xd_eqT : co .eq (deref st (.tup (iv xs))) (deref st (.tup (iv ys))) = some (decide (xs = ys)) := x_eqT
theorem xd_neT : co .ne (deref st (.tup (iv xs))) (deref st (.tup (iv ys))) = some (!decide (xs = ys)) := x_neT
theorem xd_eqL : co .eq (deref st (.lst (iv xs))) (deref st (.lst (iv ys))) = some (decide (xs = ys)) := x_eqL
theorem xd_neL : co .ne (deref st (.lst (iv xs))) (deref st (.lst (iv ys))) = some (!decide (xs = ys)) := x_neL
theorem xd_eqB {a b : Bool} : co .eq (deref st (.bl a)) (deref st (.bl b)) = some (a == b) := x_eqB
theorem xd_neB {a b : Bool} : co .ne (deref st (.bl a)) (deref st (.bl b)) = some (a != b) := x_neB
theorem xd_len : o1 .len (deref st (.lst (iv xs))) = some (.int (xs.length : Nat)) := x_len
theorem xd_lenM {f : α → Int} : o1 .len (deref st (.lst (iv (l.map f)))) = some (.int (l.length : Nat)) := x_lenM
theorem xd_lenT : o1 .len (deref st (.tup (iv xs))) = some (.int (xs.length : Nat)) := x_lenT
theorem xd_lenTv {xs : List (List Int)} : o1 .len (deref st (.lst (tv xs))) = some (.int (xs.length : Nat)) := x_lenTv
theorem xd_sum : o1 .sum (deref st (.lst (iv xs))) = some (.int xs.sum) := x_sum
theorem xd_sumT : o1 .sum (deref st (.tup (iv xs))) = some (.int xs.sum) := x_sumT
theorem xd_all {bs : List Bool} : o1 .all (deref st (.lst (blv bs))) = some (.bl (bs.all id)) := x_all
theorem xd_max (h : xs ≠ []) : o1 .max (deref st (.lst (iv xs))) = some (.int (maxL xs)) := x_max h
theorem xd_maxT (h : xs ≠ []) : o1 .max (deref st (.tup (iv xs))) = some (.int (maxL xs)) := x_maxT h
theorem xd_min (h : xs ≠ []) : o1 .min (deref st (.lst (iv xs))) = some (.int (minL xs)) := x_min h
theorem xd_minT (h : xs ≠ []) : o1 .min (deref st (.tup (iv xs))) = some (.int (minL xs)) := x_minT h
theorem xd_sorted {xs : List (List Int)} (h : xs.length ≤ 1000) (h2 : ∀ t ∈ xs, t ≠ []) : o1 .sorted (deref st (.lst (tv xs))) = some (.lst (tv (sortL xs))) := x_sorted h h2
theorem xd_ixT {i : Nat} (h : i < xs.length) : oix (deref st (.tup (iv xs))) (.int (i : Nat)) = some (.int (xs.getD i 0)) := x_ixT h
theorem xd_ixL {i : Nat} (h : i < xs.length) : oix (deref st (.lst (iv xs))) (.int (i : Nat)) = some (.int (xs.getD i 0)) := x_ixL h
theorem xd_ixT' {i : Int} (h : 0 ≤ i ∧ i < xs.length) : oix (deref st (.tup (iv xs))) (.int i) = some (.int (xs.getD i.toNat 0)) := x_ixT' h
theorem xd_ixL' {i : Int} (h : 0 ≤ i ∧ i < xs.length) : oix (deref st (.lst (iv xs))) (.int i) = some (.int (xs.getD i.toNat 0)) := x_ixL' h
theorem xd_ixTv {xs : List (List Int)} {i : Nat} (h : i < xs.length) : oix (deref st (.lst (tv xs))) (.int (i : Nat)) = some (.tup (iv (xs.getD i []))) := x_ixTv h
end
theorem idp {p : Prop} (h : p) : p := h
/-! ### what is left to be shown -/
structure Want (p : Prop) : Prop where
  h : p
structure SameV (x y : Val) : Prop where
  ok : okEq y = true
  h : x = y
section
variable {C : Orc} {ρ : Env} {st : Store} {a b e : Ex} {x y : Val} {t u : Bool} {i j : Int} {xs ys : List Int}
theorem xd_mulT' (h1 : 1 ≤ j ∧ j ≤ 64) (h2 : xs.length ≤ 64 ∧ 0 < xs.length) : bo .mul (deref st (.tup (iv xs))) (deref st (.int j)) = some (.tup (iv (rep j.toNat xs))) := by
  have := xd_mulT (st := st) (xs := xs) (n := j.toNat) (by omega) h2
  rwa [Int.toNat_of_nonneg (by omega)] at this
theorem sv_int (h : Want (i = j)) : SameV (deref st (.int i)) (deref st (.int j)) := ⟨k_int, by rw [h.h]⟩
theorem sv_bl (h : Want (t = u)) : SameV (deref st (.bl t)) (deref st (.bl u)) := ⟨k_bl, by rw [h.h]⟩
theorem sv_tup (h : Want (xs = ys)) : SameV (deref st (.tup (iv xs))) (deref st (.tup (iv ys))) := ⟨k_iv, by rw [h.h]⟩
theorem sv_lst (h : Want (xs = ys)) : SameV (deref st (.lst (iv xs))) (deref st (.lst (iv ys))) := ⟨k_il, by rw [h.h]⟩
theorem sv_tv {xs ys : List (List Int)} (h : Want (xs = ys)) : SameV (deref st (.lst (tv xs))) (deref st (.lst (tv ys))) := ⟨k_tv, by rw [h.h]⟩
theorem sv_blv {xs ys : List Bool} (h : Want (xs = ys)) : SameV (deref st (.lst (blv xs))) (deref st (.lst (blv ys))) := ⟨k_blv, by rw [h.h]⟩
theorem tf_neW (ha : ev C a ρ st = .ok x st) (hb : ev C b ρ st = .ok y st) (h : SameV (deref st x) (deref st y)) : TF C (.cmp .ne a b) ρ st := tf_ne ha hb h.ok h.h
theorem tt_eqW (ha : ev C a ρ st = .ok x st) (hb : ev C b ρ st = .ok y st) (h : SameV (deref st x) (deref st y)) : TT C (.cmp .eq a b) ρ st := tt_eq ha hb h.ok h.h
theorem tf_ofW (h : ev C e ρ st = .ok (.bl t) st) (ht : Want (t = false)) : TF C e ρ st := tf_of h ht.h
theorem tt_ofW (h : ev C e ρ st = .ok (.bl t) st) (ht : Want (t = true)) : TT C e ρ st := tt_of h ht.h
theorem tf_isnotW (ha : ev C a ρ st = .ok (.bl t) st) (ht : Want (t = true)) : TF C (.cmp .isnot a (.cb true)) ρ st := by
  refine ⟨w_cmp ha ev_cb ?_⟩
  rw [ht.h]; rfl
theorem tt_isW (ha : ev C a ρ st = .ok (.bl t) st) (ht : Want (t = u)) : TT C (.cmp .is a (.cb u)) ρ st := by
  refine ⟨w_cmp ha ev_cb ?_⟩
  rw [ht.h]; cases u <;> rfl
end
end Sw
end

section
/-! SwT1: the defs of the package. -/
namespace Sw
open PySem (Str)
/-- the sum for a mask, its sign -/
def oddN (m p : Nat) : Nat := bitN (m &&& p) % 2
theorem odd_tab : ∀ m < 16, ∀ p < 16, oddI (m : Nat) (p : Nat) = (oddN m p : Nat) := by decide +kernel
theorem odd_com (m p : Nat) : oddN m p = oddN p m := by rw [oddN, oddN, Nat.and_comm]
theorem sg_odd {m p : Nat} (hm : m < 16) (hp : p < 16) : sg m p = 1 - 2 * (oddN m p : Nat) := by rw [sg, odd_tab m hm p hp]
theorem odd_01 (m p : Nat) : oddN m p = 0 ∨ oddN m p = 1 := by unfold oddN; omega
theorem o_sgn {m p : Nat} (hm : m < 16) (hp : p < 16) : opIx (.lst (iv [1, 0 - 1])) (.int (oddN m p : Nat)) = some (.int (sg m p)) := by
  rw [sg_odd hm hp]
  rcases odd_01 m p with e | e <;> rw [e] <;> rfl
theorem x_sgn {m p : Nat} (hm : m < 16) (hp : p < 16) : oix (.lst (iv [1, 0 - 1])) (.int (oddN m p : Nat)) = some (.int (sg m p)) := by rw [oix_eq]; exact o_sgn hm hp
section
variable {T : Fn → Option FDef} {k : Nat} {st : Store} {xs ys : List Int} {i j m n p : Nat}
local macro_rules | `(tactic| bv_omega) => `(tactic| first | (simp only [setAll, wipeAll, List.set_cons_succ, List.set_cons_zero]; exact rfl) | exact rfl)
local macro_rules | `(tactic| array_mem_dec) => `(tactic| first
  | exact idp (by assumption)
  | omega
  | (refine ⟨?_, ?_⟩ <;> omega)
  | exact b_range (by omega)
  | exact b_map (b_range (by omega))
  | exact b_map (by omega)
  | exact b_filter (by omega)
  | exact b_filter (b_range (by omega))
  | exact isF_size (by assumption)
  | exact isF_ne (by assumption)
  | exact wave_ne (by assumption)
  | exact wave_ne (isF_size (by assumption))
  | (simp only [List.length_map, List.length_range, List.length_cons, List.length_nil, List.length_append, rep_len]; omega)
  | (simp only [List.length_cons, List.length_nil, rep_len]; decide)
  | (refine ⟨?_, ?_⟩ <;> (simp only [List.length_cons, List.length_nil, rep_len]; decide))
  | fail)
local macro_rules | `(tactic| array_get_dec) => `(tactic| repeat' first
  | (guard_target = ev _ _ _ _ = _; first
    | ((with_reducible apply w_var); exact rfl)
    | with_reducible exact ev_ci
    | with_reducible apply w_call
    | with_reducible apply x_bin
    | with_reducible apply x_idx
    | with_reducible apply x_b1
    | with_reducible apply x_lc
    | with_reducible apply x_lcf
    | with_reducible apply x_cmp
    | with_reducible exact ev_cb
    | with_reducible exact ev_cn
    | with_reducible exact ev_cs
    | with_reducible exact ev_sizes
    | with_reducible exact ev_fv
    | with_reducible apply x_chain
    | with_reducible apply w_neg
    | with_reducible apply w_not
    | with_reducible apply w_and
    | with_reducible apply w_or
    | with_reducible apply w_ife
    | with_reducible apply w_b2
    | with_reducible apply w_m1
    | with_reducible apply w_isi
    | with_reducible apply w_tup
    | with_reducible apply w_lst
    | with_reducible apply w_sl)
  | (guard_target = TF _ _ _ _; first | with_reducible apply tf_or | with_reducible apply tf_not | with_reducible apply tf_neW | with_reducible apply tf_isnotW | with_reducible apply tf_ofW)
  | (guard_target = TT _ _ _ _; first | with_reducible apply tt_and | with_reducible apply tt_not | with_reducible apply tt_eqW | with_reducible apply tt_isW | with_reducible apply tt_ofW)
  | (guard_target = SameV _ _; first | with_reducible apply sv_int | with_reducible apply sv_tup | with_reducible apply sv_lst | with_reducible apply sv_tv | with_reducible apply sv_bl | with_reducible apply sv_blv | apply sv_lst | apply sv_tv | apply sv_tup)
  | (guard_target = callN _ _ _ _ _ = _; sizeOf_list_dec)
  | (guard_target = evs _ _ _ _ = _; first | with_reducible exact w_nil | with_reducible apply w_cons)
  | (guard_target = evi _ _ _ _ = _; first | with_reducible apply w_range | with_reducible apply x_over | with_reducible apply x_zip | with_reducible apply x_enum)
  | (guard_target = evo _ _ _ _ = _; first | with_reducible exact w_on | with_reducible apply w_os)
  | (guard_target = bo _ _ _ = _; first
    | with_reducible exact xd_add | with_reducible exact xd_sub
    | with_reducible exact xd_modN (by omega) | with_reducible exact xd_divN (by omega) | with_reducible exact xd_mod (by omega) | with_reducible exact xd_div (by omega)
    | with_reducible exact xd_mulL (by unfold Small; omega) | with_reducible exact xd_mulR (by unfold Small; omega)
    | with_reducible exact xd_addL (by array_mem_dec) | with_reducible exact xd_addT (by array_mem_dec) | with_reducible exact xd_addLT (by array_mem_dec) | with_reducible apply xd_mulT | with_reducible apply xd_mulT'
    | with_reducible apply xd_mulL
    | exact x_modN (by omega) | exact x_divN (by omega) | exact x_div (by omega) | exact x_mod (by omega) | exact x_add | exact x_sub | exact x_addL (by array_mem_dec) | exact x_addT (by array_mem_dec) | exact x_addLT (by array_mem_dec) | apply x_mulT)
  | (guard_target = co _ _ _ = _; first
    | with_reducible exact xd_eqI | with_reducible exact xd_neI | with_reducible exact xd_lt | with_reducible exact xd_le | with_reducible exact xd_gt | with_reducible exact xd_ge
    | with_reducible exact xd_in | with_reducible exact xd_notin | with_reducible exact xd_inT | with_reducible exact xd_notinT
    | with_reducible exact xd_eqT | with_reducible exact xd_neT | with_reducible exact xd_eqL | with_reducible exact xd_neL | with_reducible exact xd_eqB | with_reducible exact xd_neB | with_reducible exact xd_isB | with_reducible exact xd_isnotB
    | exact x_in | exact x_notin | exact x_inT | exact x_notinT | exact x_eqT | exact x_neT | exact x_eqL | exact x_neL)
  | (guard_target = oix _ _ = _; first | apply x_sgn | with_reducible apply xd_ixT | with_reducible apply xd_ixL | with_reducible apply xd_ixTv | apply x_ixT | apply x_ixL | apply x_ixTv | with_reducible refine xd_ixT' ?_ | with_reducible refine xd_ixL' ?_)
  | (guard_target = o1 _ _ = _; first
    | with_reducible exact xd_lenM | with_reducible exact xd_len | with_reducible exact xd_lenT | with_reducible exact xd_lenTv | with_reducible exact xd_tuple | with_reducible exact xd_list | with_reducible exact xd_sum | with_reducible exact xd_sumT | with_reducible exact xd_all
    | with_reducible apply xd_max | with_reducible apply xd_maxT | with_reducible apply xd_min | with_reducible apply xd_minT | with_reducible apply xd_sorted | with_reducible exact xd_lenV | with_reducible exact xd_listL | with_reducible exact xd_tupleT
    | exact x_tuple | exact x_len | exact x_lenTv | exact x_sum | apply x_max | apply x_min | apply x_sorted)
  | (guard_target = ovr _ _ = _; first | with_reducible exact x_overL | with_reducible exact x_overT | with_reducible exact x_overTv | with_reducible exact x_overV | with_reducible exact x_overVT)
  | (guard_target = zpo _ _ = _; first | with_reducible apply x_zipTT | with_reducible apply x_zipLL | with_reducible apply x_zipTL)
  | (guard_target = eno _ _ = _; first | with_reducible exact x_enumT | with_reducible exact x_enumL)
  | (guard_target = Val.lst _ = _; first
    | with_reducible exact cv_id | with_reducible exact cv_int | with_reducible exact cv_bl | with_reducible exact cv_tid | with_reducible exact cv_tup
    | with_reducible exact cv_l0 | with_reducible exact cv_l1 | with_reducible exact cv_l2 | with_reducible exact cv_l3 | with_reducible exact cv_l4 | with_reducible exact cv_l5 | with_reducible exact cv_lt1 | with_reducible exact cv_lt2 | exact cv_int | exact rfl)
  | (guard_target = Val.tup _ = _; first | with_reducible exact cv_t0 | with_reducible exact cv_t1 | with_reducible exact cv_t2 | with_reducible exact cv_t3 | with_reducible exact cv_t4 | with_reducible exact cv_t8 | exact rfl)
  | (guard_target = ∀ _, setAll _ _ _ = _; intro a; bv_omega)
  | (intro a ha; guard_target = Val.pure _ = _; exact rfl)
  | with_reducible exact cv_iteI | with_reducible exact cv_iteT | with_reducible exact cv_iteL | with_reducible exact cv_iteB
  | ((fail_if_success (guard_target = ev _ _ _ _ = _)); exact rfl)
  | exact castS
  | exact idp (by assumption)
  | exact isF_size (by assumption)
  | exact isF_ne (by assumption)
  | exact wave_ne (by assumption)
  | exact wave_ne (isF_size (by assumption))
  | (intro a ha; (with_reducible replace ha := List.mem_range.mp ha); intro s)
  | intro _
  | array_mem_dec)
theorem c_odd (hm : m < 16) (hp : p < 16) (h_l_bits_in : T .l_bits_in = some D.law_bits_in := by first | assumption | rfl) (h_l_odd : T .l_odd = some D.law_odd := by first | assumption | rfl) : callN T (k + 2) .l_odd [.int (m : Nat), .int (p : Nat)] st = .ok (.int (oddN m p : Nat)) st := by
  rw [odd_ok h_l_bits_in h_l_odd, odd_tab m hm p hp]
theorem c_cross (hm : m < 16) (hp : p < 16) (h_l_bits_in : T .l_bits_in = some D.law_bits_in := by first | assumption | rfl) (h_l_cross : T .l_cross = some D.law_cross := by first | assumption | rfl) : callN T (k + 2) .l_cross [.int (m : Nat), .int (p : Nat)] st = .ok (.int ((m ^^^ p : Nat) : Int)) st := by
  rw [cross_ok h_l_bits_in h_l_cross, cross_tab m hm p hp]
theorem c_bits {p : Int} (h_l_bits_in : T .l_bits_in = some D.law_bits_in := by first | assumption | rfl) : callN T (k + 1) .l_bits_in [.int p] st = .ok (.lst (iv (bitsI p))) st := bits_ok h_l_bits_in p
theorem c_bit_count (hm : m < 16) (h_bit_count : T .bit_count = some D.bit_count := by first | assumption | rfl) : callN T (k + 1) .bit_count [.int (m : Nat)] st = .ok (.int (bitN m : Nat)) st := bit_ok h_bit_count hm
theorem c_common (hm : m < 16) (hp : p < 16) (h_common : T .common = some D.common := by first | assumption | rfl) : callN T (k + 1) .common [.int (m : Nat), .int (p : Nat)] st = .ok (.int ((m &&& p : Nat) : Int)) st := com_ok h_common hm hp
theorem c_exclusive (hm : m < 16) (hp : p < 16) (h_common : T .common = some D.common := by first | assumption | rfl) (h_exclusive : T .exclusive = some D.exclusive := by first | assumption | rfl) : callN T (k + 2) .exclusive [.int (m : Nat), .int (p : Nat)] st = .ok (.int ((m ^^^ p : Nat) : Int)) st := exc_ok h_common h_exclusive hm hp
theorem and_lt16 : ∀ m < 16, ∀ p < 16, m &&& p < 16 := by decide +kernel
local macro_rules | `(tactic| sizeOf_list_dec) => `(tactic| first | apply c_odd | apply c_cross | apply c_bits | apply c_bit_count | apply c_common | apply c_exclusive)
def straightL (n m : Nat) : List Int := (List.range n).map fun p => ((oddN m p : Nat) : Int)
theorem straight_len : (straightL n m).length = n := by simp [straightL]
theorem c_straight (hn : n ≤ 16) (hm : m < 16) (h_bit_count : T .bit_count = some D.bit_count := by first | assumption | rfl) (h_common : T .common = some D.common := by first | assumption | rfl) (h_straight : T .straight = some D.straight := by first | assumption | rfl) : callN T (k + 2) .straight [.int (n : Nat), .int (m : Nat)] st = .ok (.tup (iv (straightL n m))) st := by
  refine call_as (d := D.straight) h_straight rfl rfl (q_ret (v := .tup (iv ((List.range n).map fun p => ((bitN (p &&& m) : Nat) : Int) % 2))) ?_) ?_
  · array_get_dec
    exact and_lt16 _ (by omega) _ hm
  · congr 2
    apply List.map_congr_left
    intro p hp
    rw [odd_com, oddN]
    omega
/-! functions or not -/
def plainV : Val → Bool
  | .slst _ => false
  | .fn _ => false
  | .box _ => false
  | _ => true
def isIntV (lo hi : Int) : Val → Bool
  | .int i => decide (lo ≤ i) && decide (i ≤ hi)
  | _ => false
theorem c_is_integerV {v : Val} {lo hi : Int} (hv : plainV v = true) (h_is_integer : T .is_integer = some D.is_integer := by first | assumption | rfl) : callN T (k + 1) .is_integer [v, .int lo, .int hi] st = .ok (.bl (isIntV lo hi v)) st := by
  cases v with
  | int i => exact is_integer_ok h_is_integer i lo hi
  | slst => cases hv
  | fn => cases hv
  | box => cases hv
  | bl b =>
    refine call_as (d := D.is_integer) h_is_integer rfl rfl (q_ret (v := .bl (true && (!true && true))) ?_) rfl
    refine w_and (w_isi (w_var rfl) rfl) fun _ => w_and (w_not (w_isi (w_var rfl) rfl)) fun h => by cases h
  | non =>
    refine call_as (d := D.is_integer) h_is_integer rfl rfl (q_ret (v := .bl (false && true)) ?_) rfl
    refine w_and (w_isi (w_var rfl) rfl) fun h => by cases h
  | str s =>
    refine call_as (d := D.is_integer) h_is_integer rfl rfl (q_ret (v := .bl (false && true)) ?_) rfl
    refine w_and (w_isi (w_var rfl) rfl) fun h => by cases h
  | tup s =>
    refine call_as (d := D.is_integer) h_is_integer rfl rfl (q_ret (v := .bl (false && true)) ?_) rfl
    refine w_and (w_isi (w_var rfl) rfl) fun h => by cases h
  | lst s =>
    refine call_as (d := D.is_integer) h_is_integer rfl rfl (q_ret (v := .bl (false && true)) ?_) rfl
    refine w_and (w_isi (w_var rfl) rfl) fun h => by cases h
theorem c_is_integer {i lo hi : Int} (h_is_integer : T .is_integer = some D.is_integer := by first | assumption | rfl) : callN T (k + 1) .is_integer [.int i, .int lo, .int hi] st = .ok (.bl (decide (lo ≤ i) && decide (i ≤ hi))) st := is_integer_ok h_is_integer i lo hi
def isFV : Val → Bool
  | .tup vs => decide (vs.length = 2 ∨ vs.length = 4 ∨ vs.length = 8 ∨ vs.length = 16) && vs.all (isIntV 0 1)
  | _ => false
def plainF : Val → Bool
  | .tup vs => vs.all plainV
  | v => plainV v
theorem size_notin (n : Nat) : cmpop .notin (.int (n : Nat)) (.tup [.int 2, .int 4, .int 8, .int 16]) = some (!decide (n = 2 ∨ n = 4 ∨ n = 8 ∨ n = 16)) := by
  have := o_notinT (i := (n : Nat)) (xs := [2, 4, 8, 16])
  refine Eq.trans this ?_
  congr 2
  simp only [List.any_cons, List.any_nil, Bool.or_false]
  rw [Bool.eq_iff_iff]
  simp only [Bool.or_eq_true, beq_iff_eq, decide_eq_true_eq]
  omega
theorem c_is_functionV {v : Val} (hv : plainF v = true) (hl : ∀ vs, v = .tup vs → vs.length ≤ 1000) (h_is_integer : T .is_integer = some D.is_integer := by first | assumption | rfl) (h_is_function : T .is_function = some D.is_function := by first | assumption | rfl) : callN T (k + 2) .is_function [v] st = .ok (.bl (isFV v)) st := by
  have other : ∀ w : Val, isTy st w .tuple = some false → callN T (k + 2) .is_function [w] st = .ok (.bl false) st := fun w hw => by
    refine call_ret (d := D.is_function) h_is_function rfl rfl (q_ifT (st1 := st) (R1 := .ret (.bl false) st) ?_ (q_ret ev_cb) rfl)
    exact (tt_or (tt_not ⟨w_isi (w_var rfl) hw⟩)).h
  cases v with
  | slst => cases hv
  | fn => cases hv
  | box => cases hv
  | non => exact other _ rfl
  | bl => exact other _ rfl
  | int => exact other _ rfl
  | str => exact other _ rfl
  | lst => exact other _ rfl
  | tup vs =>
    have hn := size_notin vs.length
    have hl := hl vs rfl
    by_cases hs : vs.length = 2 ∨ vs.length = 4 ∨ vs.length = 8 ∨ vs.length = 16
    · have e : isFV (.tup vs) = (vs.map (isIntV 0 1)).all id := by
        simp only [isFV, hs, decide_true, Bool.true_and, List.all_map]
        rfl
      rw [e]
      refine call_ret (d := D.is_function) h_is_function rfl rfl (q_skip (tf_or (tf_not ⟨w_isi (w_var rfl) rfl⟩) ⟨?_⟩) (q_ret ?_))
      · refine w_cmp (w_b1 (w_var rfl) rfl) ev_sizes ?_
        simp only [hs, decide_true, Bool.not_true] at hn
        exact hn
      · refine w_b1 (w_lc (l := vs) (en := fun x => [x]) (gg := fun v => .bl (isIntV 0 1 v)) (w_over (w_var rfl) rfl) hl ?_ (fun _ _ => rfl) cv_bl) o_all
        intro a ha s
        have := List.all_eq_true.mp hv a ha
        exact w_call (w_cons (w_var rfl) (w_cons ev_ci (w_cons ev_ci w_nil))) (c_is_integerV this)
    · have e : isFV (.tup vs) = false := by simp [isFV, hs]
      rw [e]
      refine call_ret (d := D.is_function) h_is_function rfl rfl (q_ifT (st1 := st) (R1 := .ret (.bl false) st) ?_ (q_ret ev_cb) rfl)
      have : ev (callN T (k + 1)) (.or (.not (.isi (.var 0) .tuple)) (.cmp .notin (.b1 .len (.var 0)) .sizes)) [some (.tup vs), none] st = .ok (.bl (!true || true)) st := by
        refine w_or (w_not (w_isi (w_var rfl) rfl)) fun _ => ?_
        refine w_cmp (w_b1 (w_var rfl) rfl) ev_sizes ?_
        simp only [hs, decide_false, Bool.not_false] at hn
        exact hn
      exact this
theorem c_check_bad {v : Val} (hv : plainF v = true) (hl : ∀ vs, v = .tup vs → vs.length ≤ 1000) (hf : isFV v = false) (h_is_integer : T .is_integer = some D.is_integer := by first | assumption | rfl) (h_is_function : T .is_function = some D.is_function := by first | assumption | rfl) (h_check_function : T .check_function = some D.check_function := by first | assumption | rfl) : callN T (k + 3) .check_function [v] st = .exc 0 st := by
  refine call_exc (d := D.check_function) (st1 := st) h_check_function rfl (q_ifT (st1 := st) (R1 := .exc 0 st) ?_ q_raise rfl) (by simp)
  have h := c_is_functionV (T := T) (k := k) (st := st) hv hl
  rw [hf] at h
  exact (tt_not ⟨w_call (w_cons (w_var rfl) w_nil) h⟩).h
theorem c_is_function (h : IsF xs) (h_is_integer : T .is_integer = some D.is_integer := by first | assumption | rfl) (h_is_function : T .is_function = some D.is_function := by first | assumption | rfl) : callN T (k + 2) .is_function [.tup (iv xs)] st = .ok (.bl true) st := is_function_ok h_is_integer h_is_function h
theorem c_check (h : IsF xs) (h_is_integer : T .is_integer = some D.is_integer := by first | assumption | rfl) (h_is_function : T .is_function = some D.is_function := by first | assumption | rfl) (h_check_function : T .check_function = some D.check_function := by first | assumption | rfl) : callN T (k + 3) .check_function [.tup (iv xs)] st = .ok .non st := check_function_ok h_is_integer h_is_function h_check_function h
theorem c_check_mask (h : m < n) (h_is_integer : T .is_integer = some D.is_integer := by first | assumption | rfl) (h_check_mask : T .check_mask = some D.check_mask := by first | assumption | rfl) : callN T (k + 2) .check_mask [.int (m : Nat), .int (n : Nat)] st = .ok .non st := by
  refine call_next (d := D.check_mask) h_check_mask rfl rfl (q_skip (tf_not (tt_of (t := decide ((0 : Int) ≤ (m : Nat)) && decide (((m : Nat) : Int) ≤ (n : Nat) - 1)) ?_ ?_)) q_nil)
  · exact w_call (w_cons (w_var rfl) (w_cons ev_ci (w_cons (w_bin (w_var rfl) ev_ci rfl) w_nil))) c_is_integer
  · simp; omega
theorem c_check_mask_bad {v : Val} (hv : plainV v = true) (h : isIntV 0 (n - 1) v = false) (h_is_integer : T .is_integer = some D.is_integer := by first | assumption | rfl) (h_check_mask : T .check_mask = some D.check_mask := by first | assumption | rfl) : callN T (k + 2) .check_mask [v, .int (n : Nat)] st = .exc 3 st := by
  refine call_exc (d := D.check_mask) (st1 := st) h_check_mask rfl (q_ifT (st1 := st) (R1 := .exc 3 st) ?_ q_raise rfl) (by simp)
  have h1 := c_is_integerV (T := T) (k := k) (st := st) (lo := 0) (hi := (n : Nat) - 1) hv
  rw [h] at h1
  exact (tt_not ⟨w_call (w_cons (w_var rfl) (w_cons ev_ci (w_cons (w_bin (w_var rfl) ev_ci rfl) w_nil))) h1⟩).h
local macro_rules | `(tactic| sizeOf_list_dec) => `(tactic| first | apply c_straight | apply c_is_integer | apply c_is_function | apply c_check | apply c_check_mask)
end
end Sw
end

section
/-! SwT2: distances, waves, gaps. -/
namespace Sw
open PySem (Str)
section
variable {T : Fn → Option FDef} {k : Nat} {st : Store} {xs ys : List Int} {i j m n p : Nat}
local macro_rules | `(tactic| bv_omega) => `(tactic| first | (simp only [setAll, wipeAll, List.set_cons_succ, List.set_cons_zero]; exact rfl) | exact rfl)
local macro_rules | `(tactic| array_mem_dec) => `(tactic| first
  | exact idp (by assumption)
  | omega
  | (refine ⟨?_, ?_⟩ <;> omega)
  | exact b_range (by omega)
  | exact b_map (b_range (by omega))
  | exact b_map (by omega)
  | exact b_filter (by omega)
  | exact b_filter (b_range (by omega))
  | exact isF_size (by assumption)
  | exact isF_ne (by assumption)
  | exact wave_ne (by assumption)
  | exact wave_ne (isF_size (by assumption))
  | (simp only [List.length_map, List.length_range, List.length_cons, List.length_nil, List.length_append, rep_len]; omega)
  | (simp only [List.length_cons, List.length_nil, rep_len]; decide)
  | (refine ⟨?_, ?_⟩ <;> (simp only [List.length_cons, List.length_nil, rep_len]; decide))
  | fail)
local macro_rules | `(tactic| array_get_dec) => `(tactic| repeat' first
  | (guard_target = ev _ _ _ _ = _; first
    | ((with_reducible apply w_var); exact rfl)
    | with_reducible exact ev_ci
    | with_reducible apply w_call
    | with_reducible apply x_bin
    | with_reducible apply x_idx
    | with_reducible apply x_b1
    | with_reducible apply x_lc
    | with_reducible apply x_lcf
    | with_reducible apply x_cmp
    | with_reducible exact ev_cb
    | with_reducible exact ev_cn
    | with_reducible exact ev_cs
    | with_reducible exact ev_sizes
    | with_reducible exact ev_fv
    | with_reducible apply x_chain
    | with_reducible apply w_neg
    | with_reducible apply w_not
    | with_reducible apply w_and
    | with_reducible apply w_or
    | with_reducible apply w_ife
    | with_reducible apply w_b2
    | with_reducible apply w_m1
    | with_reducible apply w_isi
    | with_reducible apply w_tup
    | with_reducible apply w_lst
    | with_reducible apply w_sl)
  | (guard_target = TF _ _ _ _; first | with_reducible apply tf_or | with_reducible apply tf_not | with_reducible apply tf_neW | with_reducible apply tf_isnotW | with_reducible apply tf_ofW)
  | (guard_target = TT _ _ _ _; first | with_reducible apply tt_and | with_reducible apply tt_not | with_reducible apply tt_eqW | with_reducible apply tt_isW | with_reducible apply tt_ofW)
  | (guard_target = SameV _ _; first | with_reducible apply sv_int | with_reducible apply sv_tup | with_reducible apply sv_lst | with_reducible apply sv_tv | with_reducible apply sv_bl | with_reducible apply sv_blv | apply sv_lst | apply sv_tv | apply sv_tup)
  | (guard_target = callN _ _ _ _ _ = _; sizeOf_list_dec)
  | (guard_target = evs _ _ _ _ = _; first | with_reducible exact w_nil | with_reducible apply w_cons)
  | (guard_target = evi _ _ _ _ = _; first | with_reducible apply w_range | with_reducible apply x_over | with_reducible apply x_zip | with_reducible apply x_enum)
  | (guard_target = evo _ _ _ _ = _; first | with_reducible exact w_on | with_reducible apply w_os)
  | (guard_target = bo _ _ _ = _; first
    | with_reducible exact xd_add | with_reducible exact xd_sub
    | with_reducible exact xd_modN (by omega) | with_reducible exact xd_divN (by omega) | with_reducible exact xd_mod (by omega) | with_reducible exact xd_div (by omega)
    | with_reducible exact xd_mulL (by unfold Small; omega) | with_reducible exact xd_mulR (by unfold Small; omega)
    | with_reducible exact xd_addL (by array_mem_dec) | with_reducible exact xd_addT (by array_mem_dec) | with_reducible exact xd_addLT (by array_mem_dec) | with_reducible apply xd_mulT | with_reducible apply xd_mulT'
    | with_reducible apply xd_mulL
    | exact x_modN (by omega) | exact x_divN (by omega) | exact x_div (by omega) | exact x_mod (by omega) | exact x_add | exact x_sub | exact x_addL (by array_mem_dec) | exact x_addT (by array_mem_dec) | exact x_addLT (by array_mem_dec) | apply x_mulT)
  | (guard_target = co _ _ _ = _; first
    | with_reducible exact xd_eqI | with_reducible exact xd_neI | with_reducible exact xd_lt | with_reducible exact xd_le | with_reducible exact xd_gt | with_reducible exact xd_ge
    | with_reducible exact xd_in | with_reducible exact xd_notin | with_reducible exact xd_inT | with_reducible exact xd_notinT
    | with_reducible exact xd_eqT | with_reducible exact xd_neT | with_reducible exact xd_eqL | with_reducible exact xd_neL | with_reducible exact xd_eqB | with_reducible exact xd_neB | with_reducible exact xd_isB | with_reducible exact xd_isnotB
    | exact x_in | exact x_notin | exact x_inT | exact x_notinT | exact x_eqT | exact x_neT | exact x_eqL | exact x_neL)
  | (guard_target = oix _ _ = _; first | apply x_sgn | with_reducible apply xd_ixT | with_reducible apply xd_ixL | with_reducible apply xd_ixTv | apply x_ixT | apply x_ixL | apply x_ixTv | with_reducible refine xd_ixT' ?_ | with_reducible refine xd_ixL' ?_)
  | (guard_target = o1 _ _ = _; first
    | with_reducible exact xd_lenM | with_reducible exact xd_len | with_reducible exact xd_lenT | with_reducible exact xd_lenTv | with_reducible exact xd_tuple | with_reducible exact xd_list | with_reducible exact xd_sum | with_reducible exact xd_sumT | with_reducible exact xd_all
    | with_reducible apply xd_max | with_reducible apply xd_maxT | with_reducible apply xd_min | with_reducible apply xd_minT | with_reducible apply xd_sorted | with_reducible exact xd_lenV | with_reducible exact xd_listL | with_reducible exact xd_tupleT
    | exact x_tuple | exact x_len | exact x_lenTv | exact x_sum | apply x_max | apply x_min | apply x_sorted)
  | (guard_target = ovr _ _ = _; first | with_reducible exact x_overL | with_reducible exact x_overT | with_reducible exact x_overTv | with_reducible exact x_overV | with_reducible exact x_overVT)
  | (guard_target = zpo _ _ = _; first | with_reducible apply x_zipTT | with_reducible apply x_zipLL | with_reducible apply x_zipTL)
  | (guard_target = eno _ _ = _; first | with_reducible exact x_enumT | with_reducible exact x_enumL)
  | (guard_target = Val.lst _ = _; first
    | with_reducible exact cv_id | with_reducible exact cv_int | with_reducible exact cv_bl | with_reducible exact cv_tid | with_reducible exact cv_tup
    | with_reducible exact cv_l0 | with_reducible exact cv_l1 | with_reducible exact cv_l2 | with_reducible exact cv_l3 | with_reducible exact cv_l4 | with_reducible exact cv_l5 | with_reducible exact cv_lt1 | with_reducible exact cv_lt2 | exact cv_int | exact rfl)
  | (guard_target = Val.tup _ = _; first | with_reducible exact cv_t0 | with_reducible exact cv_t1 | with_reducible exact cv_t2 | with_reducible exact cv_t3 | with_reducible exact cv_t4 | with_reducible exact cv_t8 | exact rfl)
  | (guard_target = ∀ _, setAll _ _ _ = _; intro a; bv_omega)
  | (intro a ha; guard_target = Val.pure _ = _; exact rfl)
  | with_reducible exact cv_iteI | with_reducible exact cv_iteT | with_reducible exact cv_iteL | with_reducible exact cv_iteB
  | ((fail_if_success (guard_target = ev _ _ _ _ = _)); exact rfl)
  | exact castS
  | exact idp (by assumption)
  | exact isF_size (by assumption)
  | exact isF_ne (by assumption)
  | exact wave_ne (by assumption)
  | exact wave_ne (isF_size (by assumption))
  | (intro a ha; (with_reducible replace ha := List.mem_range.mp ha); intro s)
  | intro _
  | array_mem_dec)
local macro_rules | `(tactic| sizeOf_list_dec) => `(tactic| first | apply c_odd | apply c_cross | apply c_bits | apply c_bit_count | apply c_common | apply c_exclusive)
local macro_rules | `(tactic| sizeOf_list_dec) => `(tactic| first | apply c_straight | apply c_is_integer | apply c_is_function | apply c_check | apply c_check_mask)
theorem isF_len (h : IsF xs) : xs.length ≤ 16 := len_ok h.1
theorem c_apart (hx : xs.length ≤ 16) (h_apart : T .apart = some D.apart := by first | assumption | rfl) : callN T (k + 1) .apart [.tup (iv xs), .tup (iv ys)] st = .ok (.int (apartL xs ys : Nat)) st := apart_ok h_apart (by omega)
def alikeL (xs ys : List Int) : Int := xs.length - 2 * (apartL xs ys : Nat)
theorem c_alike (hx : xs.length ≤ 16) (h_apart : T .apart = some D.apart := by first | assumption | rfl) (h_alike : T .alike = some D.alike := by first | assumption | rfl) : callN T (k + 2) .alike [.tup (iv xs), .tup (iv ys)] st = .ok (.int (alikeL xs ys)) st := alike_ok h_apart h_alike (by omega)
theorem c_check_two (h1 : IsF xs) (h2 : IsF ys) (h3 : xs.length = ys.length) (h_is_integer : T .is_integer = some D.is_integer := by first | assumption | rfl) (h_is_function : T .is_function = some D.is_function := by first | assumption | rfl) (h_check_function : T .check_function = some D.check_function := by first | assumption | rfl) (h_check_two : T .check_two = some D.check_two := by first | assumption | rfl) : callN T (k + 4) .check_two [.tup (iv xs), .tup (iv ys)] st = .ok .non st := by
  refine call_next (d := D.check_two) h_check_two rfl rfl (q_expr (v := .non) (st1 := st) ?_ (q_expr (v := .non) (st1 := st) ?_ (q_skip (tf_of (t := !(((xs.length : Nat) : Int) == ((ys.length : Nat) : Int))) ?_ ?_) q_nil)))
  · array_get_dec
  · array_get_dec
  · array_get_dec
  · simp [h3]
theorem c_distance (h1 : IsF xs) (h2 : IsF ys) (h3 : xs.length = ys.length) (h_is_integer : T .is_integer = some D.is_integer := by first | assumption | rfl) (h_is_function : T .is_function = some D.is_function := by first | assumption | rfl) (h_check_function : T .check_function = some D.check_function := by first | assumption | rfl) (h_check_two : T .check_two = some D.check_two := by first | assumption | rfl) (h_apart : T .apart = some D.apart := by first | assumption | rfl) (h_distance : T .distance = some D.distance := by first | assumption | rfl) : callN T (k + 5) .distance [.tup (iv xs), .tup (iv ys)] st = .ok (.int (apartL xs ys : Nat)) st := by
  refine call_ret (d := D.distance) h_distance rfl rfl (q_expr (v := .non) (st1 := st) ?_ (q_ret ?_))
  · exact w_call (w_cons (w_var rfl) (w_cons (w_var rfl) w_nil)) (c_check_two h1 h2 h3)
  · exact w_call (w_cons (w_var rfl) (w_cons (w_var rfl) w_nil)) (c_apart (isF_len h1))
theorem c_likeness (h1 : IsF xs) (h2 : IsF ys) (h3 : xs.length = ys.length) (h_is_integer : T .is_integer = some D.is_integer := by first | assumption | rfl) (h_is_function : T .is_function = some D.is_function := by first | assumption | rfl) (h_check_function : T .check_function = some D.check_function := by first | assumption | rfl) (h_check_two : T .check_two = some D.check_two := by first | assumption | rfl) (h_apart : T .apart = some D.apart := by first | assumption | rfl) (h_alike : T .alike = some D.alike := by first | assumption | rfl) (h_likeness : T .likeness = some D.likeness := by first | assumption | rfl) : callN T (k + 5) .likeness [.tup (iv xs), .tup (iv ys)] st = .ok (.int (alikeL xs ys)) st := by
  refine call_ret (d := D.likeness) h_likeness rfl rfl (q_expr (v := .non) (st1 := st) ?_ (q_ret ?_))
  · exact w_call (w_cons (w_var rfl) (w_cons (w_var rfl) w_nil)) (c_check_two h1 h2 h3)
  · exact w_call (w_cons (w_var rfl) (w_cons (w_var rfl) w_nil)) (c_alike (isF_len h1))
/-! waves -/
theorem c_spread (h : xs.length = 2 ^ n) (hn : n ≤ 4) (h_spread : T .spread = some D.spread := by first | assumption | rfl) : callN T (k + 5) .spread [.lst (iv xs)] st = .ok (.lst (iv (spreadL n xs))) st := by
  have := spread_ok (T := T) h_spread n (k + 4 - n) xs st h (by omega)
  rwa [show k + 4 - n + n + 1 = k + 5 by omega] at this
theorem c_wave_of (h : SizeOk xs.length) (h_spread : T .spread = some D.spread := by first | assumption | rfl) (h_wave_of : T .wave_of = some D.wave_of := by first | assumption | rfl) : callN T (k + 6) .wave_of [.tup (iv xs)] st = .ok (.tup (iv (waveL xs))) st := wave_of_ok h_spread h_wave_of h
theorem c_wave (h : IsF xs) (h_is_integer : T .is_integer = some D.is_integer := by first | assumption | rfl) (h_is_function : T .is_function = some D.is_function := by first | assumption | rfl) (h_check_function : T .check_function = some D.check_function := by first | assumption | rfl) (h_spread : T .spread = some D.spread := by first | assumption | rfl) (h_wave_of : T .wave_of = some D.wave_of := by first | assumption | rfl) (h_wave : T .wave = some D.wave := by first | assumption | rfl) : callN T (k + 7) .wave [.tup (iv xs)] st = .ok (.tup (iv (waveL xs))) st := wave_ok h_is_integer h_is_function h_check_function h_spread h_wave_of h_wave h
def heightL (xs : List Int) : Int := if 0 - minL xs > maxL xs then 0 - minL xs else maxL xs
theorem c_height (h : xs ≠ []) (h_height : T .height = some D.height := by first | assumption | rfl) : callN T (k + 1) .height [.tup (iv xs)] st = .ok (.int (heightL xs)) st := by
  refine call_ret (d := D.height) h_height rfl rfl (q_ret ?_)
  array_get_dec
local macro_rules | `(tactic| sizeOf_list_dec) => `(tactic| first | apply c_apart | apply c_alike | apply c_distance | apply c_likeness | apply c_wave_of | apply c_wave | apply c_height)
def gapL (xs : List Int) : Int := ((xs.length : Int) - heightL (waveL xs)) / 2
theorem c_gap_of (h : SizeOk xs.length) (h_spread : T .spread = some D.spread := by first | assumption | rfl) (h_wave_of : T .wave_of = some D.wave_of := by first | assumption | rfl) (h_height : T .height = some D.height := by first | assumption | rfl) (h_gap_of : T .gap_of = some D.gap_of := by first | assumption | rfl) : callN T (k + 7) .gap_of [.tup (iv xs)] st = .ok (.int (gapL xs)) st := by
  refine call_ret (d := D.gap_of) h_gap_of rfl rfl (q_ret ?_)
  array_get_dec
local macro_rules | `(tactic| sizeOf_list_dec) => `(tactic| first | apply c_gap_of)
theorem c_gap (h : IsF xs) (h_is_integer : T .is_integer = some D.is_integer := by first | assumption | rfl) (h_is_function : T .is_function = some D.is_function := by first | assumption | rfl) (h_check_function : T .check_function = some D.check_function := by first | assumption | rfl) (h_spread : T .spread = some D.spread := by first | assumption | rfl) (h_wave_of : T .wave_of = some D.wave_of := by first | assumption | rfl) (h_height : T .height = some D.height := by first | assumption | rfl) (h_gap_of : T .gap_of = some D.gap_of := by first | assumption | rfl) (h_gap : T .gap = some D.gap := by first | assumption | rfl) : callN T (k + 8) .gap [.tup (iv xs)] st = .ok (.int (gapL xs)) st := by
  refine call_ret (d := D.gap) h_gap rfl rfl (q_expr (v := .non) (st1 := st) ?_ (q_ret ?_))
  · array_get_dec
  · array_get_dec
def oppL (xs : List Int) : List Int := xs.map fun x => 1 - x
def strL (n : Nat) : List (List Int) := (List.range n).map (straightL n) ++ ((List.range n).map (straightL n)).map oppL
theorem straights_mem {t : List Int} (h : t ∈ (List.range n).map (straightL n)) : t.length = n := by
  obtain ⟨m, _, rfl⟩ := List.mem_map.mp h
  exact straight_len
theorem c_straight_functions (hn : n ≤ 16) (h_bit_count : T .bit_count = some D.bit_count := by first | assumption | rfl) (h_common : T .common = some D.common := by first | assumption | rfl) (h_straight : T .straight = some D.straight := by first | assumption | rfl) (h_straight_functions : T .straight_functions = some D.straight_functions := by first | assumption | rfl) : callN T (k + 3) .straight_functions [.int (n : Nat)] st = .ok (.lst (tv (strL n))) st := by
  refine call_ret (d := D.straight_functions) h_straight_functions rfl rfl (q_set (v := .lst (tv ((List.range n).map (straightL n)))) (st1 := st) ?_ (q_ret ?_))
  · array_get_dec
  · refine w_bin (w_var rfl) (y := .lst (tv (((List.range n).map (straightL n)).map oppL))) (st2 := st) ?_ (o_addLT (by simp; omega))
    refine w_lc (l := (List.range n).map (straightL n)) (en := fun x => [.tup (iv x)]) (gg := fun t => .tup (iv (oppL t))) (w_over (w_var rfl) o_overTv) (by simp; omega) ?_ (fun _ _ => rfl) cv_tup
    intro t ht s
    have hl := straights_mem ht
    array_get_dec
local macro_rules | `(tactic| sizeOf_list_dec) => `(tactic| first | apply c_straight_functions)
theorem oppL_len : (oppL xs).length = xs.length := by simp [oppL]
theorem strL_len {t : List Int} (h : t ∈ strL n) : t.length = n := by
  rcases List.mem_append.mp h with h | h
  · exact straights_mem h
  · obtain ⟨u, hu, rfl⟩ := List.mem_map.mp h
    rw [oppL_len]; exact straights_mem hu
def nearL (xs : List Int) : List (List Int) := sortL ((strL xs.length).filter fun o => ((apartL xs o : Nat) : Int) == gapL xs)
theorem c_nearest (h : IsF xs) (h_is_integer : T .is_integer = some D.is_integer := by first | assumption | rfl) (h_is_function : T .is_function = some D.is_function := by first | assumption | rfl) (h_check_function : T .check_function = some D.check_function := by first | assumption | rfl) (h_bit_count : T .bit_count = some D.bit_count := by first | assumption | rfl) (h_common : T .common = some D.common := by first | assumption | rfl) (h_straight : T .straight = some D.straight := by first | assumption | rfl) (h_apart : T .apart = some D.apart := by first | assumption | rfl) (h_spread : T .spread = some D.spread := by first | assumption | rfl) (h_wave_of : T .wave_of = some D.wave_of := by first | assumption | rfl) (h_height : T .height = some D.height := by first | assumption | rfl) (h_gap_of : T .gap_of = some D.gap_of := by first | assumption | rfl) (h_straight_functions : T .straight_functions = some D.straight_functions := by first | assumption | rfl) (h_nearest : T .nearest = some D.nearest := by first | assumption | rfl) : callN T (k + 8) .nearest [.tup (iv xs)] st = .ok (.lst (tv (nearL xs))) st := by
  have hn := isF_len h
  have h0 : 0 < xs.length := by rcases h.1 with e | e | e | e <;> omega
  refine call_ret (d := D.nearest) h_nearest rfl rfl (q_expr (v := .non) (st1 := st) ?_ (q_set (v := .int (gapL xs)) (st1 := st) ?_ (q_ret ?_)))
  · array_get_dec
  · array_get_dec
  · refine w_b1 (x := .lst (tv ((strL xs.length).filter fun o => ((apartL xs o : Nat) : Int) == gapL xs))) (st1 := st) ?_ (o_sorted ?_ ?_)
    · refine w_lcf (l := strL xs.length) (en := fun x => [.tup (iv x)]) (p := fun o => ((apartL xs o : Nat) : Int) == gapL xs) (gg := fun t => .tup (iv t)) ?_ (by simp [strL]; omega) ?_ ?_ (fun _ _ => rfl) cv_tid
      · exact w_over (w_call (w_cons (w_b1 (w_var rfl) o_lenT) w_nil) (c_straight_functions hn)) o_overTv
      · intro t ht s
        array_get_dec
      · intro t ht _ s
        exact w_var rfl
    · exact b_filter (by simp [strL]; omega)
    · intro t ht e
      have := strL_len (List.mem_filter.mp ht).1
      rw [e] at this
      simp at this
      omega
def evenB (xs : List Int) : Bool := ((waveL xs).map fun w => [(waveL xs).getD 0 0, 0 - (waveL xs).getD 0 0].any (· == w)).all id
theorem c_even (h : SizeOk xs.length) (h_spread : T .spread = some D.spread := by first | assumption | rfl) (h_wave_of : T .wave_of = some D.wave_of := by first | assumption | rfl) (h_even : T .even = some D.even := by first | assumption | rfl) : callN T (k + 7) .even [.tup (iv xs)] st = .ok (.bl (evenB xs)) st := by
  have hl := waveL_len h
  have hn := len_ok h
  have h0 : 0 < xs.length := by rcases h with e | e | e | e <;> omega
  have hi : opIx (.tup (iv (waveL xs))) (.int 0) = some (.int ((waveL xs).getD 0 0)) := o_ixT (i := 0) (by omega)
  refine call_ret (d := D.even) h_even rfl rfl (q_set (v := .tup (iv (waveL xs))) (st1 := st) ?_ (q_ret ?_))
  · array_get_dec
  · refine w_b1 (w_lc (l := waveL xs) (en := fun x => [.int x]) (gg := fun w => .bl ([(waveL xs).getD 0 0, 0 - (waveL xs).getD 0 0].any (· == w))) (w_over (w_var rfl) o_overT) (by omega) ?_ (fun _ _ => rfl) cv_bl) o_all
    intro w hw s
    refine w_cmp (w_var rfl) (w_tup (w_cons (w_idx (w_var rfl) ev_ci hi) (w_cons (w_bin ev_ci (w_idx (w_var rfl) ev_ci hi) rfl) w_nil)) rfl cv_t2) o_inT
local macro_rules | `(tactic| sizeOf_list_dec) => `(tactic| first | apply c_even)
theorem c_is_even (h : IsF xs) (h_is_integer : T .is_integer = some D.is_integer := by first | assumption | rfl) (h_is_function : T .is_function = some D.is_function := by first | assumption | rfl) (h_check_function : T .check_function = some D.check_function := by first | assumption | rfl) (h_spread : T .spread = some D.spread := by first | assumption | rfl) (h_wave_of : T .wave_of = some D.wave_of := by first | assumption | rfl) (h_even : T .even = some D.even := by first | assumption | rfl) (h_is_even : T .is_even = some D.is_even := by first | assumption | rfl) : callN T (k + 8) .is_even [.tup (iv xs)] st = .ok (.bl (evenB xs)) st := by
  refine call_ret (d := D.is_even) h_is_even rfl rfl (q_expr (v := .non) (st1 := st) ?_ (q_ret ?_))
  · array_get_dec
  · array_get_dec
def partL (xs : List Int) : List Int := (waveL xs).map fun w => if w < 0 then 1 else 0
theorem c_partner (h : IsF xs) (he : evenB xs = true) (h_is_integer : T .is_integer = some D.is_integer := by first | assumption | rfl) (h_is_function : T .is_function = some D.is_function := by first | assumption | rfl) (h_check_function : T .check_function = some D.check_function := by first | assumption | rfl) (h_spread : T .spread = some D.spread := by first | assumption | rfl) (h_wave_of : T .wave_of = some D.wave_of := by first | assumption | rfl) (h_even : T .even = some D.even := by first | assumption | rfl) (h_partner : T .partner = some D.partner := by first | assumption | rfl) : callN T (k + 8) .partner [.tup (iv xs)] st = .ok (.tup (iv (partL xs))) st := by
  have hl := waveL_len h.1
  have hn := isF_len h
  have h2 := c_even (T := T) (k := k) (st := st) h.1
  rw [he] at h2
  refine call_as (d := D.partner) h_partner rfl rfl (q_expr (v := .non) (st1 := st) ?_ (q_skip (tf_not ⟨w_call (w_cons (w_var rfl) w_nil) h2⟩) (q_ret ?_))) (v := .tup (iv ((waveL xs).map fun w => if decide (w < 0) = true then 1 else 0))) ?_
  · array_get_dec
  · array_get_dec
  · simp [partL]
theorem c_partner_bad (h : IsF xs) (he : evenB xs = false) (h_is_integer : T .is_integer = some D.is_integer := by first | assumption | rfl) (h_is_function : T .is_function = some D.is_function := by first | assumption | rfl) (h_check_function : T .check_function = some D.check_function := by first | assumption | rfl) (h_spread : T .spread = some D.spread := by first | assumption | rfl) (h_wave_of : T .wave_of = some D.wave_of := by first | assumption | rfl) (h_even : T .even = some D.even := by first | assumption | rfl) (h_partner : T .partner = some D.partner := by first | assumption | rfl) : callN T (k + 8) .partner [.tup (iv xs)] st = .exc 5 st := by
  have h2 := c_even (T := T) (k := k) (st := st) h.1
  rw [he] at h2
  refine call_exc (d := D.partner) (st1 := st) h_partner rfl (q_expr (v := .non) (st1 := st) ?_ (q_ifT (st1 := st) (R1 := .exc 5 st) (tt_not ⟨w_call (w_cons (w_var rfl) w_nil) h2⟩).h q_raise rfl)) (by simp)
  array_get_dec
/-! echoes -/
theorem c_moved (h : SizeOk xs.length) (hp : p < xs.length) (h_moved : T .moved = some D.moved := by first | assumption | rfl) (h_common : T .common = some D.common := by first | assumption | rfl) (h_exclusive : T .exclusive = some D.exclusive := by first | assumption | rfl) : callN T (k + 3) .moved [.tup (iv xs), .int (p : Nat)] st = .ok (.tup (iv (movedL xs p))) st := moved_ok h_common h_exclusive h_moved h hp
theorem c_echo (h : IsF xs) (h_moved : T .moved = some D.moved := by first | assumption | rfl) (h_echo : T .echo = some D.echo := by first | assumption | rfl) (h_is_integer : T .is_integer = some D.is_integer := by first | assumption | rfl) (h_is_function : T .is_function = some D.is_function := by first | assumption | rfl) (h_check_function : T .check_function = some D.check_function := by first | assumption | rfl) (h_common : T .common = some D.common := by first | assumption | rfl) (h_exclusive : T .exclusive = some D.exclusive := by first | assumption | rfl) (h_apart : T .apart = some D.apart := by first | assumption | rfl) (h_alike : T .alike = some D.alike := by first | assumption | rfl) : callN T (k + 4) .echo [.tup (iv xs)] st = .ok (.tup (iv (echoL xs))) st := by
  exact echo_ok (k := k) h_is_integer h_is_function h_check_function h_common h_exclusive h_moved h_apart h_alike h_echo h
end
end Sw
end

section
/-! SwT3: terms, quiet, changes. -/
namespace Sw
open PySem (Str)
/-- integers of places -/
def ni (l : List Nat) : List Int := l.map fun m : Nat => (m : Int)
@[simp] theorem ni_len (l : List Nat) : (ni l).length = l.length := by simp [ni]
section
variable {T : Fn → Option FDef} {k : Nat} {st : Store} {xs ys : List Int} {i j m n p : Nat}
local macro_rules | `(tactic| bv_omega) => `(tactic| first | (simp only [setAll, wipeAll, List.set_cons_succ, List.set_cons_zero]; exact rfl) | exact rfl)
local macro_rules | `(tactic| array_mem_dec) => `(tactic| first
  | exact idp (by assumption)
  | omega
  | (refine ⟨?_, ?_⟩ <;> omega)
  | exact b_range (by omega)
  | exact b_map (b_range (by omega))
  | exact b_map (by omega)
  | exact b_filter (by omega)
  | exact b_filter (b_range (by omega))
  | exact isF_size (by assumption)
  | exact isF_ne (by assumption)
  | exact wave_ne (by assumption)
  | exact wave_ne (isF_size (by assumption))
  | (simp only [List.length_map, List.length_range, List.length_cons, List.length_nil, List.length_append, rep_len]; omega)
  | (simp only [List.length_cons, List.length_nil, rep_len]; decide)
  | (refine ⟨?_, ?_⟩ <;> (simp only [List.length_cons, List.length_nil, rep_len]; decide))
  | fail)
local macro_rules | `(tactic| array_get_dec) => `(tactic| repeat' first
  | (guard_target = ev _ _ _ _ = _; first
    | ((with_reducible apply w_var); exact rfl)
    | with_reducible exact ev_ci
    | with_reducible apply w_call
    | with_reducible apply x_bin
    | with_reducible apply x_idx
    | with_reducible apply x_b1
    | with_reducible apply x_lc
    | with_reducible apply x_lcf
    | with_reducible apply x_cmp
    | with_reducible exact ev_cb
    | with_reducible exact ev_cn
    | with_reducible exact ev_cs
    | with_reducible exact ev_sizes
    | with_reducible exact ev_fv
    | with_reducible apply x_chain
    | with_reducible apply w_neg
    | with_reducible apply w_not
    | with_reducible apply w_and
    | with_reducible apply w_or
    | with_reducible apply w_ife
    | with_reducible apply w_b2
    | with_reducible apply w_m1
    | with_reducible apply w_isi
    | with_reducible apply w_tup
    | with_reducible apply w_lst
    | with_reducible apply w_sl)
  | (guard_target = TF _ _ _ _; first | with_reducible apply tf_or | with_reducible apply tf_not | with_reducible apply tf_neW | with_reducible apply tf_isnotW | with_reducible apply tf_ofW)
  | (guard_target = TT _ _ _ _; first | with_reducible apply tt_and | with_reducible apply tt_not | with_reducible apply tt_eqW | with_reducible apply tt_isW | with_reducible apply tt_ofW)
  | (guard_target = SameV _ _; first | with_reducible apply sv_int | with_reducible apply sv_tup | with_reducible apply sv_lst | with_reducible apply sv_tv | with_reducible apply sv_bl | with_reducible apply sv_blv | apply sv_lst | apply sv_tv | apply sv_tup)
  | (guard_target = callN _ _ _ _ _ = _; sizeOf_list_dec)
  | (guard_target = evs _ _ _ _ = _; first | with_reducible exact w_nil | with_reducible apply w_cons)
  | (guard_target = evi _ _ _ _ = _; first | with_reducible apply w_range | with_reducible apply x_over | with_reducible apply x_zip | with_reducible apply x_enum)
  | (guard_target = evo _ _ _ _ = _; first | with_reducible exact w_on | with_reducible apply w_os)
  | (guard_target = bo _ _ _ = _; first
    | with_reducible exact xd_add | with_reducible exact xd_sub
    | with_reducible exact xd_modN (by omega) | with_reducible exact xd_divN (by omega) | with_reducible exact xd_mod (by omega) | with_reducible exact xd_div (by omega)
    | with_reducible exact xd_mulL (by unfold Small; omega) | with_reducible exact xd_mulR (by unfold Small; omega)
    | with_reducible exact xd_addL (by array_mem_dec) | with_reducible exact xd_addT (by array_mem_dec) | with_reducible exact xd_addLT (by array_mem_dec) | with_reducible apply xd_mulT | with_reducible apply xd_mulT'
    | with_reducible apply xd_mulL
    | exact x_modN (by omega) | exact x_divN (by omega) | exact x_div (by omega) | exact x_mod (by omega) | exact x_add | exact x_sub | exact x_addL (by array_mem_dec) | exact x_addT (by array_mem_dec) | exact x_addLT (by array_mem_dec) | apply x_mulT)
  | (guard_target = co _ _ _ = _; first
    | with_reducible exact xd_eqI | with_reducible exact xd_neI | with_reducible exact xd_lt | with_reducible exact xd_le | with_reducible exact xd_gt | with_reducible exact xd_ge
    | with_reducible exact xd_in | with_reducible exact xd_notin | with_reducible exact xd_inT | with_reducible exact xd_notinT
    | with_reducible exact xd_eqT | with_reducible exact xd_neT | with_reducible exact xd_eqL | with_reducible exact xd_neL | with_reducible exact xd_eqB | with_reducible exact xd_neB | with_reducible exact xd_isB | with_reducible exact xd_isnotB
    | exact x_in | exact x_notin | exact x_inT | exact x_notinT | exact x_eqT | exact x_neT | exact x_eqL | exact x_neL)
  | (guard_target = oix _ _ = _; first | apply x_sgn | with_reducible apply xd_ixT | with_reducible apply xd_ixL | with_reducible apply xd_ixTv | apply x_ixT | apply x_ixL | apply x_ixTv | with_reducible refine xd_ixT' ?_ | with_reducible refine xd_ixL' ?_)
  | (guard_target = o1 _ _ = _; first
    | with_reducible exact xd_lenM | with_reducible exact xd_len | with_reducible exact xd_lenT | with_reducible exact xd_lenTv | with_reducible exact xd_tuple | with_reducible exact xd_list | with_reducible exact xd_sum | with_reducible exact xd_sumT | with_reducible exact xd_all
    | with_reducible apply xd_max | with_reducible apply xd_maxT | with_reducible apply xd_min | with_reducible apply xd_minT | with_reducible apply xd_sorted | with_reducible exact xd_lenV | with_reducible exact xd_listL | with_reducible exact xd_tupleT
    | exact x_tuple | exact x_len | exact x_lenTv | exact x_sum | apply x_max | apply x_min | apply x_sorted)
  | (guard_target = ovr _ _ = _; first | with_reducible exact x_overL | with_reducible exact x_overT | with_reducible exact x_overTv | with_reducible exact x_overV | with_reducible exact x_overVT)
  | (guard_target = zpo _ _ = _; first | with_reducible apply x_zipTT | with_reducible apply x_zipLL | with_reducible apply x_zipTL)
  | (guard_target = eno _ _ = _; first | with_reducible exact x_enumT | with_reducible exact x_enumL)
  | (guard_target = Val.lst _ = _; first
    | with_reducible exact cv_id | with_reducible exact cv_int | with_reducible exact cv_bl | with_reducible exact cv_tid | with_reducible exact cv_tup
    | with_reducible exact cv_l0 | with_reducible exact cv_l1 | with_reducible exact cv_l2 | with_reducible exact cv_l3 | with_reducible exact cv_l4 | with_reducible exact cv_l5 | with_reducible exact cv_lt1 | with_reducible exact cv_lt2 | exact cv_int | exact rfl)
  | (guard_target = Val.tup _ = _; first | with_reducible exact cv_t0 | with_reducible exact cv_t1 | with_reducible exact cv_t2 | with_reducible exact cv_t3 | with_reducible exact cv_t4 | with_reducible exact cv_t8 | exact rfl)
  | (guard_target = ∀ _, setAll _ _ _ = _; intro a; bv_omega)
  | (intro a ha; guard_target = Val.pure _ = _; exact rfl)
  | with_reducible exact cv_iteI | with_reducible exact cv_iteT | with_reducible exact cv_iteL | with_reducible exact cv_iteB
  | ((fail_if_success (guard_target = ev _ _ _ _ = _)); exact rfl)
  | exact castS
  | exact idp (by assumption)
  | exact isF_size (by assumption)
  | exact isF_ne (by assumption)
  | exact wave_ne (by assumption)
  | exact wave_ne (isF_size (by assumption))
  | (intro a ha; (with_reducible replace ha := List.mem_range.mp ha); intro s)
  | intro _
  | array_mem_dec)
local macro_rules | `(tactic| sizeOf_list_dec) => `(tactic| first | apply c_odd | apply c_cross | apply c_bits | apply c_bit_count | apply c_common | apply c_exclusive)
local macro_rules | `(tactic| sizeOf_list_dec) => `(tactic| first | apply c_straight | apply c_is_integer | apply c_is_function | apply c_check | apply c_check_mask)
local macro_rules | `(tactic| sizeOf_list_dec) => `(tactic| first | apply c_apart | apply c_alike | apply c_distance | apply c_likeness | apply c_wave_of | apply c_wave | apply c_height)
def foldedL : Nat → List Int → List Int
  | 0, xs => xs
  | n + 1, xs => foldedL n (xs.take (2 ^ n)) ++ List.zipWith (fun a b => (a + b) % 2) (foldedL n (xs.take (2 ^ n))) (foldedL n (xs.drop (2 ^ n)))
theorem foldedL_len : ∀ (n : Nat) (xs : List Int), xs.length = 2 ^ n → (foldedL n xs).length = 2 ^ n
  | 0, xs, h => h
  | n + 1, xs, h => by
    obtain ⟨a1, a2⟩ := halves h
    simp only [foldedL, List.length_append, List.length_zipWith, foldedL_len n _ a1, foldedL_len n _ a2]
    omega
theorem zw_range (f : Int → Int → Int) (A B : List Int) (h : B.length = A.length) : List.zipWith f A B = (List.range A.length).map fun i => f (A.getD i 0) (B.getD i 0) := by
  have : List.zipWith f A B = (A.zip B).map fun p => f p.1 p.2 := by
    rw [List.zip, List.map_zipWith]
  rw [this, zip_range A B h, List.map_map]
  rfl
theorem folded_ok (h : T .folded = some D.folded) : ∀ (n k : Nat) (xs : List Int) (st : Store), xs.length = 2 ^ n → n ≤ 6 → callN T (k + n + 1) .folded [.lst (iv xs)] st = .ok (.lst (iv (foldedL n xs))) st
  | 0, k, xs, st, hl, _ => by
    refine call_ret (d := D.folded) h rfl rfl (q_ifT (st1 := st) (R1 := .ret (.lst (iv xs)) st) ?_ (q_ret (w_var rfl)) rfl)
    exact (tt_of (t := ((xs.length : Nat) : Int) == 1) (w_cmp (w_b1 (w_var rfl) o_len) ev_ci rfl) (by simp [hl])).h
  | n + 1, k, xs, st, hl, hn => by
    have hp : 2 ^ n ≤ 64 := Nat.pow_le_pow_right (by omega) (show n ≤ 6 by omega)
    have hpos : 0 < 2 ^ n := Nat.pos_of_ne_zero (by simp)
    obtain ⟨h1, h2⟩ := halves hl
    have hl2 : xs.length = 2 ^ n + 2 ^ n := by omega
    have c1 := folded_ok h n k (xs.take (2 ^ n)) st h1 (by omega)
    have c2 := folded_ok h n k (xs.drop (2 ^ n)) st h2 (by omega)
    have l1 := foldedL_len n _ h1
    have l2 := foldedL_len n _ h2
    have hS : foldedL (n + 1) xs = foldedL n (xs.take (2 ^ n)) ++ (List.range (foldedL n (xs.take (2 ^ n))).length).map fun i => ((foldedL n (xs.take (2 ^ n))).getD i 0 + (foldedL n (xs.drop (2 ^ n))).getD i 0) % 2 := by
      rw [← zw_range (fun a b => (a + b) % 2) _ _ (by omega)]; rfl
    rw [hS]
    have hd : binop .fdiv (.int (xs.length : Nat)) (.int 2) = some (.int ((2 ^ n : Nat) : Nat)) := by
      rw [fdiv_int ⟨by omega, by omega⟩]
      congr 2
      omega
    have s1 := cut_lo (xs := xs) (show 2 ^ n ≤ xs.length by omega)
    have s2 := cut_hi (xs := xs) (show 2 ^ n ≤ xs.length by omega)
    generalize foldedL n (xs.take (2 ^ n)) = A at c1 l1
    generalize foldedL n (xs.drop (2 ^ n)) = B at c2 l2
    generalize 2 ^ n = q at *
    refine call_ret (d := D.folded) h rfl rfl (q_skip (tf_of (t := ((xs.length : Nat) : Int) == 1) (w_cmp (w_b1 (w_var rfl) o_len) ev_ci rfl) (by rw [beq_eq_false_iff_ne]; omega)) (q_set (v := .int (q : Nat)) (st1 := st) (w_bin (w_b1 (w_var rfl) o_len) ev_ci hd) (q_par (vs := [.lst (iv A), .lst (iv B)]) (st1 := st) ?_ rfl (q_ret ?_))))
    · exact w_cons (w_call (w_cons (w_sl (w_var rfl) w_on (w_os (w_var rfl)) s1) w_nil) c1) (w_cons (w_call (w_cons (w_sl (w_var rfl) (w_os (w_var rfl)) w_on s2) w_nil) c2) w_nil)
    · array_get_dec
theorem c_folded (h : xs.length = 2 ^ n) (hn : n ≤ 4) (h_folded : T .folded = some D.folded := by first | assumption | rfl) : callN T (k + 5) .folded [.lst (iv xs)] st = .ok (.lst (iv (foldedL n xs))) st := by
  have := folded_ok (T := T) h_folded n (k + 4 - n) xs st h (by omega)
  rwa [show k + 4 - n + n + 1 = k + 5 by omega] at this
def foldL (xs : List Int) : List Int := foldedL (lg xs.length) xs
theorem foldL_len (h : SizeOk xs.length) : (foldL xs).length = xs.length := by
  obtain ⟨p1, p2⟩ := lg_pow h
  rw [foldL, foldedL_len _ _ p1, ← p1]
theorem c_foldL (h : SizeOk xs.length) (h_folded : T .folded = some D.folded := by first | assumption | rfl) : callN T (k + 5) .folded [.lst (iv xs)] st = .ok (.lst (iv (foldL xs))) st := by
  obtain ⟨p1, p2⟩ := lg_pow h
  exact c_folded p1 p2
def termN (xs : List Int) : List Nat := (List.range xs.length).filter fun m => (foldL xs).getD m 0 == 1
theorem o_list {vs : List Val} : op1 .list (.tup vs) = some (.lst vs) := rfl
theorem c_term_list (h : SizeOk xs.length) (h_folded : T .folded = some D.folded := by first | assumption | rfl) (h_term_list : T .term_list = some D.term_list := by first | assumption | rfl) : callN T (k + 6) .term_list [.tup (iv xs)] st = .ok (.lst (iv (ni (termN xs)))) st := by
  have hl := foldL_len h
  have hn := len_ok h
  refine call_ret (d := D.term_list) h_term_list rfl rfl (q_ret ?_)
  unfold termN ni
  rw [← hl]
  refine w_lcf (l := List.range (foldL xs).length) (en := fun i => [.int (i : Nat), .int ((foldL xs).getD i 0)]) (p := fun m => (foldL xs).getD m 0 == 1) (gg := fun i => .int (i : Nat)) ?_ (b_range (by omega)) ?_ ?_ (fun _ _ => rfl) cv_int
  · exact w_enum (w_call (w_cons (w_b1 (w_var rfl) o_list) w_nil) (c_foldL h)) o_enumL
  · intro a ha s
    exact w_cmp (w_var rfl) ev_ci rfl
  · intro a ha _ s
    exact w_var rfl
local macro_rules | `(tactic| sizeOf_list_dec) => `(tactic| first | apply c_term_list)
theorem c_terms (h : IsF xs) (h_is_integer : T .is_integer = some D.is_integer := by first | assumption | rfl) (h_is_function : T .is_function = some D.is_function := by first | assumption | rfl) (h_check_function : T .check_function = some D.check_function := by first | assumption | rfl) (h_folded : T .folded = some D.folded := by first | assumption | rfl) (h_term_list : T .term_list = some D.term_list := by first | assumption | rfl) (h_terms : T .terms = some D.terms := by first | assumption | rfl) : callN T (k + 7) .terms [.tup (iv xs)] st = .ok (.lst (iv (ni (termN xs)))) st := by
  refine call_ret (d := D.terms) h_terms rfl rfl (q_expr (v := .non) (st1 := st) ?_ (q_ret ?_))
  · array_get_dec
  · array_get_dec
def degL (xs : List Int) : Int := maxL ((termN xs).map (fun m => ((bitN m : Nat) : Int)) ++ [0])
theorem termN_lt (h : m ∈ termN xs) : m < xs.length := List.mem_range.mp (List.mem_filter.mp h).1
theorem termN_len : (termN xs).length ≤ xs.length := by
  have := List.length_filter_le (fun m => (foldL xs).getD m 0 == 1) (List.range xs.length)
  simpa [termN] using this
theorem o_overN {l : List Nat} : overV st (.lst (iv (ni l))) = some (l.map (fun m => [.int (m : Nat)]), none) := by
  rw [o_overL, ni, List.map_map]; rfl
theorem c_degree (h : IsF xs) (h_is_integer : T .is_integer = some D.is_integer := by first | assumption | rfl) (h_is_function : T .is_function = some D.is_function := by first | assumption | rfl) (h_check_function : T .check_function = some D.check_function := by first | assumption | rfl) (h_bit_count : T .bit_count = some D.bit_count := by first | assumption | rfl) (h_folded : T .folded = some D.folded := by first | assumption | rfl) (h_term_list : T .term_list = some D.term_list := by first | assumption | rfl) (h_degree : T .degree = some D.degree := by first | assumption | rfl) : callN T (k + 7) .degree [.tup (iv xs)] st = .ok (.int (degL xs)) st := by
  have hn := isF_len h
  have hl := termN_len (xs := xs)
  refine call_ret (d := D.degree) h_degree rfl rfl (q_expr (v := .non) (st1 := st) ?_ (q_ret ?_))
  · array_get_dec
  · refine w_b1 (w_bin (x := .lst (iv ((termN xs).map fun m => ((bitN m : Nat) : Int)))) (st1 := st) ?_ (w_lst (w_cons ev_ci w_nil) rfl cv_l1) (o_addL (by simp; omega))) (o_max (by simp))
    refine w_lc (l := termN xs) (en := fun m => [.int (m : Nat)]) (gg := fun m => .int (bitN m : Nat)) (w_over (w_call (w_cons (w_var rfl) w_nil) (c_term_list h.1)) o_overN) (by omega) ?_ (fun _ _ => rfl) cv_int
    intro a ha s
    have := termN_lt ha
    array_get_dec
/-- the function with these terms -/
def ftL (n : Nat) (ms : List Nat) : List Int := foldedL n ((List.range (2 ^ n)).map fun p => if p ∈ ms then 1 else 0)
theorem ftL_len : (ftL n ms).length = 2 ^ n := foldedL_len _ _ (by simp)
theorem o_sizes (h1 : 1 ≤ n) (h2 : n ≤ 4) : opIx (.tup [.int 2, .int 4, .int 8, .int 16]) (.int ((n : Nat) - 1)) = some (.int ((2 ^ n : Nat) : Int)) := by
  have : n = 1 ∨ n = 2 ∨ n = 3 ∨ n = 4 := by omega
  rcases this with rfl | rfl | rfl | rfl <;> rfl
theorem pow16 (h2 : n ≤ 4) : 2 ^ n ≤ 16 := Nat.pow_le_pow_right (by omega) h2
theorem any_ni (l : List Nat) (p : Nat) : (ni l).any (· == (p : Int)) = decide (p ∈ l) := by
  rw [Bool.eq_iff_iff]
  simp only [ni, List.any_map, List.any_eq_true, Function.comp, beq_iff_eq, decide_eq_true_eq]
  constructor
  · rintro ⟨x, hx, e⟩
    have : x = p := by omega
    exact this ▸ hx
  · intro h
    exact ⟨p, h, rfl⟩
theorem asc_zip : ∀ (ms : List Nat), ms.Pairwise (· < ·) → ((ni ms).zip (ni (ms.drop 1))).all (fun p => decide (p.1 < p.2)) = true
  | [], _ => rfl
  | [a], _ => by simp [ni]
  | a :: b :: r, h => by
    have h1 := asc_zip (b :: r) (List.Pairwise.of_cons h)
    have h2 : a < b := List.rel_of_pairwise_cons h (by simp)
    simp only [ni, List.drop_succ_cons, List.drop_zero, List.map_cons, List.zip_cons_cons, List.all_cons, Bool.and_eq_true, decide_eq_true_eq] at h1 ⊢
    refine ⟨by omega, ?_⟩
    simpa using h1
theorem c_from_terms (h1 : 1 ≤ n) (h2 : n ≤ 4) {ms : List Nat} (hs : ms.Pairwise (· < ·)) (hb : ∀ m ∈ ms, m < 2 ^ n) (hl : ms.length ≤ 16) (h_is_integer : T .is_integer = some D.is_integer := by first | assumption | rfl) (h_folded : T .folded = some D.folded := by first | assumption | rfl) (h_from_terms : T .from_terms = some D.from_terms := by first | assumption | rfl) : callN T (k + 6) .from_terms [.int (n : Nat), .lst (iv (ni ms))] st = .ok (.tup (iv (ftL n ms))) st := by
  have hp := pow16 h2
  have hpos : 0 < 2 ^ n := Nat.pos_of_ne_zero (by simp)
  refine call_ret (d := D.from_terms) h_from_terms rfl rfl (q_skip (tf_not (tt_of (t := decide ((1 : Int) ≤ (n : Nat)) && decide (((n : Nat) : Int) ≤ 4)) ?_ (by simp; omega))) (q_set (v := .int ((2 ^ n : Nat) : Int)) (st1 := st) (w_idx ev_sizes (w_bin (w_var rfl) ev_ci rfl) (o_sizes h1 h2)) (q_skip (tf_or (tf_not ⟨w_isi (w_var rfl) rfl⟩) (tf_not (tt_of (t := ((ms.map fun m => decide ((0 : Int) ≤ (m : Nat)) && decide (((m : Nat) : Int) ≤ (2 ^ n : Nat) - 1)).all id)) ?_ ?_))) (q_skip (tf_not (tt_of (t := (((ni ms).zip (ni (ms.drop 1))).map fun p => decide (p.1 < p.2)).all id) ?_ ?_)) (q_ret ?_)))))
  · array_get_dec
  · refine w_b1 (w_lc (l := ms) (en := fun m => [.int (m : Nat)]) (gg := fun m => .bl (decide ((0 : Int) ≤ (m : Nat)) && decide (((m : Nat) : Int) ≤ (2 ^ n : Nat) - 1))) (w_over (w_var rfl) o_overN) (by omega) ?_ (fun _ _ => rfl) cv_bl) o_all
    intro a ha s
    array_get_dec
  · simp only [List.all_map, List.all_eq_true, Function.comp, id, Bool.and_eq_true, decide_eq_true_eq]
    intro m hm
    have := hb m hm
    generalize 2 ^ n = q at *
    omega
  · have hd : opSl (some 1) none (.lst (iv (ni ms))) = some (.lst (iv (ni (ms.drop 1)))) := by
      cases ms with
      | nil => rfl
      | cons a r =>
        have := o_drop (xs := ni (a :: r)) (h := 1) (by simp)
        simpa [ni] using this
    refine w_b1 (w_lc (l := (ni ms).zip (ni (ms.drop 1))) (en := fun p => [.int p.1, .int p.2]) (gg := fun p => .bl (decide (p.1 < p.2))) (w_zip (w_var rfl) (w_sl (w_var rfl) (w_os ev_ci) w_on hd) zipL_iv) (by rw [List.length_zip]; simp; omega) ?_ (fun _ _ => rfl) cv_bl) o_all
    intro a ha s
    array_get_dec
  · rw [List.all_map]; exact asc_zip ms hs
  · refine w_b1 (w_call (w_cons (v := .lst (iv ((List.range (2 ^ n)).map fun p => if p ∈ ms then 1 else 0))) (st1 := st) ?_ w_nil) (c_folded (n := n) (by simp) h2)) rfl
    refine w_lc (l := List.range (2 ^ n)) (en := fun i => [.int (i : Nat)]) (gg := fun p => .int (if p ∈ ms then 1 else 0)) (w_range (w_var rfl) rfl (by omega)) (b_range (by omega)) ?_ (fun _ _ => rfl) cv_int
    intro a ha s
    refine w_ife (t := decide (a ∈ ms)) (w_cmp (w_var rfl) (w_var rfl) ?_) (fun _ => ev_ci) (fun _ => ev_ci) ?_
    · rw [← any_ni]; exact o_in
    · by_cases h : a ∈ ms <;> simp [h]
/-! quiet -/
theorem c_bits_of (h : SizeOk xs.length) (h_bits_of : T .bits_of = some D.bits_of := by first | assumption | rfl) : callN T (k + 1) .bits_of [.tup (iv xs)] st = .ok (.int (lg xs.length : Nat)) st := by
  refine call_ret (d := D.bits_of) h_bits_of rfl rfl (q_ret ?_)
  have : ∀ n : Nat, SizeOk n → ∃ i : Int, opM .tix (.tup [.int 2, .int 4, .int 8, .int 16]) (.int (n : Nat)) = some (.int i) ∧ i + 1 = (lg n : Nat) := by
    rintro n (rfl | rfl | rfl | rfl)
    · exact ⟨0, rfl, rfl⟩
    · exact ⟨1, rfl, rfl⟩
    · exact ⟨2, rfl, rfl⟩
    · exact ⟨3, rfl, rfl⟩
  obtain ⟨i, h1, h2⟩ := this _ h
  rw [← h2]
  exact w_bin (w_m1 ev_sizes rfl (w_b1 (w_var rfl) o_lenT) h1) ev_ci rfl
def quietB (xs : List Int) (k : Nat) : Bool := (((List.range xs.length).filter fun m => decide (1 ≤ bitN m) && decide (bitN m ≤ k)).map fun m => (waveL xs).getD m 0 == 0).all id
theorem dec_cast (a b : Nat) : decide ((a : Int) ≤ (b : Int)) = decide (a ≤ b) := by
  rw [decide_eq_decide]; omega
theorem c_quiet_for (h : SizeOk xs.length) (h_bit_count : T .bit_count = some D.bit_count := by first | assumption | rfl) (h_quiet_for : T .quiet_for = some D.quiet_for := by first | assumption | rfl) (h_spread : T .spread = some D.spread := by first | assumption | rfl) (h_wave_of : T .wave_of = some D.wave_of := by first | assumption | rfl) : callN T (k + 7) .quiet_for [.tup (iv xs), .int (n : Nat)] st = .ok (.bl (quietB xs n)) st := by
  have hl := waveL_len h
  have hn := len_ok h
  refine call_ret (d := D.quiet_for) h_quiet_for rfl rfl (q_ret ?_)
  unfold quietB
  rw [← hl]
  refine w_b1 (w_lcf (l := List.range (waveL xs).length) (en := fun i => [.int (i : Nat), .int ((waveL xs).getD i 0)]) (p := fun m => decide (1 ≤ bitN m) && decide (bitN m ≤ n)) (gg := fun m => .bl ((waveL xs).getD m 0 == 0)) (w_enum (w_call (w_cons (w_var rfl) w_nil) (c_wave_of h)) o_enumT) (b_range (by omega)) ?_ ?_ (fun _ _ => rfl) cv_bl) o_all
  · intro a ha s
    have ha := List.mem_range.mp ha
    refine w_chain ev_ci (w_call (w_cons (w_var rfl) w_nil) (c_bit_count (by omega))) ?_ (fun _ => w_var rfl) (fun _ => ?_)
    · rw [← dec_cast]; rfl
    · rw [← dec_cast]; rfl
  · intro a ha _ s
    exact w_cmp (w_var rfl) ev_ci rfl
local macro_rules | `(tactic| sizeOf_list_dec) => `(tactic| first | apply c_bits_of | apply c_quiet_for)
theorem c_keeps_quiet (h : IsF xs) (hk : n ≤ lg xs.length) (h_is_integer : T .is_integer = some D.is_integer := by first | assumption | rfl) (h_is_function : T .is_function = some D.is_function := by first | assumption | rfl) (h_check_function : T .check_function = some D.check_function := by first | assumption | rfl) (h_bit_count : T .bit_count = some D.bit_count := by first | assumption | rfl) (h_bits_of : T .bits_of = some D.bits_of := by first | assumption | rfl) (h_quiet_for : T .quiet_for = some D.quiet_for := by first | assumption | rfl) (h_keeps_quiet : T .keeps_quiet = some D.keeps_quiet := by first | assumption | rfl) (h_spread : T .spread = some D.spread := by first | assumption | rfl) (h_wave_of : T .wave_of = some D.wave_of := by first | assumption | rfl) : callN T (k + 8) .keeps_quiet [.tup (iv xs), .int (n : Nat)] st = .ok (.bl (quietB xs n)) st := by
  refine call_ret (d := D.keeps_quiet) h_keeps_quiet rfl rfl (q_expr (v := .non) (st1 := st) ?_ (q_skip (tf_not (tt_of (t := decide ((0 : Int) ≤ (n : Nat)) && decide (((n : Nat) : Int) ≤ (lg xs.length : Nat))) ?_ (by simp; omega))) (q_ret ?_)))
  · array_get_dec
  · array_get_dec
  · array_get_dec
def quietN (xs : List Int) : Int := maxL (ni ((List.range (lg xs.length + 1)).filter (quietB xs)))
theorem quiet_zero : quietB xs 0 = true := by
  have : (List.range xs.length).filter (fun m => decide (1 ≤ bitN m) && decide (bitN m ≤ 0)) = [] := by
    rw [List.filter_eq_nil_iff]
    intro a _
    simp only [Bool.and_eq_true, decide_eq_true_eq]
    omega
  simp only [quietB]
  rw [this]
  rfl
theorem lg_le : lg n ≤ 4 := by unfold lg; split <;> (try split) <;> (try split) <;> omega
theorem c_quiet (h : IsF xs) (h_is_integer : T .is_integer = some D.is_integer := by first | assumption | rfl) (h_is_function : T .is_function = some D.is_function := by first | assumption | rfl) (h_check_function : T .check_function = some D.check_function := by first | assumption | rfl) (h_bit_count : T .bit_count = some D.bit_count := by first | assumption | rfl) (h_bits_of : T .bits_of = some D.bits_of := by first | assumption | rfl) (h_quiet_for : T .quiet_for = some D.quiet_for := by first | assumption | rfl) (h_quiet : T .quiet = some D.quiet := by first | assumption | rfl) (h_spread : T .spread = some D.spread := by first | assumption | rfl) (h_wave_of : T .wave_of = some D.wave_of := by first | assumption | rfl) : callN T (k + 8) .quiet [.tup (iv xs)] st = .ok (.int (quietN xs)) st := by
  have := lg_le (n := xs.length)
  refine call_ret (d := D.quiet) h_quiet rfl rfl (q_expr (v := .non) (st1 := st) ?_ (q_ret ?_))
  · array_get_dec
  · refine w_b1 (w_lcf (l := List.range (lg xs.length + 1)) (en := fun i => [.int (i : Nat)]) (p := quietB xs) (gg := fun m => .int (m : Nat)) (w_range (w_bin (w_call (w_cons (w_var rfl) w_nil) (c_bits_of h.1)) ev_ci rfl) castS (by omega)) (b_range (by omega)) ?_ ?_ (fun _ _ => rfl) cv_int) (o_max ?_)
    · intro a ha s
      array_get_dec
    · intro a ha _ s
      exact w_var rfl
    · have h0 : 0 ∈ (List.range (lg xs.length + 1)).filter (quietB xs) := List.mem_filter.mpr ⟨List.mem_range.mpr (by omega), quiet_zero⟩
      intro e
      rw [List.map_eq_nil_iff] at e
      rw [e] at h0
      cases h0
def fixedN (xs : List Int) (m p : Nat) : Nat := ((List.range xs.length).filter fun a => (xs.getD a 0 == 1) && (m &&& a == m &&& p)).length
theorem c_fixed (h : IsF xs) (hm : m < xs.length) (hp : p < xs.length) (h_is_integer : T .is_integer = some D.is_integer := by first | assumption | rfl) (h_is_function : T .is_function = some D.is_function := by first | assumption | rfl) (h_check_function : T .check_function = some D.check_function := by first | assumption | rfl) (h_check_mask : T .check_mask = some D.check_mask := by first | assumption | rfl) (h_common : T .common = some D.common := by first | assumption | rfl) (h_fixed : T .fixed = some D.fixed := by first | assumption | rfl) : callN T (k + 4) .fixed [.tup (iv xs), .int (m : Nat), .int (p : Nat)] st = .ok (.int (fixedN xs m p : Nat)) st := by
  have hn := isF_len h
  refine call_ret (d := D.fixed) h_fixed rfl rfl (q_expr (v := .non) (st1 := st) ?_ (q_expr (v := .non) (st1 := st) ?_ (q_expr (v := .non) (st1 := st) ?_ (q_set (v := .int ((m &&& p : Nat) : Int)) (st1 := st) ?_ (q_ret ?_)))))
  · array_get_dec
  · array_get_dec
  · array_get_dec
  · array_get_dec
  · refine w_b1 (w_lcf (l := List.range xs.length) (en := fun i => [.int (i : Nat), .int (xs.getD i 0)]) (p := fun a => (xs.getD a 0 == 1) && (m &&& a == m &&& p)) (gg := fun m => .int 1) (w_enum (w_var rfl) o_enumT) (b_range (by omega)) ?_ ?_ (fun _ _ => rfl) cv_int) o_lenM
    · intro a ha s
      have ha := List.mem_range.mp ha
      refine w_and (w_cmp (w_var rfl) ev_ci rfl) fun _ => w_cmp (w_call (w_cons (w_var rfl) (w_cons (w_var rfl) w_nil)) (c_common (by omega) (by omega))) (w_var rfl) ?_
      have : (((m &&& a : Nat) : Int) == ((m &&& p : Nat) : Int)) = (m &&& a == m &&& p) := by
        rw [Bool.eq_iff_iff]; simp only [beq_iff_eq]; omega
      rw [← this]; rfl
    · intro a ha _ s
      exact ev_ci
/-! changes -/
def leanL (xs : List Int) (m : Nat) : List Int := (List.range xs.length).map fun i => (xs.getD i 0 + (oddN m i : Nat)) % 2
theorem c_leaned (h : xs.length ≤ 16) (hm : m < 16) (h_leaned : T .leaned = some D.leaned := by first | assumption | rfl) (h_bit_count : T .bit_count = some D.bit_count := by first | assumption | rfl) (h_common : T .common = some D.common := by first | assumption | rfl) (h_straight : T .straight = some D.straight := by first | assumption | rfl) : callN T (k + 3) .leaned [.tup (iv xs), .int (m : Nat)] st = .ok (.tup (iv (leanL xs m))) st := by
  refine call_as (d := D.leaned) h_leaned rfl rfl (q_ret (v := .tup (iv ((List.range xs.length).map fun i => (xs.getD i 0 + (straightL xs.length m).getD i 0) % 2))) ?_) ?_
  · array_get_dec
    · simp [straightL]
  · congr 2
    apply List.map_congr_left
    intro i hi
    rw [straightL, ge_range (List.mem_range.mp hi)]
theorem c_opposite (h : xs.length ≤ 16) (h_opposite : T .opposite = some D.opposite := by first | assumption | rfl) : callN T (k + 1) .opposite [.tup (iv xs)] st = .ok (.tup (iv (oppL xs))) st := by
  refine call_ret (d := D.opposite) h_opposite rfl rfl (q_ret ?_)
  array_get_dec
local macro_rules | `(tactic| sizeOf_list_dec) => `(tactic| first | apply c_moved | apply c_echo | apply c_leaned | apply c_opposite)
theorem c_shifted (h : IsF xs) (hp : p < xs.length) (h_shifted : T .shifted = some D.shifted := by first | assumption | rfl) (h_moved : T .moved = some D.moved := by first | assumption | rfl) (h_is_integer : T .is_integer = some D.is_integer := by first | assumption | rfl) (h_is_function : T .is_function = some D.is_function := by first | assumption | rfl) (h_check_function : T .check_function = some D.check_function := by first | assumption | rfl) (h_check_mask : T .check_mask = some D.check_mask := by first | assumption | rfl) (h_common : T .common = some D.common := by first | assumption | rfl) (h_exclusive : T .exclusive = some D.exclusive := by first | assumption | rfl) : callN T (k + 4) .shifted [.tup (iv xs), .int (p : Nat)] st = .ok (.tup (iv (movedL xs p))) st := by
  refine call_ret (d := D.shifted) h_shifted rfl rfl (q_expr (v := .non) (st1 := st) ?_ (q_expr (v := .non) (st1 := st) ?_ (q_ret ?_))) <;> array_get_dec
theorem c_tilted (h : IsF xs) (hp : p < xs.length) (h_leaned : T .leaned = some D.leaned := by first | assumption | rfl) (h_tilted : T .tilted = some D.tilted := by first | assumption | rfl) (h_is_integer : T .is_integer = some D.is_integer := by first | assumption | rfl) (h_is_function : T .is_function = some D.is_function := by first | assumption | rfl) (h_check_function : T .check_function = some D.check_function := by first | assumption | rfl) (h_check_mask : T .check_mask = some D.check_mask := by first | assumption | rfl) (h_bit_count : T .bit_count = some D.bit_count := by first | assumption | rfl) (h_common : T .common = some D.common := by first | assumption | rfl) (h_straight : T .straight = some D.straight := by first | assumption | rfl) : callN T (k + 4) .tilted [.tup (iv xs), .int (p : Nat)] st = .ok (.tup (iv (leanL xs p))) st := by
  have hn := isF_len h
  refine call_ret (d := D.tilted) h_tilted rfl rfl (q_expr (v := .non) (st1 := st) ?_ (q_expr (v := .non) (st1 := st) ?_ (q_ret ?_))) <;> array_get_dec
theorem c_turned (h : IsF xs) (h_opposite : T .opposite = some D.opposite := by first | assumption | rfl) (h_turned : T .turned = some D.turned := by first | assumption | rfl) (h_is_integer : T .is_integer = some D.is_integer := by first | assumption | rfl) (h_is_function : T .is_function = some D.is_function := by first | assumption | rfl) (h_check_function : T .check_function = some D.check_function := by first | assumption | rfl) : callN T (k + 4) .turned [.tup (iv xs)] st = .ok (.tup (iv (oppL xs))) st := by
  have hn := isF_len h
  refine call_ret (d := D.turned) h_turned rfl rfl (q_expr (v := .non) (st1 := st) ?_ (q_ret ?_)) <;> array_get_dec
def joinL (xs ys : List Int) : List Int := (List.range (xs.length * ys.length)).map fun a => (xs.getD (a % xs.length) 0 + ys.getD (a / xs.length) 0) % 2
theorem c_join (h : IsF xs) (h2 : IsF ys) (hs : SizeOk (xs.length * ys.length)) (h_join : T .join = some D.join := by first | assumption | rfl) (h_is_integer : T .is_integer = some D.is_integer := by first | assumption | rfl) (h_is_function : T .is_function = some D.is_function := by first | assumption | rfl) (h_check_function : T .check_function = some D.check_function := by first | assumption | rfl) : callN T (k + 4) .join [.tup (iv xs), .tup (iv ys)] st = .ok (.tup (iv (joinL xs ys))) st := by
  have hn := isF_len h
  have hn2 := isF_len h2
  have hn3 := len_ok (xs := joinL xs ys) (by simpa [joinL] using hs)
  have h0 : 0 < xs.length := by rcases h.1 with e | e | e | e <;> omega
  have hn4 : xs.length * ys.length ≤ 16 := by simpa [joinL] using hn3
  refine call_ret (d := D.join) h_join rfl rfl (q_expr (v := .non) (st1 := st) ?_ (q_expr (v := .non) (st1 := st) ?_ (q_set (v := .int ((xs.length * ys.length : Nat) : Int)) (st1 := st) ?_ (q_skip ⟨w_cmp (w_var rfl) ev_sizes (size_in hs)⟩ (q_ret ?_)))))
  · array_get_dec
  · array_get_dec
  · refine w_bin (w_b1 (w_var rfl) o_lenT) (w_b1 (w_var rfl) o_lenT) ?_
    rw [Int.natCast_mul]
    exact o_mulL (by unfold Small; omega)
  · refine w_b1 (w_lc (l := List.range (xs.length * ys.length)) (en := fun i => [.int (i : Nat)]) (gg := fun a => .int ((xs.getD (a % xs.length) 0 + ys.getD (a / xs.length) 0) % 2)) (w_range (w_var rfl) rfl (by omega)) (b_range (by omega)) ?_ (fun _ _ => rfl) cv_int) rfl
    intro a ha s
    have ha := List.mem_range.mp ha
    have h1 : a % xs.length < xs.length := Nat.mod_lt _ h0
    have h2 : a / xs.length < ys.length := Nat.div_lt_of_lt_mul ha
    array_get_dec
theorem c_join_bad (h : IsF xs) (h2 : IsF ys) (hs : ¬ SizeOk (xs.length * ys.length)) (h_join : T .join = some D.join := by first | assumption | rfl) (h_is_integer : T .is_integer = some D.is_integer := by first | assumption | rfl) (h_is_function : T .is_function = some D.is_function := by first | assumption | rfl) (h_check_function : T .check_function = some D.check_function := by first | assumption | rfl) : callN T (k + 4) .join [.tup (iv xs), .tup (iv ys)] st = .exc 6 st := by
  have hn := isF_len h
  refine call_exc (d := D.join) (st1 := st) h_join rfl (q_expr (v := .non) (st1 := st) ?_ (q_expr (v := .non) (st1 := st) ?_ (q_set (v := .int ((xs.length * ys.length : Nat) : Int)) (st1 := st) ?_ (q_ifT (st1 := st) (R1 := .exc 6 st) (w_cmp (w_var rfl) ev_sizes ?_) q_raise rfl)))) (by simp)
  · array_get_dec
  · array_get_dec
  · refine w_bin (w_b1 (w_var rfl) o_lenT) (w_b1 (w_var rfl) o_lenT) ?_
    rw [Int.natCast_mul]
    exact o_mulL (by unfold Small; omega)
  · have := size_notin (xs.length * ys.length)
    have e : decide (xs.length * ys.length = 2 ∨ xs.length * ys.length = 4 ∨ xs.length * ys.length = 8 ∨ xs.length * ys.length = 16) = false := by
      rw [decide_eq_false_iff_not]; exact hs
    rw [e] at this
    exact this
theorem c_sum_for (h1 : 1 ≤ n) (h2 : n ≤ 4) (hm : m < 2 ^ n) (h_is_integer : T .is_integer = some D.is_integer := by first | assumption | rfl) (h_check_mask : T .check_mask = some D.check_mask := by first | assumption | rfl) (h_bit_count : T .bit_count = some D.bit_count := by first | assumption | rfl) (h_common : T .common = some D.common := by first | assumption | rfl) (h_straight : T .straight = some D.straight := by first | assumption | rfl) (h_sum_for : T .sum_for = some D.sum_for := by first | assumption | rfl) : callN T (k + 3) .sum_for [.int (n : Nat), .int (m : Nat)] st = .ok (.tup (iv (straightL (2 ^ n) m))) st := by
  have hp := pow16 h2
  have hz := o_sizes h1 h2
  refine call_ret (d := D.sum_for) h_sum_for rfl rfl (q_skip (tf_not (tt_of (t := decide ((1 : Int) ≤ (n : Nat)) && decide (((n : Nat) : Int) ≤ 4)) ?_ (by simp; omega))) (q_expr (v := .non) (st1 := st) ?_ (q_ret ?_)))
  · array_get_dec
  · exact w_call (w_cons (w_var rfl) (w_cons (w_idx ev_sizes (w_bin (w_var rfl) ev_ci rfl) hz) w_nil)) (c_check_mask hm)
  · exact w_call (w_cons (w_idx ev_sizes (w_bin (w_var rfl) ev_ci rfl) hz) (w_cons (w_var rfl) w_nil)) (c_straight hp (by omega))
end
end Sw
end

section
/-! SwS: sums over places. -/
namespace Sw
/-- the sum over the places below n -/
def S (n : Nat) (f : Nat → Int) : Int := ((List.range n).map f).sum
theorem S_zero (f : Nat → Int) : S 0 f = 0 := rfl
theorem S_succ (n : Nat) (f : Nat → Int) : S (n + 1) f = S n f + f n := by simp [S, List.range_succ]
theorem S_congr {n : Nat} {f g : Nat → Int} (h : ∀ i < n, f i = g i) : S n f = S n g := by
  unfold S
  rw [List.map_congr_left fun i hi => h i (List.mem_range.mp hi)]
theorem S_add (n : Nat) (f g : Nat → Int) : S n (fun i => f i + g i) = S n f + S n g := by
  induction n with
  | zero => rfl
  | succ n ih => simp only [S_succ, ih]; omega
theorem S_sub (n : Nat) (f g : Nat → Int) : S n (fun i => f i - g i) = S n f - S n g := by
  induction n with
  | zero => rfl
  | succ n ih => simp only [S_succ, ih]; omega
theorem S_mulL (n : Nat) (c : Int) (f : Nat → Int) : S n (fun i => c * f i) = c * S n f := by
  induction n with
  | zero => simp [S_zero]
  | succ n ih => simp only [S_succ, ih, Int.mul_add]
theorem S_mulR (n : Nat) (c : Int) (f : Nat → Int) : S n (fun i => f i * c) = S n f * c := by
  induction n with
  | zero => simp [S_zero]
  | succ n ih => simp only [S_succ, ih, Int.add_mul]
theorem S_neg (n : Nat) (f : Nat → Int) : S n (fun i => -f i) = -S n f := by
  induction n with
  | zero => rfl
  | succ n ih => simp only [S_succ, ih]; omega
theorem S_const (n : Nat) (c : Int) : S n (fun _ => c) = n * c := by
  induction n with
  | zero => simp [S_zero]
  | succ n ih => simp only [S_succ, ih]; grind
theorem S_swap (n m : Nat) (f : Nat → Nat → Int) : S n (fun i => S m fun j => f i j) = S m (fun j => S n fun i => f i j) := by
  induction n with
  | zero => simp only [S_zero]; rw [S_const]; simp
  | succ n ih => simp only [S_succ, ih, S_add]
theorem S_mul (n m : Nat) (f g : Nat → Int) : S n f * S m g = S n (fun i => S m fun j => f i * g j) := by
  rw [← S_mulR]
  exact S_congr fun i _ => (S_mulL m (f i) g).symm
theorem S_le {n : Nat} {f g : Nat → Int} (h : ∀ i < n, f i ≤ g i) : S n f ≤ S n g := by
  induction n with
  | zero => simp [S_zero]
  | succ n ih =>
    simp only [S_succ]
    have := ih fun i hi => h i (by omega)
    have := h n (by omega)
    omega
theorem S_nonneg {n : Nat} {f : Nat → Int} (h : ∀ i < n, 0 ≤ f i) : 0 ≤ S n f := by
  have := S_le (f := fun _ => 0) h
  rw [S_const] at this
  omega
/-- a sum of numbers that aren't negative is 0 just if all are -/
theorem S_zero_all {n : Nat} {f : Nat → Int} (h : ∀ i < n, 0 ≤ f i) (h0 : S n f = 0) : ∀ i < n, f i = 0 := by
  induction n with
  | zero => intro i hi; omega
  | succ n ih =>
    rw [S_succ] at h0
    have h1 := S_nonneg fun i (hi : i < n) => h i (by omega)
    have h2 := h n (by omega)
    intro i hi
    by_cases e : i = n
    · subst e; omega
    · exact ih (fun i hi => h i (by omega)) (by omega) i (by omega)
theorem S_delta {n a : Nat} (f : Nat → Int) (h : a < n) : S n (fun i => if i = a then f i else 0) = f a := by
  induction n with
  | zero => omega
  | succ n ih =>
    rw [S_succ]
    by_cases e : n = a
    · subst e
      have : S n (fun i => if i = n then f i else 0) = S n fun _ => 0 := S_congr fun i hi => if_neg (by omega)
      rw [this, S_const]
      simp
    · rw [ih (by omega), if_neg e]; omega
theorem perm_sum {l l' : List Int} (h : l.Perm l') : l.sum = l'.sum := by
  induction h with
  | nil => rfl
  | cons x _ ih => simp [ih]
  | swap x y l => simp only [List.sum_cons]; omega
  | trans _ _ h1 h2 => rw [h1, h2]
theorem xor_perm : ∀ n ∈ [2, 4, 8, 16], ∀ s < n, ((List.range n).map fun i => i ^^^ s).Perm (List.range n) := by decide +kernel
theorem size_mem {n : Nat} (h : SizeOk n) : n ∈ [2, 4, 8, 16] := by rcases h with rfl | rfl | rfl | rfl <;> decide
theorem S_xor {n s : Nat} (h : SizeOk n) (hs : s < n) (f : Nat → Int) : S n (fun i => f (i ^^^ s)) = S n f := by
  have := perm_sum ((xor_perm n (size_mem h) s hs).map f)
  rw [List.map_map] at this
  exact this
/-! ### signs -/
theorem sgo_orth : ∀ n ∈ [2, 4, 8, 16], ∀ a < n, ∀ b < n, S n (fun m => (1 - 2 * ((oddN m a : Nat) : Int)) * (1 - 2 * ((oddN m b : Nat) : Int))) = if a = b then (n : Int) else 0 := by decide +kernel
theorem sgo_mul : ∀ m < 16, ∀ a < 16, ∀ b < 16, oddN m (a ^^^ b) = (oddN m a + oddN m b) % 2 := by decide +kernel
theorem xor_lt16 : ∀ a < 16, ∀ b < 16, a ^^^ b < 16 := by decide +kernel
theorem sg_com {m p : Nat} (hm : m < 16) (hp : p < 16) : sg m p = sg p m := by rw [sg_odd hm hp, sg_odd hp hm, odd_com]
theorem sg_mul {m a b : Nat} (hm : m < 16) (ha : a < 16) (hb : b < 16) : sg m (a ^^^ b) = sg m a * sg m b := by
  rw [sg_odd hm (xor_lt16 a ha b hb), sg_odd hm ha, sg_odd hm hb, sgo_mul m hm a ha b hb]
  rcases odd_01 m a with e | e <;> rcases odd_01 m b with e' | e' <;> rw [e, e'] <;> rfl
theorem sg_mul' {m a b : Nat} (hm : m < 16) (ha : a < 16) (hb : b < 16) : sg (a ^^^ b) m = sg a m * sg b m := by
  rw [sg_com (xor_lt16 a ha b hb) hm, sg_mul hm ha hb, sg_com hm ha, sg_com hm hb]
theorem sg_sq {m p : Nat} (hm : m < 16) (hp : p < 16) : sg m p * sg m p = 1 := by
  rw [sg_odd hm hp]
  rcases odd_01 m p with e | e <;> rw [e] <;> rfl
theorem sg_pm {m p : Nat} (hm : m < 16) (hp : p < 16) : sg m p = 1 ∨ sg m p = -1 := by
  rw [sg_odd hm hp]
  rcases odd_01 m p with e | e <;> rw [e] <;> simp
theorem size_le {n : Nat} (h : SizeOk n) : n ≤ 16 := by rcases h with rfl | rfl | rfl | rfl <;> omega
theorem size_pos {n : Nat} (h : SizeOk n) : 2 ≤ n := by rcases h with rfl | rfl | rfl | rfl <;> omega
theorem sg_orth {n a b : Nat} (h : SizeOk n) (ha : a < n) (hb : b < n) : S n (fun m => sg m a * sg m b) = if a = b then (n : Int) else 0 := by
  have hn := size_le h
  rw [← sgo_orth n (size_mem h) a ha b hb]
  exact S_congr fun m hm => by rw [sg_odd (by omega) (by omega), sg_odd (by omega) (by omega)]
theorem sg_orth' {n a b : Nat} (h : SizeOk n) (ha : a < n) (hb : b < n) : S n (fun m => sg a m * sg b m) = if a = b then (n : Int) else 0 := by
  have hn := size_le h
  rw [← sg_orth h ha hb]
  exact S_congr fun m hm => by rw [sg_com (m := a) (by omega) (by omega), sg_com (m := b) (by omega) (by omega)]
/-! ### waves -/
section
variable {xs ys : List Int}
/-- the sign of a value -/
def ep (xs : List Int) (i : Nat) : Int := 1 - 2 * xs.getD i 0
/-- the wave at a mask -/
def W (xs : List Int) (m : Nat) : Int := (waveL xs).getD m 0
theorem row_S (f : Nat → Int) : ∀ (xs : List Int) , rowAt f xs = S xs.length fun i => xs.getD i 0 * f i := by
  intro xs
  have := en_sum0 f xs
  rw [← this, en_range, List.map_map]
  rfl
theorem get_bit (h : IsF xs) {i : Nat} (hi : i < xs.length) : xs.getD i 0 = 0 ∨ xs.getD i 0 = 1 := h.2 _ (by simp [List.getD, hi])
theorem ep_pm (h : IsF xs) {i : Nat} (hi : i < xs.length) : ep xs i = 1 ∨ ep xs i = -1 := by
  unfold ep
  rcases get_bit h hi with e | e <;> rw [e] <;> simp
theorem ep_sq (h : IsF xs) {i : Nat} (hi : i < xs.length) : ep xs i * ep xs i = 1 := by
  rcases ep_pm h hi with e | e <;> rw [e] <;> rfl
theorem W_S (h : SizeOk xs.length) {m : Nat} (hm : m < xs.length) : W xs m = S xs.length fun i => ep xs i * sg m i := by
  obtain ⟨p1, p2⟩ := lg_pow h
  have hl : (signL xs).length = 2 ^ lg xs.length := by rw [signL, List.length_map]; exact p1
  have := row_wave (lg xs.length) (signL xs) p2 hl m (by omega)
  show (spreadL (lg xs.length) (signL xs)).getD m 0 = _
  rw [← this, row_S, hl, ← p1]
  exact S_congr fun i hi => by rw [signL_getD hi]; rfl
theorem W_inv (h : SizeOk xs.length) {i : Nat} (hi : i < xs.length) : S xs.length (fun m => W xs m * sg m i) = xs.length * ep xs i := by
  have hn := size_le h
  have e1 : S xs.length (fun m => W xs m * sg m i) = S xs.length fun m => S xs.length fun j => ep xs j * (sg m j * sg m i) := S_congr fun m hm => by
    rw [W_S h hm, ← S_mulR]
    exact S_congr fun j _ => by rw [Int.mul_assoc]
  rw [e1, S_swap]
  have e2 : S xs.length (fun j => S xs.length fun m => ep xs j * (sg m j * sg m i)) = S xs.length fun j => if j = i then (xs.length : Int) * ep xs j else 0 := S_congr fun j hj => by
    rw [S_mulL, sg_orth h hj hi]
    split
    · rw [Int.mul_comm]
    · simp
  rw [e2, S_delta _ hi]
theorem len_wave (h : SizeOk xs.length) : (waveL xs).length = xs.length := waveL_len h
/-- a tuple of integers by its places -/
theorem tup_ext {n : Nat} (hx : xs.length = n) (hy : ys.length = n) (h : ∀ i < n, xs.getD i 0 = ys.getD i 0) : xs = ys := by
  rw [← self_getD xs, ← self_getD ys, hx, hy]
  exact List.map_congr_left fun i hi => h i (List.mem_range.mp hi)
theorem wave_range (h : SizeOk xs.length) : waveL xs = (List.range xs.length).map (W xs) := by
  have := self_getD (waveL xs)
  rw [len_wave h] at this
  exact this.symm
theorem sum_S (xs : List Int) : xs.sum = S xs.length fun i => xs.getD i 0 := by
  conv => lhs; rw [← self_getD xs]
  rfl
theorem alike_S (h : IsF xs) (h2 : IsF ys) (hl : ys.length = xs.length) : alikeL xs ys = S xs.length fun i => ep xs i * ep ys i := by
  have := alike_row xs (fun i => ys.getD i 0) h.2 (fun i hi => get_bit h2 (by omega))
  rw [← hl, self_getD] at this
  unfold alikeL
  rw [← hl, this, row_S]
  have : (signL xs).length = ys.length := by rw [signL, List.length_map, hl]
  rw [this]
  exact S_congr fun i hi => by rw [signL_getD (by omega)]; rfl
theorem moved_get {p i : Nat} (hi : i < xs.length) : (movedL xs p).getD i 0 = xs.getD (i ^^^ p) 0 := by
  rw [movedL, ge_range hi]
theorem isF_moved (h : IsF xs) {p : Nat} (hp : p < xs.length) : IsF (movedL xs p) := by
  refine ⟨by rw [movedL_len]; exact h.1, ?_⟩
  intro x hx
  obtain ⟨i, hi, rfl⟩ := List.mem_map.mp hx
  exact get_bit h (xor_lt h.1 (List.mem_range.mp hi) hp)
theorem echo_S (h : IsF xs) {s : Nat} (hs : s < xs.length) : (echoL xs).getD s 0 = S xs.length fun i => ep xs i * ep xs (i ^^^ s) := by
  have e : (echoL xs).getD s 0 = alikeL xs (movedL xs s) := by rw [echoL, ge_range hs]; rfl
  rw [e, alike_S h (isF_moved h hs) movedL_len]
  exact S_congr fun i hi => by unfold ep; rw [moved_get hi]
theorem like_S (h : IsF xs) (h2 : IsF ys) (hl : ys.length = xs.length) : likeL xs ys = S xs.length fun i => ep xs i * ep ys i := by
  rw [like_alike xs ys hl.symm, ← alike_S h h2 hl]
  rfl
theorem isF_straight {n m : Nat} (h : SizeOk n) : IsF (straightL n m) := by
  refine ⟨by rw [straight_len]; exact h, ?_⟩
  intro x hx
  obtain ⟨i, hi, rfl⟩ := List.mem_map.mp hx
  rcases odd_01 m i with e | e <;> rw [e] <;> simp
theorem ep_straight {n m i : Nat} (hi : i < n) (hm : m < 16) (hn : n ≤ 16) : ep (straightL n m) i = sg m i := by
  rw [ep, straightL, ge_range hi, sg_odd hm (by omega)]
theorem like_wave (h : IsF xs) {m : Nat} (hm : m < xs.length) : likeL xs (straightL xs.length m) = W xs m := by
  have hn := size_le h.1
  rw [like_S h (isF_straight h.1) straight_len, W_S h.1 hm]
  exact S_congr fun i hi => by rw [ep_straight hi (by omega) hn]
theorem alike_wave (h : IsF xs) {m : Nat} (hm : m < xs.length) : alikeL xs (straightL xs.length m) = W xs m := by
  have hn := size_le h.1
  rw [alike_S h (isF_straight h.1) straight_len, W_S h.1 hm]
  exact S_congr fun i hi => by rw [ep_straight hi (by omega) hn]
theorem isF_lean (h : IsF xs) {m : Nat} : IsF (leanL xs m) := by
  refine ⟨by simpa [leanL] using h.1, ?_⟩
  intro x hx
  obtain ⟨i, hi, rfl⟩ := List.mem_map.mp hx
  omega
theorem isF_opp (h : IsF xs) : IsF (oppL xs) := by
  refine ⟨by rw [oppL_len]; exact h.1, ?_⟩
  intro x hx
  obtain ⟨y, hy, rfl⟩ := List.mem_map.mp hx
  have := h.2 y hy
  omega
theorem lean_len {m : Nat} : (leanL xs m).length = xs.length := by simp [leanL]
theorem ep_lean (h : IsF xs) {m i : Nat} (hm : m < 16) (hi : i < xs.length) : ep (leanL xs m) i = ep xs i * sg m i := by
  have hn := size_le h.1
  unfold ep
  rw [leanL, ge_range hi, sg_odd hm (by omega)]
  rcases get_bit h hi with e | e <;> rcases odd_01 m i with e' | e' <;> rw [e, e'] <;> rfl
theorem ep_opp {i : Nat} (hi : i < xs.length) : ep (oppL xs) i = -ep xs i := by
  unfold ep oppL
  rw [map_getD, ge_range hi]
  omega
theorem ep_moved {p i : Nat} (hi : i < xs.length) : ep (movedL xs p) i = ep xs (i ^^^ p) := by
  unfold ep; rw [moved_get hi]
end
end Sw
end

section
/-! SwT4: the laws' helpers. -/
namespace Sw
open PySem (Str)
section
variable {T : Fn → Option FDef} {k : Nat} {st rest : Store} {xs ys : List Int} {i j m n p : Nat} {ns : List Int} {t : List Val} {C : Orc} {ρ : Env}
local macro_rules | `(tactic| bv_omega) => `(tactic| first | (simp only [setAll, wipeAll, List.set_cons_succ, List.set_cons_zero]; exact rfl) | exact rfl)
local macro_rules | `(tactic| array_mem_dec) => `(tactic| first
  | exact idp (by assumption)
  | omega
  | (refine ⟨?_, ?_⟩ <;> omega)
  | exact b_range (by omega)
  | exact b_map (b_range (by omega))
  | exact b_map (by omega)
  | exact b_filter (by omega)
  | exact b_filter (b_range (by omega))
  | exact isF_size (by assumption)
  | exact isF_ne (by assumption)
  | exact wave_ne (by assumption)
  | exact wave_ne (isF_size (by assumption))
  | (simp only [List.length_map, List.length_range, List.length_cons, List.length_nil, List.length_append, rep_len]; omega)
  | (simp only [List.length_cons, List.length_nil, rep_len]; decide)
  | (refine ⟨?_, ?_⟩ <;> (simp only [List.length_cons, List.length_nil, rep_len]; decide))
  | fail)
local macro_rules | `(tactic| array_get_dec) => `(tactic| repeat' first
  | (guard_target = ev _ _ _ _ = _; first
    | ((with_reducible apply w_var); exact rfl)
    | with_reducible exact ev_ci
    | with_reducible apply w_call
    | with_reducible apply x_bin
    | with_reducible apply x_idx
    | with_reducible apply x_b1
    | with_reducible apply x_lc
    | with_reducible apply x_lcf
    | with_reducible apply x_cmp
    | with_reducible exact ev_cb
    | with_reducible exact ev_cn
    | with_reducible exact ev_cs
    | with_reducible exact ev_sizes
    | with_reducible exact ev_fv
    | with_reducible apply x_chain
    | with_reducible apply w_neg
    | with_reducible apply w_not
    | with_reducible apply w_and
    | with_reducible apply w_or
    | with_reducible apply w_ife
    | with_reducible apply w_b2
    | with_reducible apply w_m1
    | with_reducible apply w_isi
    | with_reducible apply w_tup
    | with_reducible apply w_lst
    | with_reducible apply w_sl)
  | (guard_target = TF _ _ _ _; first | with_reducible apply tf_or | with_reducible apply tf_not | with_reducible apply tf_neW | with_reducible apply tf_isnotW | with_reducible apply tf_ofW)
  | (guard_target = TT _ _ _ _; first | with_reducible apply tt_and | with_reducible apply tt_not | with_reducible apply tt_eqW | with_reducible apply tt_isW | with_reducible apply tt_ofW)
  | (guard_target = SameV _ _; first | with_reducible apply sv_int | with_reducible apply sv_tup | with_reducible apply sv_lst | with_reducible apply sv_tv | with_reducible apply sv_bl | with_reducible apply sv_blv | apply sv_lst | apply sv_tv | apply sv_tup)
  | (guard_target = callN _ _ _ _ _ = _; sizeOf_list_dec)
  | (guard_target = evs _ _ _ _ = _; first | with_reducible exact w_nil | with_reducible apply w_cons)
  | (guard_target = evi _ _ _ _ = _; first | with_reducible apply w_range | with_reducible apply x_over | with_reducible apply x_zip | with_reducible apply x_enum)
  | (guard_target = evo _ _ _ _ = _; first | with_reducible exact w_on | with_reducible apply w_os)
  | (guard_target = bo _ _ _ = _; first
    | with_reducible exact xd_add | with_reducible exact xd_sub
    | with_reducible exact xd_modN (by omega) | with_reducible exact xd_divN (by omega) | with_reducible exact xd_mod (by omega) | with_reducible exact xd_div (by omega)
    | with_reducible exact xd_mulL (by unfold Small; omega) | with_reducible exact xd_mulR (by unfold Small; omega)
    | with_reducible exact xd_addL (by array_mem_dec) | with_reducible exact xd_addT (by array_mem_dec) | with_reducible exact xd_addLT (by array_mem_dec) | with_reducible apply xd_mulT | with_reducible apply xd_mulT'
    | with_reducible apply xd_mulL
    | exact x_modN (by omega) | exact x_divN (by omega) | exact x_div (by omega) | exact x_mod (by omega) | exact x_add | exact x_sub | exact x_addL (by array_mem_dec) | exact x_addT (by array_mem_dec) | exact x_addLT (by array_mem_dec) | apply x_mulT)
  | (guard_target = co _ _ _ = _; first
    | with_reducible exact xd_eqI | with_reducible exact xd_neI | with_reducible exact xd_lt | with_reducible exact xd_le | with_reducible exact xd_gt | with_reducible exact xd_ge
    | with_reducible exact xd_in | with_reducible exact xd_notin | with_reducible exact xd_inT | with_reducible exact xd_notinT
    | with_reducible exact xd_eqT | with_reducible exact xd_neT | with_reducible exact xd_eqL | with_reducible exact xd_neL | with_reducible exact xd_eqB | with_reducible exact xd_neB | with_reducible exact xd_isB | with_reducible exact xd_isnotB
    | exact x_in | exact x_notin | exact x_inT | exact x_notinT | exact x_eqT | exact x_neT | exact x_eqL | exact x_neL)
  | (guard_target = oix _ _ = _; first | apply x_sgn | with_reducible apply xd_ixT | with_reducible apply xd_ixL | with_reducible apply xd_ixTv | apply x_ixT | apply x_ixL | apply x_ixTv | with_reducible refine xd_ixT' ?_ | with_reducible refine xd_ixL' ?_)
  | (guard_target = o1 _ _ = _; first
    | with_reducible exact xd_lenM | with_reducible exact xd_len | with_reducible exact xd_lenT | with_reducible exact xd_lenTv | with_reducible exact xd_tuple | with_reducible exact xd_list | with_reducible exact xd_sum | with_reducible exact xd_sumT | with_reducible exact xd_all
    | with_reducible apply xd_max | with_reducible apply xd_maxT | with_reducible apply xd_min | with_reducible apply xd_minT | with_reducible apply xd_sorted | with_reducible exact xd_lenV | with_reducible exact xd_listL | with_reducible exact xd_tupleT
    | exact x_tuple | exact x_len | exact x_lenTv | exact x_sum | apply x_max | apply x_min | apply x_sorted)
  | (guard_target = ovr _ _ = _; first | with_reducible exact x_overL | with_reducible exact x_overT | with_reducible exact x_overTv | with_reducible exact x_overV | with_reducible exact x_overVT)
  | (guard_target = zpo _ _ = _; first | with_reducible apply x_zipTT | with_reducible apply x_zipLL | with_reducible apply x_zipTL)
  | (guard_target = eno _ _ = _; first | with_reducible exact x_enumT | with_reducible exact x_enumL)
  | (guard_target = Val.lst _ = _; first
    | with_reducible exact cv_id | with_reducible exact cv_int | with_reducible exact cv_bl | with_reducible exact cv_tid | with_reducible exact cv_tup
    | with_reducible exact cv_l0 | with_reducible exact cv_l1 | with_reducible exact cv_l2 | with_reducible exact cv_l3 | with_reducible exact cv_l4 | with_reducible exact cv_l5 | with_reducible exact cv_lt1 | with_reducible exact cv_lt2 | exact cv_int | exact rfl)
  | (guard_target = Val.tup _ = _; first | with_reducible exact cv_t0 | with_reducible exact cv_t1 | with_reducible exact cv_t2 | with_reducible exact cv_t3 | with_reducible exact cv_t4 | with_reducible exact cv_t8 | exact rfl)
  | (guard_target = ∀ _, setAll _ _ _ = _; intro a; bv_omega)
  | (intro a ha; guard_target = Val.pure _ = _; exact rfl)
  | with_reducible exact cv_iteI | with_reducible exact cv_iteT | with_reducible exact cv_iteL | with_reducible exact cv_iteB
  | ((fail_if_success (guard_target = ev _ _ _ _ = _)); exact rfl)
  | exact castS
  | exact idp (by assumption)
  | exact isF_size (by assumption)
  | exact isF_ne (by assumption)
  | exact wave_ne (by assumption)
  | exact wave_ne (isF_size (by assumption))
  | (intro a ha; (with_reducible replace ha := List.mem_range.mp ha); intro s)
  | intro _
  | array_mem_dec)
local macro_rules | `(tactic| sizeOf_list_dec) => `(tactic| first | apply c_odd | apply c_cross | apply c_bits | apply c_bit_count | apply c_common | apply c_exclusive)
/-- the script -/
abbrev sc (ns : List Int) : Val := .slst (ns.map .int)
theorem c_draw (ns : List Int) (t : List Val) (rest : Store) (ht : t.length < 90000) {many : Nat} (hm : 0 < many) (h_l_cell_at : T .l_cell_at = some D.law_cell_at := by first | assumption | rfl) (h_l_mixed : T .l_mixed = some D.law_mixed := by first | assumption | rfl) (h_l_draw : T .l_draw = some D.law_draw := by first | assumption | rfl) : ∃ (v : Nat) (t' : List Val), v < many ∧ t'.length = t.length + 1 ∧ callN T (k + 3) .l_draw [sc ns, .box 0, .int (many : Nat)] (.list t :: rest) = .ok (.int (v : Nat)) (.list t' :: rest) := by
  obtain ⟨v, v1, v2, hv⟩ := draw_ok (T := T) (k := k) (ns := ns) (st := .list t :: rest) h_l_cell_at h_l_mixed h_l_draw (b := 0) (town := t) rfl (by omega) (many : Nat) (by omega)
  refine ⟨v.toNat, t ++ [.int 0], by omega, by simp, ?_⟩
  rw [Int.toNat_of_nonneg v1]
  exact hv
theorem c_some (ns : List Int) (t : List Val) (rest : Store) (ht : t.length < 70000) {least most : Nat} (h1 : 1 ≤ least) (h2 : least ≤ most) (h3 : most ≤ 4) (h_l_cell_at : T .l_cell_at = some D.law_cell_at := by first | assumption | rfl) (h_l_mixed : T .l_mixed = some D.law_mixed := by first | assumption | rfl) (h_l_draw : T .l_draw = some D.law_draw := by first | assumption | rfl) (h_l_bits_in : T .l_bits_in = some D.law_bits_in := by first | assumption | rfl) (h_l_odd : T .l_odd = some D.law_odd := by first | assumption | rfl) (h_l_some_values : T .l_some_values = some D.law_some_values := by first | assumption | rfl) : ∃ (xs : List Int) (t' : List Val), IsF xs ∧ (∃ n, least ≤ n ∧ n ≤ most ∧ xs.length = 2 ^ n) ∧ t'.length ≤ t.length + 40 ∧ callN T (k + 4) .l_some_values [sc ns, .box 0, .int (least : Nat), .int (most : Nat)] (.list t :: rest) = .ok (.tup (iv xs)) (.list t' :: rest) := by
  obtain ⟨xs, t', a1, a2, a3, a4⟩ := some_ok (T := T) (k := k) (st := .list t :: rest) ⟨h_l_cell_at, h_l_mixed, h_l_draw, h_l_bits_in, h_l_odd, h_l_some_values⟩ (ns := ns) (b := 0) (town := t) rfl (by omega) h1 h2 h3
  exact ⟨xs, t', a1, a2, a3, a4⟩
/-- a list of draws -/
theorem w_draws (ht : t.length < 80000) {e : Ex} {q : Nat} {it : It} {many : Nat} (hm : 0 < many)
    (r0 : ∀ v, (setAll (wipeAll ρ [q]) [q] [v])[0]? = some (some (sc ns))) (r1 : ∀ v, (setAll (wipeAll ρ [q]) [q] [v])[1]? = some (some (.box 0))) (rm : ∀ v s, ev (callN T (k + 3)) e (setAll (wipeAll ρ [q]) [q] [v]) s = .ok (.int (many : Nat)) s)
    (hi : evi (callN T (k + 3)) it ρ (.list t :: rest) = .ok ((List.range n).map (fun i => [.int (i : Nat)]), none) (.list t :: rest)) (hn : n ≤ 1000) (h_l_cell_at : T .l_cell_at = some D.law_cell_at := by first | assumption | rfl) (h_l_mixed : T .l_mixed = some D.law_mixed := by first | assumption | rfl) (h_l_draw : T .l_draw = some D.law_draw := by first | assumption | rfl) :
    ∃ (ds : List Nat) (t' : List Val), ds.length = n ∧ (∀ d ∈ ds, d < many) ∧ t'.length = t.length + n ∧ ev (callN T (k + 3)) (.lc (.call .l_draw (.cons (.var 0) (.cons (.var 1) (.cons e .nil)))) [q] it .none) ρ (.list t :: rest) = .ok (.lst (iv (ni ds))) (.list t' :: rest) := by
  obtain ⟨ds, d1, d2, d3⟩ := draws_ok (T := T) (k := k) (ρ := ρ) (st := .list t :: rest) (st0 := .list t :: rest) h_l_cell_at h_l_mixed h_l_draw (ns := ns) (b := 0) (town := t) rfl (me := .call .l_draw (.cons (.var 0) (.cons (.var 1) (.cons e .nil)))) (m := e) rfl (j := q) (n := n) (it := it) (many := (many : Nat)) (by omega) r0 r1 rm hi (by omega) hn
  refine ⟨ds.map Int.toNat, t ++ zs n, by simpa using d1, ?_, by simp [zs], ?_⟩
  · intro d hd
    obtain ⟨x, hx, rfl⟩ := List.mem_map.mp hd
    have := d2 x hx
    omega
  · have : ni (ds.map Int.toNat) = ds := by
      rw [ni, List.map_map]
      conv => rhs; rw [← List.map_id ds]
      apply List.map_congr_left
      intro x hx
      have := d2 x hx
      simp only [Function.comp, id]
      omega
    rw [this]
    exact d3
theorem isF_draws {ds : List Nat} (h : SizeOk ds.length) (hd : ∀ d ∈ ds, d < 2) : IsF (ni ds) := by
  refine ⟨by simpa using h, ?_⟩
  intro x hx
  obtain ⟨d, hd', rfl⟩ := List.mem_map.mp hx
  have := hd d hd'
  omega
/-- some of the places, as the draws tell -/
theorem comp_town {α : Type} {en : α → List Val} {g : α → Val} {P : α → Prop} {f : List Val → Store → Res (Option Val)} : ∀ (l : List α) (t : List Val) (acc : List Val),
    (∀ a ∈ l, ∀ (t acc : List Val), t.length < 80000 → ∃ (t' : List Val) (b : Bool), t'.length ≤ t.length + 1 ∧ (b = true → P a) ∧ f (en a) (.list t :: (rest ++ [.list acc])) = .ok (if b then some (g a) else none) (.list t' :: (rest ++ [.list acc]))) →
    (∀ a ∈ l, (g a).pure = true) → t.length + l.length < 80000 → acc.length + l.length ≤ 1000 →
    ∃ (t' : List Val) (sel : List α), sel.Sublist l ∧ (∀ a ∈ sel, P a) ∧ t'.length ≤ t.length + l.length ∧ compLoop none f (l.map en) (.list t :: rest) acc = .ok (acc ++ sel.map g) (.list t' :: rest)
  | [], t, acc, _, _, _, _ => ⟨t, [], List.Sublist.refl _, (fun _ h => by cases h), by simp, by simp [compLoop]⟩
  | a :: l, t, acc, hs, hp, ht, hl => by
    simp only [List.length_cons] at ht hl
    obtain ⟨t1, b, h1, h2, h3⟩ := hs a (by simp) t acc (by omega)
    have hsp : splitLast (.list t1 :: (rest ++ [Cell.list acc])) = some (.list t1 :: rest, acc) := splitLast_snoc (.list t1 :: rest) acc
    have hlen : (Cell.list t1 :: (rest ++ [Cell.list acc])).length = (Cell.list t :: rest).length + 1 := by simp
    cases b with
    | false =>
      obtain ⟨t', sel, s1, s2, s3, s4⟩ := comp_town l t1 acc (fun a ha => hs a (by simp [ha])) (fun a ha => hp a (by simp [ha])) (by omega) (by omega)
      refine ⟨t', sel, s1.cons _, s2, by simp; omega, ?_⟩
      have h3' : f (en a) (Cell.list t :: rest ++ [Cell.list acc]) = .ok none (.list t1 :: (rest ++ [.list acc])) := h3
      simp only [List.map_cons, compLoop, bxOk, if_true, h3']
      rw [if_pos hlen, hsp]
      exact s4
    | true =>
      obtain ⟨t', sel, s1, s2, s3, s4⟩ := comp_town l t1 (acc ++ [g a]) (fun a ha => hs a (by simp [ha])) (fun a ha => hp a (by simp [ha])) (by omega) (by simp; omega)
      refine ⟨t', a :: sel, s1.cons_cons _, ?_, by simp; omega, ?_⟩
      · intro c hc
        rcases List.mem_cons.mp hc with rfl | hc
        · exact h2 rfl
        · exact s2 c hc
      have h3' : f (en a) (Cell.list t :: rest ++ [Cell.list acc]) = .ok (some (g a)) (.list t1 :: (rest ++ [.list acc])) := h3
      simp only [List.map_cons, compLoop, bxOk, if_true, h3']
      rw [if_pos hlen, hsp]
      simp only [hp a (by simp), Bool.true_and]
      rw [if_pos (by rw [decide_eq_true_eq]; exact Nat.lt_of_lt_of_le (show acc.length < 1000 by omega) (by decide)), s4]
      simp
theorem w_sel {α : Type} {en : α → List Val} {gg : α → Val} {P : α → Prop} {it : It} {tg : List Nat} {c e : Ex} {l : List α} (hi : evi C it ρ (.list t :: rest) = .ok (l.map en, none) (.list t :: rest)) (hl : l.length ≤ 1000) (ht : t.length < 70000)
    (hc : ∀ a ∈ l, ∀ (t acc : List Val), t.length < 80000 → ∃ (t' : List Val) (b : Bool), t'.length ≤ t.length + 1 ∧ (b = true → P a) ∧ ev C c (setAll (wipeAll ρ tg) tg (en a)) (.list t :: (rest ++ [.list acc])) = .ok (.bl b) (.list t' :: (rest ++ [.list acc])))
    (hg : ∀ a ∈ l, ∀ s, ev C e (setAll (wipeAll ρ tg) tg (en a)) s = .ok (gg a) s) (hp : ∀ a ∈ l, (gg a).pure = true) :
    ∃ (t' : List Val) (sel : List α), sel.Sublist l ∧ (∀ a ∈ sel, P a) ∧ t'.length ≤ t.length + l.length ∧ ev C (.lc e tg it (.some c)) ρ (.list t :: rest) = .ok (.lst (sel.map gg)) (.list t' :: rest) := by
  obtain ⟨t', sel, s1, s2, s3, s4⟩ := comp_town (rest := rest) (en := en) (g := gg) (P := P) (f := lcStep C (.some c) e ρ tg) l t [] (fun a ha t acc ht => by
    obtain ⟨t', b, h1, h2, h3⟩ := hc a ha t acc ht
    refine ⟨t', b, h1, h2, ?_⟩
    unfold lcStep
    simp only [evc, h3, Res.bind_ok, boolV_bl, lift_some]
    cases b with
    | true => simp only [if_true, hg a ha, Res.bind_ok]
    | false => simp) hp (by omega) (by simpa using hl)
  refine ⟨t', sel, s1, s2, s3, ?_⟩
  rw [ev_lc hi (by simpa using lim_big hl)]
  simp only
  rw [s4]
  simp
theorem c_same_number {a b : Int} (h_l_same_number : T .l_same_number = some D.law_same_number := by first | assumption | rfl) : callN T (k + 1) .l_same_number [.int a, .int b] st = .ok (.bl (a == b)) st := by
  refine call_as (d := D.law_same_number) h_l_same_number rfl rfl (q_ret (v := .bl (true && (!false && (a == b)))) ?_) (by simp)
  array_get_dec
theorem c_same {a b : Int} (h : a = b) (h_l_same_number : T .l_same_number = some D.law_same_number := by first | assumption | rfl) : callN T (k + 1) .l_same_number [.int a, .int b] st = .ok (.bl true) st := by
  rw [c_same_number, h]; simp
theorem c_same_truth {a b : Bool} (h_l_same_truth : T .l_same_truth = some D.law_same_truth := by first | assumption | rfl) : callN T (k + 1) .l_same_truth [.bl a, .bl b] st = .ok (.bl (a == b)) st := by
  refine call_as (d := D.law_same_truth) h_l_same_truth rfl rfl (q_ret (v := .bl (true && (a == b))) ?_) (by simp)
  array_get_dec
theorem c_like (hx : xs.length ≤ 16) (h_l_like : T .l_like = some D.law_like := by first | assumption | rfl) : callN T (k + 1) .l_like [.tup (iv xs), .lst (iv ys)] st = .ok (.int (likeL xs ys)) st := like_ok h_l_like (by omega)
local macro_rules | `(tactic| sizeOf_list_dec) => `(tactic| first | apply c_like)
theorem c_likes (h : IsF xs) (h_l_bits_in : T .l_bits_in = some D.law_bits_in := by first | assumption | rfl) (h_l_odd : T .l_odd = some D.law_odd := by first | assumption | rfl) (h_l_like : T .l_like = some D.law_like := by first | assumption | rfl) (h_l_likes : T .l_likes = some D.law_likes := by first | assumption | rfl) : callN T (k + 3) .l_likes [.tup (iv xs)] st = .ok (.tup (iv (waveL xs))) st := by
  have hn := isF_len h
  refine call_as (d := D.law_likes) h_l_likes rfl rfl (q_set (v := .int (xs.length : Nat)) (st1 := st) (w_b1 (w_var rfl) o_lenT) (q_ret (v := .tup (iv ((List.range xs.length).map fun m => likeL xs (straightL xs.length m)))) ?_)) ?_
  · unfold straightL
    array_get_dec
  · rw [wave_range h.1]
    congr 2
    exact List.map_congr_left fun m hm => like_wave h (List.mem_range.mp hm)
theorem inside_tab : ∀ m < 16, ∀ p < 16, decide (((bitsI (m : Nat)).filter fun i => !(bitsI (p : Nat)).any (· == i)) = []) = decide (m &&& p = m) := by decide +kernel
theorem c_inside (hm : m < 16) (hp : p < 16) (h_l_bits_in : T .l_bits_in = some D.law_bits_in := by first | assumption | rfl) (h_l_inside : T .l_inside = some D.law_inside := by first | assumption | rfl) : callN T (k + 2) .l_inside [.int (m : Nat), .int (p : Nat)] st = .ok (.bl (decide (m &&& p = m))) st := by
  have hb := bitsI_len (m : Nat)
  have hb2 := bitsI_len (p : Nat)
  refine call_as (d := D.law_inside) h_l_inside rfl rfl (q_set (v := .lst (iv (bitsI (p : Nat)))) (st1 := st) (w_call (w_cons (w_var rfl) w_nil) c_bits) (q_ret (v := .bl (decide (((bitsI (m : Nat)).filter fun i => !(bitsI (p : Nat)).any (· == i)) = []))) ?_)) (by rw [inside_tab m hm p hp])
  array_get_dec
/-! draws as statements -/
variable {ss : Sts} {e : Ex} {q : Nat}
theorem d_draw {many : Nat} {ρl : Nat → Env} (h0 : ρ[0]? = some (some (sc ns))) (h1 : ρ[1]? = some (some (.box 0))) (he : ev (callN T (k + 3)) e ρ (.list t :: rest) = .ok (.int (many : Nat)) (.list t :: rest)) (ht : t.length < 90000) (hm : 0 < many) (hρ : ∀ v : Nat, ρ.set i (some (.int (v : Nat))) = ρl v) (kk : ∀ (v : Nat) (t' : List Val), v < many → t'.length = t.length + 1 → Done (execs (callN T (k + 3)) ss (ρl v) (.list t' :: rest))) (h_l_cell_at : T .l_cell_at = some D.law_cell_at := by first | assumption | rfl) (h_l_mixed : T .l_mixed = some D.law_mixed := by first | assumption | rfl) (h_l_draw : T .l_draw = some D.law_draw := by first | assumption | rfl) :
    Done (execs (callN T (k + 3)) (.cons (.set i (.call .l_draw (.cons (.var 0) (.cons (.var 1) (.cons e .nil))))) ss) ρ (.list t :: rest)) := by
  obtain ⟨v, t', a1, a2, a3⟩ := c_draw (T := T) (k := k) ns t rest ht hm
  refine d_set (w_call (w_cons (w_var h0) (w_cons (w_var h1) (w_cons he w_nil))) a3) (hρ v) (kk v t' a1 a2)
theorem d_some {a b : Ex} {least most : Nat} {ρl : List Int → Env} (h0 : ρ[0]? = some (some (sc ns))) (h1 : ρ[1]? = some (some (.box 0))) (ha : ev (callN T (k + 4)) a ρ (.list t :: rest) = .ok (.int (least : Nat)) (.list t :: rest)) (hb : ev (callN T (k + 4)) b ρ (.list t :: rest) = .ok (.int (most : Nat)) (.list t :: rest)) (ht : t.length < 70000) (h2 : 1 ≤ least) (h3 : least ≤ most) (h4 : most ≤ 4) (hρ : ∀ xs, ρ.set i (some (.tup (iv xs))) = ρl xs) (kk : ∀ (xs : List Int) (t' : List Val), IsF xs → (∃ n, least ≤ n ∧ n ≤ most ∧ xs.length = 2 ^ n) → t'.length ≤ t.length + 40 → Done (execs (callN T (k + 4)) ss (ρl xs) (.list t' :: rest))) (h_l_cell_at : T .l_cell_at = some D.law_cell_at := by first | assumption | rfl) (h_l_mixed : T .l_mixed = some D.law_mixed := by first | assumption | rfl) (h_l_draw : T .l_draw = some D.law_draw := by first | assumption | rfl) (h_l_bits_in : T .l_bits_in = some D.law_bits_in := by first | assumption | rfl) (h_l_odd : T .l_odd = some D.law_odd := by first | assumption | rfl) (h_l_some_values : T .l_some_values = some D.law_some_values := by first | assumption | rfl) :
    Done (execs (callN T (k + 4)) (.cons (.set i (.call .l_some_values (.cons (.var 0) (.cons (.var 1) (.cons a (.cons b .nil)))))) ss) ρ (.list t :: rest)) := by
  obtain ⟨xs, t', a1, a2, a3, a4⟩ := c_some (T := T) (k := k) ns t rest ht h2 h3 h4
  exact d_set (w_call (w_cons (w_var h0) (w_cons (w_var h1) (w_cons ha (w_cons hb w_nil)))) a4) (hρ xs) (kk xs t' a1 a2 a3)
theorem d_draws {many : Nat} {it : It} {ρl : List Nat → Env} (r0 : ∀ v, (setAll (wipeAll ρ [q]) [q] [v])[0]? = some (some (sc ns))) (r1 : ∀ v, (setAll (wipeAll ρ [q]) [q] [v])[1]? = some (some (.box 0))) (rm : ∀ v s, ev (callN T (k + 3)) e (setAll (wipeAll ρ [q]) [q] [v]) s = .ok (.int (many : Nat)) s) (hi : evi (callN T (k + 3)) it ρ (.list t :: rest) = .ok ((List.range n).map (fun i => [.int (i : Nat)]), none) (.list t :: rest)) (ht : t.length < 80000) (hm : 0 < many) (hn : n ≤ 1000) (hρ : ∀ ds, ρ.set i (some (.tup (iv (ni ds)))) = ρl ds) (kk : ∀ (ds : List Nat) (t' : List Val), ds.length = n → (∀ d ∈ ds, d < many) → t'.length = t.length + n → Done (execs (callN T (k + 3)) ss (ρl ds) (.list t' :: rest))) (h_l_cell_at : T .l_cell_at = some D.law_cell_at := by first | assumption | rfl) (h_l_mixed : T .l_mixed = some D.law_mixed := by first | assumption | rfl) (h_l_draw : T .l_draw = some D.law_draw := by first | assumption | rfl) :
    Done (execs (callN T (k + 3)) (.cons (.set i (.b1 .tuple (.lc (.call .l_draw (.cons (.var 0) (.cons (.var 1) (.cons e .nil)))) [q] it .none))) ss) ρ (.list t :: rest)) := by
  obtain ⟨ds, t', a1, a2, a3, a4⟩ := w_draws (T := T) (k := k) (ρ := ρ) (t := t) (rest := rest) (ns := ns) ht (e := e) (q := q) (it := it) hm r0 r1 rm hi hn
  exact d_set (w_b1 a4 rfl) (hρ ds) (kk ds t' a1 a2 a3)
end
end Sw
end

section
/-! SwS2: products of waves. -/
namespace Sw
section
variable {xs ys zs : List Int} {s u m : Nat}
/-- the likenesses with shifts by the products of the waves -/
theorem conv_S (hx : SizeOk xs.length) (hl : ys.length = xs.length) (hs : s < xs.length) : S xs.length (fun u => W xs u * W ys u * sg u s) = xs.length * S xs.length fun i => ep xs i * ep ys (i ^^^ s) := by
  have hn := size_le hx
  have e1 : S xs.length (fun u => W xs u * W ys u * sg u s) = S xs.length fun u => S xs.length fun i => S xs.length fun j => ep xs i * ep ys j * (sg u (i ^^^ s) * sg u j) := S_congr fun u hu => by
    rw [W_S hx hu, W_S (xs := ys) (by rw [hl]; exact hx) (by omega), hl, S_mul, ← S_mulR]
    exact S_congr fun i hi => by
      rw [← S_mulR]
      exact S_congr fun j hj => by
        rw [sg_mul (by omega) (by omega) (by omega)]
        grind
  rw [e1, S_swap, ← S_mulL]
  refine S_congr fun i hi => ?_
  rw [S_swap]
  have e2 : S xs.length (fun j => S xs.length fun u => ep xs i * ep ys j * (sg u (i ^^^ s) * sg u j)) = S xs.length fun j => if j = i ^^^ s then (xs.length : Int) * (ep xs i * ep ys j) else 0 := S_congr fun j hj => by
    rw [S_mulL, sg_orth hx (xor_lt hx hi hs) hj]
    by_cases e : i ^^^ s = j
    · rw [if_pos e, if_pos e.symm, Int.mul_comm]
    · rw [if_neg e, if_neg (fun h => e h.symm)]; simp
  rw [e2, S_delta _ (xor_lt hx hi hs)]
theorem sg_z (h : u < 16) : sg u 0 = 1 := by rw [sg_com h (by omega)]; exact sg_zero u h
theorem plain_S (hx : SizeOk xs.length) (hl : ys.length = xs.length) : S xs.length (fun u => W xs u * W ys u) = xs.length * S xs.length fun i => ep xs i * ep ys i := by
  have hn := size_le hx
  have h0 := size_pos hx
  have := conv_S hx hl (s := 0) (by omega)
  have e : S xs.length (fun u => W xs u * W ys u * sg u 0) = S xs.length (fun u => W xs u * W ys u) := S_congr fun u hu => by rw [sg_z (by omega)]; omega
  rw [e] at this
  rw [this]
  simp
/-- the sum of two functions -/
def bothL (xs ys : List Int) : List Int := (List.range xs.length).map fun i => (xs.getD i 0 + ys.getD i 0) % 2
theorem both_len : (bothL xs ys).length = xs.length := by simp [bothL]
theorem isF_both (hx : SizeOk xs.length) : IsF (bothL xs ys) := by
  refine ⟨by rw [both_len]; exact hx, ?_⟩
  intro x h
  obtain ⟨i, _, rfl⟩ := List.mem_map.mp h
  omega
theorem ep_both (hx : IsF xs) (hy : IsF ys) (hl : ys.length = xs.length) {i : Nat} (hi : i < xs.length) : ep (bothL xs ys) i = ep xs i * ep ys i := by
  unfold ep
  rw [bothL, ge_range hi]
  rcases get_bit hx hi with e | e <;> rcases get_bit hy (show i < ys.length by omega) with e' | e' <;> rw [e, e'] <;> rfl
/-- the wave of a sum by both waves -/
theorem both_S (hx : IsF xs) (hy : IsF ys) (hl : ys.length = xs.length) (hu : u < xs.length) : S xs.length (fun v => W xs (u ^^^ v) * W ys v) = xs.length * W (bothL xs ys) u := by
  have hn := size_le hx.1
  have e1 : S xs.length (fun v => W xs (u ^^^ v) * W ys v) = S xs.length fun v => W (leanL xs u) v * W ys v := S_congr fun v hv => by
    have e : W xs (u ^^^ v) = W (leanL xs u) v := by
      rw [W_S hx.1 (xor_lt hx.1 hu hv), W_S (xs := leanL xs u) (isF_lean hx).1 (by rw [lean_len]; exact hv), lean_len]
      exact S_congr fun i hi => by
        rw [ep_lean hx (by omega) hi, sg_mul' (by omega) (by omega) (by omega)]
        grind
    rw [e]
  have h2 := plain_S (xs := leanL xs u) (ys := ys) (isF_lean hx).1 (by rw [lean_len]; exact hl)
  rw [lean_len] at h2
  rw [e1, h2, W_S (xs := bothL xs ys) (isF_both hx.1).1 (by rw [both_len]; exact hu), both_len]
  congr 1
  exact S_congr fun i hi => by
    rw [ep_lean hx (by omega) hi, ep_both hx hy hl hi]
    grind
theorem apart_S (h : IsF xs) (h2 : IsF ys) (hl : ys.length = xs.length) : 2 * ((apartL xs ys : Nat) : Int) = S xs.length fun i => 1 - ep xs i * ep ys i := by
  have := alike_S h h2 hl
  unfold alikeL at this
  rw [S_sub, ← this, S_const]
  omega
theorem W0 (h : SizeOk xs.length) : W xs 0 = S xs.length (ep xs) := by
  have hn := size_le h
  rw [W_S h (by have := size_pos h; omega)]
  exact S_congr fun i hi => by rw [sg_zero i (by omega)]; omega
theorem sum_ep (xs : List Int) : 2 * xs.sum = xs.length - S xs.length (ep xs) := by
  rw [sum_S]
  unfold ep
  rw [S_sub, S_const, S_mulL]
  omega
theorem apart_tri (hx : IsF xs) (hy : IsF ys) (hz : IsF zs) (hl : ys.length = xs.length) (hl2 : zs.length = xs.length) : apartL xs ys ≤ apartL xs zs + apartL zs ys := by
  have a := apart_S hx hy hl
  have b := apart_S hx hz hl2
  have c := apart_S hz hy (by omega)
  rw [hl2] at c
  have d := S_le (n := xs.length) (f := fun i => 1 - ep xs i * ep ys i) (g := fun i => (1 - ep xs i * ep zs i) + (1 - ep zs i * ep ys i)) fun i hi => by
    rcases ep_pm hx hi with e | e <;> rcases ep_pm hy (show i < ys.length by omega) with e' | e' <;> rcases ep_pm hz (show i < zs.length by omega) with e'' | e'' <;> rw [e, e', e''] <;> decide
  rw [S_add] at d
  omega
end
end Sw
end

section
/-! SwU: more forms. -/
namespace Sw
open PySem (Str)
section
variable {st : Store} {xs ys : List Int} {i j : Int} {m n : Nat}
instance : Decidable (SizeOk n) := by unfold SizeOk; infer_instance
instance : Decidable (IsF xs) := by unfold IsF; infer_instance
theorem x_addN1 : bo .add (deref st (.int 1)) (deref st (.int (n : Nat))) = some (.int ((1 + n : Nat) : Int)) := by
  rw [xd_add]; rfl
theorem x_sizesL (h1 : 1 ≤ n) (h2 : n ≤ 4) : oix (deref st (.lst (iv [2, 4, 8, 16]))) (.int ((n : Nat) - 1)) = some (.int ((2 ^ n : Nat) : Int)) := by
  rw [oix_eq]
  have : n = 1 ∨ n = 2 ∨ n = 3 ∨ n = 4 := by omega
  rcases this with rfl | rfl | rfl | rfl <;> rfl
theorem size_pow (h1 : 1 ≤ n) (h2 : n ≤ 4) : SizeOk (2 ^ n) := by
  have : n = 1 ∨ n = 2 ∨ n = 3 ∨ n = 4 := by omega
  rcases this with rfl | rfl | rfl | rfl <;> decide
theorem rep_one (n : Nat) (x : Int) : rep n [x] = List.replicate n x := by
  induction n with
  | zero => rfl
  | succ n ih => simp only [rep, List.replicate_succ, List.flatten_cons] at ih ⊢; rw [ih]; rfl
theorem isF_rep (h : SizeOk n) (hx : i = 0 ∨ i = 1) : IsF (rep n [i]) := by
  rw [rep_one]
  refine ⟨by simpa using h, fun x h => ?_⟩
  rw [List.eq_of_mem_replicate h]
  exact hx
end
end Sw
end

section
/-! SwM: terms by masks inside places. -/
namespace Sw
/-- 1 if the mask is in the place -/
def inB (p m : Nat) : Int := if p &&& m = p then 1 else 0
theorem S_split (a b : Nat) (f : Nat → Int) : S (a + b) f = S a f + S b fun i => f (i + a) := by
  induction b with
  | zero => simp [S_zero]
  | succ b ih =>
    rw [show a + (b + 1) = (a + b) + 1 by omega, S_succ, S_succ, ih, show a + b = b + a by omega]
    omega
theorem S_mod {n : Nat} {f g : Nat → Int} (h : ∀ i < n, f i % 2 = g i % 2) : S n f % 2 = S n g % 2 := by
  induction n with
  | zero => rfl
  | succ n ih =>
    rw [S_succ, S_succ]
    have h1 := ih fun i hi => h i (by omega)
    have h2 := h n (by omega)
    omega
theorem in_tab : ∀ k < 4, ∀ p < 2 ^ k, ∀ m < 2 ^ k, inB (p + 2 ^ k) m = 0 ∧ inB p (m + 2 ^ k) = inB p m ∧ inB (p + 2 ^ k) (m + 2 ^ k) = inB p m := by decide +kernel
theorem folded_S : ∀ (k : Nat) (xs : List Int), k ≤ 4 → xs.length = 2 ^ k → (∀ x ∈ xs, x = 0 ∨ x = 1) → ∀ m < 2 ^ k, (foldedL k xs).getD m 0 = S (2 ^ k) (fun p => inB p m * xs.getD p 0) % 2
  | 0, xs, _, h, hb, m, hm => by
    have hm0 : m = 0 := by simpa using hm
    subst hm0
    match xs, h with
    | [x], _ =>
      have : x = 0 ∨ x = 1 := hb x (by simp)
      rcases this with rfl | rfl <;> decide
  | k + 1, xs, hk, h, hb, m, hm => by
    obtain ⟨a1, a2⟩ := halves h
    have l1 := foldedL_len k _ a1
    have l2 := foldedL_len k _ a2
    have tab := in_tab k (by omega)
    have ih1 := folded_S k (xs.take (2 ^ k)) (by omega) a1 (fun x hx => hb x (List.mem_of_mem_take hx))
    have ih2 := folded_S k (xs.drop (2 ^ k)) (by omega) a2 (fun x hx => hb x (List.mem_of_mem_drop hx))
    have e2 : 2 ^ (k + 1) = 2 ^ k + 2 ^ k := by omega
    rw [e2, S_split]
    have hx1 : ∀ q, S (2 ^ k) (fun p => inB p q * xs.getD p 0) = S (2 ^ k) fun p => inB p q * (xs.take (2 ^ k)).getD p 0 := fun q => S_congr fun p hp => by rw [getD_take hp]
    have hx2 : ∀ f : Nat → Int, S (2 ^ k) (fun p => f p * xs.getD (p + 2 ^ k) 0) = S (2 ^ k) fun p => f p * (xs.drop (2 ^ k)).getD p 0 := fun f => S_congr fun p hp => by rw [getD_drop]
    simp only [foldedL]
    by_cases hlt : m < 2 ^ k
    · rw [getD_left (by omega), ih1 m hlt, hx1]
      have : S (2 ^ k) (fun i => inB (i + 2 ^ k) m * xs.getD (i + 2 ^ k) 0) = 0 := by
        rw [S_congr (g := fun _ => 0) fun i hi => by rw [(tab i hi m hlt).1]; simp, S_const]
        simp
      rw [this]
      simp
    · obtain ⟨m', rfl⟩ : ∃ m', m = m' + 2 ^ k := ⟨m - 2 ^ k, by omega⟩
      have hm' : m' < 2 ^ k := by omega
      have := getD_right (A := foldedL k (xs.take (2 ^ k))) (B := List.zipWith (fun a b => (a + b) % 2) (foldedL k (xs.take (2 ^ k))) (foldedL k (xs.drop (2 ^ k)))) (i := m')
      rw [l1] at this
      rw [this, getD_zw _ _ _ _ (by omega) (by omega), ih1 m' hm', ih2 m' hm', ← hx1]
      have e3 : S (2 ^ k) (fun p => inB p (m' + 2 ^ k) * xs.getD p 0) = S (2 ^ k) (fun p => inB p m' * xs.getD p 0) := S_congr fun p hp => by rw [(tab p hp m' hm').2.1]
      have e4 : S (2 ^ k) (fun i => inB (i + 2 ^ k) (m' + 2 ^ k) * xs.getD (i + 2 ^ k) 0) = S (2 ^ k) (fun p => inB p m' * (xs.drop (2 ^ k)).getD p 0) := by
        rw [← hx2]
        exact S_congr fun p hp => by rw [(tab p hp m' hm').2.2]
      rw [e3, e4]
      omega
section
variable {xs ys : List Int} {m p q s n : Nat}
/-- is the mask a term? -/
def cf (xs : List Int) (m : Nat) : Int := (foldL xs).getD m 0
theorem cf_S (h : IsF xs) (hm : m < xs.length) : cf xs m = S xs.length (fun p => inB p m * xs.getD p 0) % 2 := by
  obtain ⟨p1, p2⟩ := lg_pow h.1
  have := folded_S (lg xs.length) xs p2 p1 h.2 m (by omega)
  rw [cf, foldL, this, ← p1]
theorem cf_01 (h : IsF xs) (hm : m < xs.length) : cf xs m = 0 ∨ cf xs m = 1 := by
  rw [cf_S h hm]; omega
theorem in_orth : ∀ n ∈ [2, 4, 8, 16], ∀ p < n, ∀ q < n, S n (fun m => inB p m * inB m q) % 2 = if p = q then 1 else 0 := by decide +kernel
theorem mulmod (a b : Int) : a * b % 2 = (a % 2) * b % 2 := by
  rw [Int.mul_emod a b, Int.mul_emod (a % 2) b]; simp
theorem S_two {n : Nat} {f : Nat → Nat → Int} {x : Nat → Int} {g : Nat → Int} (hg : ∀ p < n, (S n fun m => f m p) % 2 = g p) : S n (fun m => S n fun p => f m p * x p) % 2 = S n (fun p => g p * x p) % 2 := by
  rw [S_swap]
  refine S_mod fun p hp => ?_
  rw [S_mulR, ← hg p hp]
  generalize S n (fun m => f m p) = A
  exact mulmod A (x p)
/-- the values by the terms -/
theorem cf_inv (h : IsF xs) (hq : q < xs.length) : S xs.length (fun m => inB m q * cf xs m) % 2 = xs.getD q 0 := by
  have e1 : S xs.length (fun m => inB m q * cf xs m) % 2 = S xs.length (fun m => S xs.length fun p => (inB p m * inB m q) * xs.getD p 0) % 2 := S_mod fun m hm => by
    rw [cf_S h hm]
    have : S xs.length (fun p => (inB p m * inB m q) * xs.getD p 0) = inB m q * S xs.length fun p => inB p m * xs.getD p 0 := by
      rw [← S_mulL]
      exact S_congr fun p _ => by grind
    rw [this, Int.mul_emod, Int.emod_emod_of_dvd _ (Int.dvd_refl 2), ← Int.mul_emod]
  rw [e1, S_two (g := fun p => if p = q then 1 else 0) fun p hp => in_orth _ (size_mem h.1) p hp q hq]
  have e2 : S xs.length (fun p => (if p = q then (1 : Int) else 0) * xs.getD p 0) = S xs.length fun p => if p = q then xs.getD p 0 else 0 := S_congr fun p _ => by split <;> simp
  rw [e2, S_delta _ hq]
  rcases get_bit h hq with e | e <;> rw [e] <;> rfl
theorem maxI_ge : ∀ (r : List Int) (x : Int), x ≤ maxI x r ∧ ∀ y ∈ r, y ≤ maxI x r
  | [], x => ⟨by simp [maxI], fun _ h => by cases h⟩
  | z :: r, x => by
    obtain ⟨h1, h2⟩ := maxI_ge r (if z > x then z else x)
    have hx : x ≤ (if z > x then z else x) ∧ z ≤ (if z > x then z else x) := by split <;> omega
    simp only [maxI]
    refine ⟨by omega, fun y hy => ?_⟩
    rcases List.mem_cons.mp hy with rfl | hy
    · omega
    · exact h2 y hy
theorem maxI_mem : ∀ (r : List Int) (x : Int), maxI x r ∈ x :: r
  | [], x => by simp [maxI]
  | z :: r, x => by
    have := maxI_mem r (if z > x then z else x)
    simp only [maxI]
    rcases List.mem_cons.mp this with e | e
    · rw [e]; split <;> simp
    · simp [e]
theorem maxL_ge {l : List Int} {y : Int} (h : y ∈ l) : y ≤ maxL l := by
  cases l with
  | nil => cases h
  | cons x r =>
    rcases List.mem_cons.mp h with rfl | h
    · exact (maxI_ge r _).1
    · exact (maxI_ge r x).2 y h
theorem maxL_mem {l : List Int} (h : l ≠ []) : maxL l ∈ l := by
  cases l with
  | nil => exact absurd rfl h
  | cons x r => exact maxI_mem r x
theorem minI_le : ∀ (r : List Int) (x : Int), minI x r ≤ x ∧ ∀ y ∈ r, minI x r ≤ y
  | [], x => ⟨by simp [minI], fun _ h => by cases h⟩
  | z :: r, x => by
    obtain ⟨h1, h2⟩ := minI_le r (if z < x then z else x)
    have hx : (if z < x then z else x) ≤ x ∧ (if z < x then z else x) ≤ z := by split <;> omega
    simp only [minI]
    refine ⟨by omega, fun y hy => ?_⟩
    rcases List.mem_cons.mp hy with rfl | hy
    · omega
    · exact h2 y hy
theorem minI_mem : ∀ (r : List Int) (x : Int), minI x r ∈ x :: r
  | [], x => by simp [minI]
  | z :: r, x => by
    have := minI_mem r (if z < x then z else x)
    simp only [minI]
    rcases List.mem_cons.mp this with e | e
    · rw [e]; split <;> simp
    · simp [e]
theorem minL_le {l : List Int} {y : Int} (h : y ∈ l) : minL l ≤ y := by
  cases l with
  | nil => cases h
  | cons x r =>
    rcases List.mem_cons.mp h with rfl | h
    · exact (minI_le r _).1
    · exact (minI_le r x).2 y h
theorem minL_mem {l : List Int} (h : l ≠ []) : minL l ∈ l := by
  cases l with
  | nil => exact absurd rfl h
  | cons x r => exact minI_mem r x
theorem term_iff : m ∈ termN xs ↔ m < xs.length ∧ cf xs m = 1 := by
  simp [termN, cf, List.mem_filter]
theorem deg_ge (hm : m < xs.length) (hc : cf xs m = 1) : ((bitN m : Nat) : Int) ≤ degL xs :=
  maxL_ge (List.mem_append.mpr (.inl (List.mem_map.mpr ⟨m, term_iff.mpr ⟨hm, hc⟩, rfl⟩)))
theorem deg_nonneg : 0 ≤ degL xs := maxL_ge (List.mem_append.mpr (.inr (by simp)))
theorem deg_att : degL xs = 0 ∨ ∃ m < xs.length, cf xs m = 1 ∧ ((bitN m : Nat) : Int) = degL xs := by
  have := maxL_mem (l := (termN xs).map (fun m => ((bitN m : Nat) : Int)) ++ [0]) (by simp)
  rcases List.mem_append.mp this with h | h
  · obtain ⟨m, hm, e⟩ := List.mem_map.mp h
    obtain ⟨h1, h2⟩ := term_iff.mp hm
    exact .inr ⟨m, h1, h2, e⟩
  · exact .inl (by rw [degL]; simpa using h)
theorem deg_le {d : Int} (hd : 0 ≤ d) (h : ∀ m < xs.length, cf xs m = 1 → ((bitN m : Nat) : Int) ≤ d) : degL xs ≤ d := by
  rcases deg_att (xs := xs) with e | ⟨m, h1, h2, h3⟩
  · omega
  · rw [← h3]; exact h m h1 h2
/-- what a function of the places gives -/
theorem cf_zero (h : IsF xs) (hm : m < xs.length) (hd : degL xs < (bitN m : Nat)) : cf xs m = 0 := by
  rcases cf_01 h hm with e | e
  · exact e
  · have := deg_ge hm e; omega
end
end Sw
end

section
/-! SwM2: terms of sums, products and changes. -/
namespace Sw
section
variable {xs ys : List Int} {m p q s n : Nat}
theorem cf_as {zs : List Int} {g : Nat → Int} (h : IsF zs) (hl : zs.length = n) (hm : m < n) (hg : ∀ p < n, zs.getD p 0 % 2 = g p % 2) : cf zs m = S n (fun p => inB p m * g p) % 2 := by
  rw [cf_S h (by omega), hl]
  refine S_mod fun p hp => ?_
  have := hg p hp
  rw [Int.mul_emod, this, ← Int.mul_emod]
/-- the terms of a sum -/
theorem cf_both (hx : IsF xs) (hy : IsF ys) (hl : ys.length = xs.length) (hm : m < xs.length) : cf (bothL xs ys) m = (cf xs m + cf ys m) % 2 := by
  rw [cf_as (zs := bothL xs ys) (g := fun p => xs.getD p 0 + ys.getD p 0) (isF_both hx.1) both_len hm fun p hp => by rw [bothL, ge_range hp]; omega]
  rw [cf_S hx hm, cf_S hy (by omega), hl]
  have : S xs.length (fun p => inB p m * (xs.getD p 0 + ys.getD p 0)) = S xs.length (fun p => inB p m * xs.getD p 0) + S xs.length (fun p => inB p m * ys.getD p 0) := by
    rw [← S_add]
    exact S_congr fun p _ => by grind
  rw [this]
  omega
theorem deg_both (hx : IsF xs) (hy : IsF ys) (hl : ys.length = xs.length) : degL (bothL xs ys) ≤ max (degL xs) (degL ys) := by
  have h1 := deg_nonneg (xs := xs)
  refine deg_le (by omega) fun m hm hc => ?_
  rw [both_len] at hm
  rw [cf_both hx hy hl hm] at hc
  rcases cf_01 hx hm with e | e
  · have := deg_ge (xs := ys) (m := m) (by omega) (by
      rcases cf_01 hy (show m < ys.length by omega) with e' | e'
      · rw [e, e'] at hc; simp at hc
      · exact e')
    omega
  · have := deg_ge hm e
    omega
/-- the product -/
def prodL (xs ys : List Int) : List Int := (List.range xs.length).map fun i => xs.getD i 0 * ys.getD i 0
theorem prod_len : (prodL xs ys).length = xs.length := by simp [prodL]
theorem isF_prod (hx : IsF xs) (hy : IsF ys) (hl : ys.length = xs.length) : IsF (prodL xs ys) := by
  refine ⟨by rw [prod_len]; exact hx.1, fun x h => ?_⟩
  obtain ⟨i, hi, rfl⟩ := List.mem_map.mp h
  have hi := List.mem_range.mp hi
  rcases get_bit hx hi with e | e <;> rcases get_bit hy (show i < ys.length by omega) with e' | e' <;> rw [e, e'] <;> simp
theorem prod_tab : ∀ n ∈ [2, 4, 8, 16], ∀ q < n, ∀ r < n, ∀ m < n, bitN q + bitN r < bitN m → S n (fun p => inB p m * (inB q p * inB r p)) % 2 = 0 := by decide +kernel
theorem zmod {a b : Int} (h : b % 2 = 0) : a * b % 2 = 0 := by rw [Int.mul_emod, h]; simp
theorem deg_prod (hx : IsF xs) (hy : IsF ys) (hl : ys.length = xs.length) : degL (prodL xs ys) ≤ degL xs + degL ys := by
  have h1 := deg_nonneg (xs := xs)
  have h2 := deg_nonneg (xs := ys)
  refine deg_le (by omega) fun m hm hc => ?_
  rw [prod_len] at hm
  rw [cf_S (isF_prod hx hy hl) (by rw [prod_len]; exact hm), prod_len] at hc
  by_cases hd : ((bitN m : Nat) : Int) ≤ degL xs + degL ys
  · exact hd
  · exfalso
    have e1 : S xs.length (fun p => inB p m * (prodL xs ys).getD p 0) % 2 = S xs.length (fun p => S xs.length fun q => S xs.length fun r => (cf xs q * cf ys r) * (inB p m * (inB q p * inB r p))) % 2 := by
      refine S_mod fun p hp => ?_
      rw [prodL, ge_range hp, ← cf_inv hx hp, ← cf_inv hy (show p < ys.length by omega), hl]
      have : S xs.length (fun q => S xs.length fun r => (cf xs q * cf ys r) * (inB p m * (inB q p * inB r p))) = inB p m * (S xs.length (fun m => inB m p * cf xs m) * S xs.length (fun m => inB m p * cf ys m)) := by
        rw [S_mul, ← S_mulL]
        refine S_congr fun q _ => ?_
        rw [← S_mulL]
        exact S_congr fun r _ => by grind
      rw [this]
      generalize S xs.length (fun m => inB m p * cf xs m) = A
      generalize S xs.length (fun m => inB m p * cf ys m) = B
      rw [Int.mul_emod, ← Int.mul_emod A B, ← Int.mul_emod]
    rw [e1, S_swap] at hc
    have e2 : S xs.length (fun q => S xs.length fun p => S xs.length fun r => (cf xs q * cf ys r) * (inB p m * (inB q p * inB r p))) % 2 = S xs.length (fun _ => 0) % 2 := by
      refine S_mod fun q hq => ?_
      rw [S_swap]
      have e3 : S xs.length (fun r => S xs.length fun p => (cf xs q * cf ys r) * (inB p m * (inB q p * inB r p))) % 2 = S xs.length (fun _ => 0) % 2 := by
        refine S_mod fun r hr => ?_
        rw [S_mulL]
        rcases cf_01 hx hq with e | e
        · rw [e]; simp
        · rcases cf_01 hy (show r < ys.length by omega) with e' | e'
          · rw [e']; simp
          · have a1 := deg_ge hq e
            have a2 := deg_ge (xs := ys) (m := r) (by omega) e'
            have := prod_tab _ (size_mem hx.1) q hq r hr m hm (by omega)
            rw [zmod this]; rfl
      rw [e3, S_const]; simp
    rw [e2, S_const] at hc
    simp at hc
/-! shifts -/
theorem shift_tab : ∀ n ∈ [2, 4, 8, 16], ∀ q < n, ∀ m < n, ∀ s < n, (if m &&& q = m then True else S n (fun p => inB p m * inB q (p ^^^ s)) % 2 = 0) ∧ S n (fun p => inB p m * inB m (p ^^^ s)) % 2 = 1 := by decide +kernel
theorem sub_tab : ∀ m < 16, ∀ q < 16, m &&& q = m → bitN m ≤ bitN q ∧ (bitN q ≤ bitN m → q = m) := by decide +kernel
theorem cf_moved (h : IsF xs) (hm : m < xs.length) (hs : s < xs.length) : cf (movedL xs s) m = S xs.length (fun q => cf xs q * S xs.length fun p => inB p m * inB q (p ^^^ s)) % 2 := by
  rw [cf_as (zs := movedL xs s) (g := fun p => S xs.length fun q => inB q (p ^^^ s) * cf xs q) (isF_moved h hs) movedL_len hm fun p hp => by
    rw [moved_get hp, ← cf_inv h (xor_lt h.1 hp hs)]; omega]
  have : S xs.length (fun p => inB p m * S xs.length fun q => inB q (p ^^^ s) * cf xs q) = S xs.length (fun q => cf xs q * S xs.length fun p => inB p m * inB q (p ^^^ s)) := by
    rw [S_congr (g := fun p => S xs.length fun q => cf xs q * (inB p m * inB q (p ^^^ s))) fun p _ => by
      rw [← S_mulL]
      exact S_congr fun q _ => by grind]
    rw [S_swap]
    exact S_congr fun q _ => by rw [S_mulL]
  rw [this]
/-- at the top the terms stay -/
theorem cf_top (h : IsF xs) (hm : m < xs.length) (hs : s < xs.length) (hd : degL xs ≤ (bitN m : Nat)) : cf (movedL xs s) m = cf xs m := by
  have hn := size_le h.1
  rw [cf_moved h hm hs]
  have : S xs.length (fun q => cf xs q * S xs.length fun p => inB p m * inB q (p ^^^ s)) % 2 = S xs.length (fun q => if q = m then cf xs q else 0) % 2 := S_mod fun q hq => by
    have tab := shift_tab _ (size_mem h.1) q hq m hm s hs
    by_cases e : q = m
    · subst e
      rw [if_pos rfl]
      rcases cf_01 h hq with e | e <;> rw [e]
      · simp
      · rw [Int.one_mul, tab.2]; rfl
    · rw [if_neg e]
      rcases cf_01 h hq with e' | e'
      · rw [e']; simp
      · have a1 := deg_ge hq e'
        have hne : ¬ m &&& q = m := fun w => e ((sub_tab m (by omega) q (by omega) w).2 (by omega))
        have := tab.1
        rw [if_neg hne] at this
        rw [zmod this]; rfl
  rw [this, S_delta _ hm]
  rcases cf_01 h hm with e | e <;> rw [e] <;> rfl
theorem deg_moved_le (h : IsF xs) (hs : s < xs.length) : degL (movedL xs s) ≤ degL xs := by
  refine deg_le deg_nonneg fun m hm hc => ?_
  rw [movedL_len] at hm
  by_cases hd : degL xs ≤ (bitN m : Nat)
  · rw [cf_top h hm hs hd] at hc
    exact deg_ge hm hc
  · omega
theorem moved_moved (h : IsF xs) (hs : s < xs.length) : movedL (movedL xs s) s = xs := by
  refine tup_ext (n := xs.length) (by rw [movedL_len, movedL_len]) rfl fun i hi => ?_
  rw [moved_get (by rw [movedL_len]; exact hi), moved_get (xor_lt h.1 hi hs), Nat.xor_assoc, Nat.xor_self, Nat.xor_zero]
theorem deg_moved (h : IsF xs) (hs : s < xs.length) : degL (movedL xs s) = degL xs := by
  have a := deg_moved_le h hs
  have b := deg_moved_le (isF_moved h hs) (s := s) (by rw [movedL_len]; exact hs)
  rw [moved_moved h hs] at b
  omega
/-- a difference has a smaller degree -/
theorem deg_change (h : IsF xs) (hs : s < xs.length) : degL (bothL xs (movedL xs s)) < max (degL xs) 1 := by
  have h0 := deg_nonneg (xs := xs)
  have key : ∀ m < xs.length, cf (bothL xs (movedL xs s)) m = 1 → ((bitN m : Nat) : Int) < degL xs := fun m hm hc => by
    by_cases hd : degL xs ≤ (bitN m : Nat)
    · exfalso
      rw [cf_both h (isF_moved h hs) movedL_len hm, cf_top h hm hs hd] at hc
      omega
    · omega
  rcases deg_att (xs := bothL xs (movedL xs s)) with e | ⟨m, h1, h2, h3⟩
  · omega
  · have := key m (by rw [both_len] at h1; exact h1) h2
    omega
/-! tilts -/
theorem deg_str : ∀ n ∈ [2, 4, 8, 16], ∀ m < n, degL (straightL n m) ≤ 1 ∧ degL (oppL (straightL n m)) ≤ 1 := by decide +kernel
theorem lean_both : leanL xs m = bothL xs (straightL xs.length m) := by
  unfold leanL bothL
  exact List.map_congr_left fun i hi => by rw [straightL, ge_range (List.mem_range.mp hi)]
theorem deg_lean (h : IsF xs) (hm : m < xs.length) (hd : 1 < degL xs) : degL (leanL xs m) = degL xs := by
  have hstr := (deg_str _ (size_mem h.1) m hm).1
  have hf := isF_straight (m := m) h.1
  have hl : (straightL xs.length m).length = xs.length := straight_len
  rw [lean_both]
  have hle := deg_both h hf hl
  rcases deg_att (xs := xs) with e | ⟨u, h1, h2, h3⟩
  · omega
  · have hz := cf_zero hf (m := u) (by omega) (by omega)
    have : cf (bothL xs (straightL xs.length m)) u = 1 := by rw [cf_both h hf hl h1, h2, hz]; rfl
    have := deg_ge (by rw [both_len]; exact h1) this
    omega
/-! sums -/
def Aff (xs : List Int) (a : Nat) (c : Int) : Prop := a < xs.length ∧ (c = 1 ∨ c = -1) ∧ ∀ i < xs.length, ep xs i = c * sg a i
theorem lin_tab : ∀ n ∈ [2, 4, 8, 16], ∀ b0 < 2, ∀ b1 < 2, ∀ b2 < 2, ∀ b4 < 2, ∀ b8 < 2, ∀ p < n, 1 - 2 * (S n (fun m => inB m p * ((if m = 0 then b0 else if m = 1 then b1 else if m = 2 then b2 else if m = 4 then b4 else if m = 8 then b8 else 0 : Nat) : Int)) % 2) = (1 - 2 * (b0 : Int)) * (1 - 2 * ((oddN ((b1 + 2 * b2 + 4 * b4 + 8 * b8) % n) p : Nat) : Int)) := by decide +kernel
theorem bit_two : ∀ m < 16, m = 0 ∨ m = 1 ∨ m = 2 ∨ m = 4 ∨ m = 8 ∨ 2 ≤ bitN m := by decide +kernel
theorem aff_of (h : IsF xs) (hd : degL xs ≤ 1) : ∃ a c, Aff xs a c := by
  have hn := size_le h.1
  have h0 := size_pos h.1
  have hb : ∀ m, ∃ b : Nat, b < 2 ∧ (m < xs.length → cf xs m = (b : Nat)) := fun m => by
    by_cases hm : m < xs.length
    · rcases cf_01 h hm with e | e
      · exact ⟨0, by omega, fun _ => e⟩
      · exact ⟨1, by omega, fun _ => e⟩
    · exact ⟨0, by omega, fun w => absurd w hm⟩
  obtain ⟨b0, hb0, e0⟩ := hb 0
  obtain ⟨b1, hb1, e1⟩ := hb 1
  obtain ⟨b2, hb2, e2⟩ := hb 2
  obtain ⟨b4, hb4, e4⟩ := hb 4
  obtain ⟨b8, hb8, e8⟩ := hb 8
  refine ⟨(b1 + 2 * b2 + 4 * b4 + 8 * b8) % xs.length, 1 - 2 * (b0 : Int), Nat.mod_lt _ (by omega), by omega, fun p hp => ?_⟩
  have hmod : (b1 + 2 * b2 + 4 * b4 + 8 * b8) % xs.length < xs.length := Nat.mod_lt _ (by omega)
  rw [sg_odd (by omega) (by omega), ← lin_tab _ (size_mem h.1) b0 hb0 b1 hb1 b2 hb2 b4 hb4 b8 hb8 p hp, ep, ← cf_inv h hp]
  congr 3
  refine S_congr fun m hm => ?_
  congr 1
  rcases bit_two m (by omega) with rfl | rfl | rfl | rfl | rfl | hb
  · simp [e0 hm]
  · simp [e1 hm]
  · simp [e2 hm]
  · simp [e4 hm]
  · simp [e8 hm]
  · rw [cf_zero h hm (by omega)]
    have : m ≠ 0 ∧ m ≠ 1 ∧ m ≠ 2 ∧ m ≠ 4 ∧ m ≠ 8 := by
      refine ⟨?_, ?_, ?_, ?_, ?_⟩ <;> (rintro rfl; revert hb; decide)
    simp [this.1, this.2.1, this.2.2.1, this.2.2.2.1, this.2.2.2.2]
theorem ep_inj (h : IsF xs) (h2 : IsF ys) (hl : ys.length = xs.length) (he : ∀ i < xs.length, ep xs i = ep ys i) : xs = ys := by
  refine tup_ext (n := xs.length) rfl hl fun i hi => ?_
  have := he i hi
  unfold ep at this
  omega
theorem aff_deg (h : IsF xs) {a : Nat} {c : Int} (ha : Aff xs a c) : degL xs ≤ 1 := by
  have hn := size_le h.1
  obtain ⟨h1, h2, h3⟩ := ha
  have tab := deg_str _ (size_mem h.1) a h1
  rcases h2 with rfl | rfl
  · have : xs = straightL xs.length a := ep_inj h (isF_straight h.1) straight_len fun i hi => by rw [h3 i hi, ep_straight hi (by omega) hn]; omega
    rw [this]; exact tab.1
  · have : xs = oppL (straightL xs.length a) := ep_inj h (isF_opp (isF_straight h.1)) (by rw [oppL_len, straight_len]) fun i hi => by
      rw [h3 i hi, ep_opp (by rw [straight_len]; exact hi), ep_straight hi (by omega) hn]; omega
    rw [this]; exact tab.2
theorem aff_W (h : IsF xs) {a u : Nat} {c : Int} (ha : Aff xs a c) (hu : u < xs.length) : W xs u = if u = a then c * xs.length else 0 := by
  have hn := size_le h.1
  obtain ⟨h1, h2, h3⟩ := ha
  rw [W_S h.1 hu, S_congr (g := fun i => c * (sg a i * sg u i)) fun i hi => by rw [h3 i hi]; grind]
  rw [S_mulL, sg_orth' h.1 h1 hu]
  by_cases e : a = u
  · rw [if_pos e, if_pos e.symm]
  · rw [if_neg e, if_neg fun w => e w.symm]; simp
/-- a wave with one number that isn't 0 -/
theorem aff_one (h : IsF xs) {a : Nat} (ha : a < xs.length) (hz : ∀ u < xs.length, u ≠ a → W xs u = 0) : ∃ c, Aff xs a c := by
  have hn := size_le h.1
  have h0 := size_pos h.1
  have key : ∀ i < xs.length, (xs.length : Int) * ep xs i = W xs a * sg a i := fun i hi => by
    rw [← W_inv h.1 hi, S_congr (g := fun m => if m = a then W xs m * sg m i else 0) fun m hm => by
      by_cases e : m = a
      · rw [if_pos e]
      · rw [if_neg e, hz m hm e]; simp, S_delta _ ha]
  have k0 := key 0 (by omega)
  rw [sg_z (by omega)] at k0
  refine ⟨ep xs 0, ha, ep_pm h (by omega), fun i hi => ?_⟩
  have ki := key i hi
  have hW : W xs a = xs.length * ep xs 0 := by omega
  rw [hW, Int.mul_assoc] at ki
  exact Int.eq_of_mul_eq_mul_left (by omega) ki
/-! weights -/
theorem full_tab : ∀ n ∈ [2, 4, 8, 16], bitN (n - 1) = lg n ∧ ∀ p < n, inB p (n - 1) = 1 := by decide +kernel
theorem weight_even (h : IsF xs) (hd : degL xs < lg xs.length) : xs.sum % 2 = 0 := by
  have h0 := size_pos h.1
  obtain ⟨t1, t2⟩ := full_tab _ (size_mem h.1)
  have := cf_zero h (m := xs.length - 1) (by omega) (by rw [t1]; exact hd)
  rw [cf_S h (by omega), S_congr (g := fun p => xs.getD p 0) fun p hp => by rw [t2 p hp]; omega, ← sum_S] at this
  exact this
theorem W_lean (h : IsF xs) {u : Nat} (hu : u < xs.length) : W xs u = xs.length - 2 * (leanL xs u).sum := by
  have hn := size_le h.1
  have a := sum_ep (leanL xs u)
  rw [lean_len] at a
  rw [W_S h.1 hu, S_congr (g := ep (leanL xs u)) fun i hi => by rw [ep_lean h (by omega) hi]]
  omega
theorem W_two (h : IsF xs) {u : Nat} (hu : u < xs.length) : W xs u % 2 = 0 := by
  rw [W_lean h hu]
  rcases h.1 with e | e | e | e <;> rw [e] <;> omega
theorem W_four (h : IsF xs) (hd : degL xs < lg xs.length) (h2 : 2 ≤ lg xs.length) {u : Nat} (hu : u < xs.length) : W xs u % 4 = 0 := by
  have : degL (leanL xs u) < lg (leanL xs u).length := by
    rw [lean_len, lean_both]
    have a := deg_both h (isF_straight (m := u) h.1) straight_len
    have b := (deg_str _ (size_mem h.1) u hu).1
    omega
  have := weight_even (isF_lean h) this
  rw [W_lean h hu]
  rcases h.1 with e | e | e | e
  · rw [e] at h2; exact absurd h2 (by decide)
  all_goals rw [e]; omega
end
end Sw
end

section
/-! SwM3: functions from terms. -/
namespace Sw
section
variable {xs ys : List Int} {m p q s n : Nat} {ms : List Nat}
theorem sorted_ext : ∀ {l l' : List Nat}, l.Pairwise (· < ·) → l'.Pairwise (· < ·) → (∀ x, x ∈ l ↔ x ∈ l') → l = l'
  | [], [], _, _, _ => rfl
  | [], b :: l', _, _, h => by have := (h b).mpr (by simp); simp at this
  | a :: l, [], _, _, h => by have := (h a).mp (by simp); simp at this
  | a :: l, b :: l', h1, h2, h => by
    have hab : a = b := by
      have a1 := (h a).mp (by simp)
      have b1 := (h b).mpr (by simp)
      rcases List.mem_cons.mp a1 with e | e
      · exact e
      · rcases List.mem_cons.mp b1 with e' | e'
        · exact e'.symm
        · have := List.rel_of_pairwise_cons h1 e'
          have := List.rel_of_pairwise_cons h2 e
          omega
    subst hab
    congr 1
    refine sorted_ext h1.of_cons h2.of_cons fun x => ⟨fun hx => ?_, fun hx => ?_⟩
    · have := List.rel_of_pairwise_cons h1 hx
      rcases List.mem_cons.mp ((h x).mp (by simp [hx])) with e | e
      · omega
      · exact e
    · have := List.rel_of_pairwise_cons h2 hx
      rcases List.mem_cons.mp ((h x).mpr (by simp [hx])) with e | e
      · omega
      · exact e
theorem isF_fold (h : IsF xs) : IsF (foldL xs) := by
  refine ⟨by rw [foldL_len h.1]; exact h.1, fun x hx => ?_⟩
  obtain ⟨i, hi, rfl⟩ := List.mem_iff_getElem.mp hx
  have hl := foldL_len h.1
  have := cf_01 h (m := i) (by omega)
  simpa [cf, List.getD, hi] using this
theorem fold_fold (h : IsF xs) (hq : q < xs.length) : cf (foldL xs) q = xs.getD q 0 := by
  have hl := foldL_len h.1
  rw [cf_S (isF_fold h) (by omega), hl]
  exact cf_inv h hq
def indL (n : Nat) (ms : List Nat) : List Int := (List.range (2 ^ n)).map fun p => if p ∈ ms then 1 else 0
theorem ind_len : (indL n ms).length = 2 ^ n := by simp [indL]
theorem isF_ind (h1 : 1 ≤ n) (h2 : n ≤ 4) : IsF (indL n ms) := by
  refine ⟨by rw [ind_len]; exact size_pow h1 h2, fun x hx => ?_⟩
  obtain ⟨i, _, rfl⟩ := List.mem_map.mp hx
  split <;> simp
theorem lg_two (h1 : 1 ≤ n) (h2 : n ≤ 4) : lg (2 ^ n) = n := by
  have : n = 1 ∨ n = 2 ∨ n = 3 ∨ n = 4 := by omega
  rcases this with rfl | rfl | rfl | rfl <;> rfl
theorem ft_fold (h1 : 1 ≤ n) (h2 : n ≤ 4) : ftL n ms = foldL (indL n ms) := by
  rw [foldL, ind_len, lg_two h1 h2]; rfl
theorem isF_ft (h1 : 1 ≤ n) (h2 : n ≤ 4) : IsF (ftL n ms) := by
  rw [ft_fold h1 h2]; exact isF_fold (isF_ind h1 h2)
theorem cf_ft (h1 : 1 ≤ n) (h2 : n ≤ 4) (hm : m < 2 ^ n) : cf (ftL n ms) m = if m ∈ ms then 1 else 0 := by
  rw [ft_fold h1 h2, fold_fold (isF_ind h1 h2) (by rw [ind_len]; exact hm), indL, ge_range hm]
theorem termN_sorted : (termN xs).Pairwise (· < ·) := List.Pairwise.filter _ List.pairwise_lt_range
theorem term_ft (h1 : 1 ≤ n) (h2 : n ≤ 4) (hs : ms.Pairwise (· < ·)) (hb : ∀ m ∈ ms, m < 2 ^ n) : termN (ftL n ms) = ms := by
  refine sorted_ext termN_sorted hs fun x => ?_
  rw [term_iff, ftL_len]
  constructor
  · rintro ⟨hx, hc⟩
    rw [cf_ft h1 h2 hx] at hc
    by_cases e : x ∈ ms
    · exact e
    · rw [if_neg e] at hc; cases hc
  · intro hx
    exact ⟨hb x hx, by rw [cf_ft h1 h2 (hb x hx), if_pos hx]⟩
/-- a function by its terms -/
theorem ft_term (h : IsF xs) (hl : xs.length = 2 ^ n) (h1 : 1 ≤ n) (h2 : n ≤ 4) : ftL n (termN xs) = xs := by
  have e : indL n (termN xs) = foldL xs := by
    refine tup_ext (n := 2 ^ n) ind_len (by rw [foldL_len h.1, hl]) fun i hi => ?_
    rw [indL, ge_range hi]
    show _ = cf xs i
    have := @term_iff xs i
    rcases cf_01 h (show i < xs.length by omega) with e | e
    · rw [if_neg fun w => by have := (this.mp w).2; omega, e]
    · rw [if_pos (this.mpr ⟨by omega, e⟩), e]
  rw [ft_fold h1 h2, e]
  refine tup_ext (n := xs.length) (by rw [foldL_len (isF_fold h).1, foldL_len h.1]) rfl fun i hi => ?_
  exact fold_fold h hi
theorem sub_range (h : ms.Sublist (List.range q)) : ms.Pairwise (· < ·) ∧ (∀ m ∈ ms, m < q) ∧ ms.length ≤ q := by
  refine ⟨List.Pairwise.sublist h List.pairwise_lt_range, fun m hm => List.mem_range.mp (h.subset hm), ?_⟩
  have := h.length_le
  simpa using this
theorem bits_len : ∀ m < 16, (bitsI (m : Nat)).length = bitN m := by decide +kernel
end
end Sw
end

section
/-! SwG: gaps. -/
namespace Sw
/-! sorting -/
theorem lex_total : ∀ a b : List Int, lexLe a b = true ∨ lexLe b a = true
  | [], b => .inl (by simp [lexLe])
  | x :: a, [] => .inr (by simp [lexLe])
  | x :: a, y :: b => by
    have ih := lex_total a b
    simp only [lexLe]
    by_cases e : x = y
    · subst e; simpa using ih
    · rw [if_neg e, if_neg (fun w => e w.symm)]
      simp only [decide_eq_true_eq]
      omega
theorem lex_anti : ∀ a b : List Int, lexLe a b = true → lexLe b a = true → a = b
  | [], [], _, _ => rfl
  | [], y :: b, _, h => by simp [lexLe] at h
  | x :: a, [], h, _ => by simp [lexLe] at h
  | x :: a, y :: b, h, h' => by
    simp only [lexLe] at h h'
    by_cases e : x = y
    · subst e
      simp only [if_true] at h h'
      rw [lex_anti a b h h']
    · rw [if_neg e] at h
      rw [if_neg (fun w => e w.symm)] at h'
      simp only [decide_eq_true_eq] at h h'
      omega
theorem lex_trans : ∀ a b c : List Int, lexLe a b = true → lexLe b c = true → lexLe a c = true
  | [], _, _, _, _ => by simp [lexLe]
  | x :: a, [], _, h, _ => by simp [lexLe] at h
  | x :: a, y :: b, [], _, h => by simp [lexLe] at h
  | x :: a, y :: b, z :: c, h, h' => by
    simp only [lexLe] at h h' ⊢
    by_cases e : x = y
    · subst e
      by_cases e' : x = z
      · subst e'
        simp only [if_true] at h h' ⊢
        exact lex_trans a b c h h'
      · rw [if_neg e'] at h' ⊢; exact h'
    · rw [if_neg e] at h
      simp only [decide_eq_true_eq] at h
      by_cases e' : y = z
      · subst e'
        rw [if_neg e]; simpa using h
      · rw [if_neg e'] at h'
        simp only [decide_eq_true_eq] at h'
        rw [if_neg (by omega)]
        simp only [decide_eq_true_eq]
        omega
theorem ins_comm (x y : List Int) : ∀ l, insL x (insL y l) = insL y (insL x l)
  | [] => by
    simp only [insL]
    by_cases h : lexLe x y = true
    · rw [if_pos h]
      by_cases h' : lexLe y x = true
      · rw [if_pos h', lex_anti x y h h']
      · rw [if_neg h']
    · rw [if_neg h]
      rcases lex_total x y with w | w
      · exact absurd w h
      · rw [if_pos w]
  | z :: l => by
    have ih := ins_comm x y l
    simp only [insL]
    by_cases hy : lexLe y z = true
    · rw [if_pos hy]
      by_cases hx : lexLe x z = true
      · rw [if_pos hx]
        simp only [insL]
        by_cases h : lexLe x y = true
        · rw [if_pos h]
          by_cases h' : lexLe y x = true
          · rw [if_pos h', lex_anti x y h h']
          · rw [if_neg h', if_pos hy]
        · rw [if_neg h, if_pos hx]
          rcases lex_total x y with w | w
          · exact absurd w h
          · rw [if_pos w]
      · rw [if_neg hx]
        simp only [insL]
        have h : ¬ lexLe x y = true := fun w => hx (lex_trans x y z w hy)
        rw [if_neg h, if_neg hx, if_pos hy]
    · rw [if_neg hy]
      by_cases hx : lexLe x z = true
      · rw [if_pos hx]
        simp only [insL]
        have h : ¬ lexLe y x = true := fun w => hy (lex_trans y x z w hx)
        rw [if_pos hx, if_neg h, if_neg hy]
      · rw [if_neg hx]
        simp only [insL]
        rw [if_neg hx, if_neg hy, ih]
theorem sort_perm {l l' : List (List Int)} (h : l.Perm l') : sortL l = sortL l' := by
  induction h with
  | nil => rfl
  | cons x _ ih => simp only [sortL, ih]
  | swap x y l => simp only [sortL, ins_comm]
  | trans _ _ h1 h2 => rw [h1, h2]
/-- the straight functions, mask by mask -/
def someL (n : Nat) : List (List Int) := (List.range n).flatMap fun m => [straightL n m, oppL (straightL n m)]
theorem some_perm : ∀ n ∈ [2, 4, 8, 16], (someL n).Perm (strL n) := by decide +kernel
theorem some_str : ∀ n ∈ [2, 4, 8, 16], ∀ t ∈ someL n, gapL t = 0 ∧ nearL t = [t] := by decide +kernel
theorem some_len : ∀ n ∈ [2, 4, 8, 16], (someL n).length = 2 * n := by decide +kernel
section
variable {xs ys : List Int} {m p q s n u : Nat}
theorem some_iff {t : List Int} : t ∈ someL n ↔ ∃ m < n, t = straightL n m ∨ t = oppL (straightL n m) := by
  simp only [someL, List.mem_flatMap, List.mem_range, List.mem_cons, List.not_mem_nil, or_false]
theorem isF_some (h : SizeOk n) {t : List Int} (ht : t ∈ someL n) : IsF t ∧ t.length = n := by
  obtain ⟨m, _, rfl | rfl⟩ := some_iff.mp ht
  · exact ⟨isF_straight h, straight_len⟩
  · exact ⟨isF_opp (isF_straight h), by rw [oppL_len, straight_len]⟩
/-- the height of the wave -/
def Hh (xs : List Int) : Int := heightL (waveL xs)
theorem wave_get (h : SizeOk xs.length) (hu : u < xs.length) : W xs u ∈ waveL xs := by
  have := waveL_len h
  simp [W, List.getD, show u < (waveL xs).length by omega]
theorem H_ge (h : SizeOk xs.length) (hu : u < xs.length) : W xs u ≤ Hh xs ∧ -W xs u ≤ Hh xs := by
  have a := maxL_ge (wave_get h hu)
  have b := minL_le (wave_get h hu)
  unfold Hh heightL
  split <;> omega
theorem H_att (h : SizeOk xs.length) : ∃ u < xs.length, Hh xs = W xs u ∨ Hh xs = -W xs u := by
  have hne := wave_ne h
  have get : ∀ w ∈ waveL xs, ∃ u < xs.length, w = W xs u := fun w hw => by
    rw [wave_range h] at hw
    obtain ⟨u, hu, rfl⟩ := List.mem_map.mp hw
    exact ⟨u, List.mem_range.mp hu, rfl⟩
  unfold Hh heightL
  split
  · obtain ⟨u, hu, e⟩ := get _ (minL_mem hne)
    exact ⟨u, hu, .inr (by omega)⟩
  · obtain ⟨u, hu, e⟩ := get _ (maxL_mem hne)
    exact ⟨u, hu, .inl e⟩
theorem H_unique (h : SizeOk xs.length) {k : Int} (h1 : ∀ u < xs.length, W xs u ≤ k ∧ -W xs u ≤ k) (h2 : ∃ u < xs.length, k = W xs u ∨ k = -W xs u) : k = Hh xs := by
  obtain ⟨u, hu, e⟩ := h2
  obtain ⟨v, hv, e'⟩ := H_att h
  have a := h1 v hv
  have b := H_ge h hu
  omega
theorem size_even (h : SizeOk n) : (n : Int) % 2 = 0 := by rcases h with rfl | rfl | rfl | rfl <;> rfl
theorem gap_two (h : IsF xs) : 2 * gapL xs = xs.length - Hh xs := by
  obtain ⟨u, hu, e⟩ := H_att h.1
  have a := W_two h hu
  have b := size_even h.1
  have c : gapL xs = ((xs.length : Int) - Hh xs) / 2 := rfl
  omega
theorem alike_opp (h : IsF xs) (h2 : IsF ys) (hl : ys.length = xs.length) : alikeL xs (oppL ys) = -alikeL xs ys := by
  rw [alike_S h (isF_opp h2) (by rw [oppL_len]; exact hl), alike_S h h2 hl, ← S_neg]
  exact S_congr fun i hi => by rw [ep_opp (by omega)]; grind
theorem apart_some (h : IsF xs) {t : List Int} (ht : t ∈ someL xs.length) : ∃ u < xs.length, 2 * ((apartL xs t : Nat) : Int) = xs.length - W xs u ∨ 2 * ((apartL xs t : Nat) : Int) = xs.length + W xs u := by
  obtain ⟨m, hm, rfl | rfl⟩ := some_iff.mp ht
  · have := alike_wave h hm
    unfold alikeL at this
    exact ⟨m, hm, .inl (by omega)⟩
  · have := alike_opp h (isF_straight h.1) straight_len (ys := straightL xs.length m)
    rw [alike_wave h hm] at this
    unfold alikeL at this
    exact ⟨m, hm, .inr (by omega)⟩
theorem some_apart (h : IsF xs) (hu : u < xs.length) : (∃ t ∈ someL xs.length, 2 * ((apartL xs t : Nat) : Int) = xs.length - W xs u) ∧ ∃ t ∈ someL xs.length, 2 * ((apartL xs t : Nat) : Int) = xs.length + W xs u := by
  refine ⟨⟨straightL xs.length u, some_iff.mpr ⟨u, hu, .inl rfl⟩, ?_⟩, ⟨oppL (straightL xs.length u), some_iff.mpr ⟨u, hu, .inr rfl⟩, ?_⟩⟩
  · have := alike_wave h hu
    unfold alikeL at this
    omega
  · have := alike_opp h (isF_straight h.1) straight_len (ys := straightL xs.length u)
    rw [alike_wave h hu] at this
    unfold alikeL at this
    omega
/-- the gap is the least distance -/
theorem gap_min (h : IsF xs) : minL ((someL xs.length).map fun t => ((apartL xs t : Nat) : Int)) = gapL xs := by
  have g := gap_two h
  have hne : (someL xs.length).map (fun t => ((apartL xs t : Nat) : Int)) ≠ [] := by
    have := some_len _ (size_mem h.1)
    have := size_pos h.1
    intro e
    have := congrArg List.length e
    simp at this
    simp [this] at *
    omega
  obtain ⟨t, ht, e⟩ := List.mem_map.mp (minL_mem hne)
  obtain ⟨u, hu, eu⟩ := apart_some h ht
  have a := H_ge h.1 hu
  obtain ⟨v, hv, ev⟩ := H_att h.1
  obtain ⟨⟨t1, ht1, e1⟩, ⟨t2, ht2, e2⟩⟩ := some_apart h hv
  have b1 := minL_le (l := (someL xs.length).map fun t => ((apartL xs t : Nat) : Int)) (List.mem_map.mpr ⟨t1, ht1, rfl⟩)
  have b2 := minL_le (l := (someL xs.length).map fun t => ((apartL xs t : Nat) : Int)) (List.mem_map.mpr ⟨t2, ht2, rfl⟩)
  rw [← e] at b1 b2 ⊢
  omega
theorem near_close (h : IsF xs) : nearL xs = sortL ((someL xs.length).filter fun t => ((apartL xs t : Nat) : Int) == gapL xs) := by
  unfold nearL
  exact (sort_perm ((some_perm _ (size_mem h.1)).filter _)).symm
/-- squares of the wave -/
theorem parseval (h : IsF xs) : S xs.length (fun u => W xs u * W xs u) = xs.length * xs.length := by
  rw [plain_S h.1 rfl, S_congr (g := fun _ => 1) fun i hi => ep_sq h hi, S_const]
  simp
theorem H_sq (h : IsF xs) : (xs.length : Int) ≤ Hh xs * Hh xs := by
  have hp := size_pos h.1
  have h1 := parseval h
  have h2 := S_le (n := xs.length) (f := fun u => W xs u * W xs u) (g := fun _ => Hh xs * Hh xs) fun u hu => by
    have := H_ge h.1 hu
    have h0 : 0 ≤ Hh xs := by omega
    rcases Int.le_total 0 (W xs u) with w | w
    · exact Int.mul_le_mul this.1 this.1 w h0
    · have e : W xs u * W xs u = (-W xs u) * (-W xs u) := by grind
      rw [e]
      exact Int.mul_le_mul this.2 this.2 (by omega) h0
  rw [S_const, h1] at h2
  exact Int.le_of_mul_le_mul_left h2 (by omega)
/-- one value exchanged -/
def flipL (xs : List Int) (p : Nat) : List Int := xs.take p ++ [1 - xs.getD p 0] ++ xs.drop (p + 1)
theorem flip_len (hp : p < xs.length) : (flipL xs p).length = xs.length := by
  simp [flipL]; omega
theorem flip_get (hp : p < xs.length) {i : Nat} (hi : i < xs.length) : (flipL xs p).getD i 0 = if i = p then 1 - xs.getD i 0 else xs.getD i 0 := by
  have e : flipL xs p = xs.set p (1 - xs.getD p 0) := by
    rw [List.set_eq_take_append_cons_drop, if_pos hp, flipL]
    simp
  rw [e]
  by_cases h : i = p
  · subst h
    simp [List.getD, hi]
  · rw [if_neg h]
    simp [List.getD, List.getElem?_set, h, Ne.symm h]
theorem isF_flip (h : IsF xs) (hp : p < xs.length) : IsF (flipL xs p) := by
  refine ⟨by rw [flip_len hp]; exact h.1, fun x hx => ?_⟩
  obtain ⟨i, hi, rfl⟩ := List.mem_iff_getElem.mp hx
  have hl := flip_len hp
  have := flip_get hp (i := i) (by omega)
  have e : (flipL xs p)[i] = (flipL xs p).getD i 0 := by simp [List.getD, hi]
  rw [e, this]
  have := get_bit h (i := i) (by omega)
  split <;> omega
theorem W_flip (h : IsF xs) (hp : p < xs.length) (hu : u < xs.length) : W (flipL xs p) u = W xs u - 2 * (ep xs p * sg u p) := by
  rw [W_S (isF_flip h hp).1 (by rw [flip_len hp]; exact hu), flip_len hp, W_S h.1 hu]
  have : S xs.length (fun i => ep (flipL xs p) i * sg u i) = S xs.length (fun i => ep xs i * sg u i - if i = p then 2 * (ep xs i * sg u i) else 0) := S_congr fun i hi => by
    unfold ep
    rw [flip_get hp hi]
    split <;> grind
  rw [this, S_sub, S_delta _ hp]
theorem gap_flip (h : IsF xs) (hp : p < xs.length) : gapL (flipL xs p) - gapL xs = 1 ∨ gapL (flipL xs p) - gapL xs = 0 ∨ gapL (flipL xs p) - gapL xs = -1 := by
  have hn := size_le h.1
  have hl := flip_len hp
  have hf := isF_flip h hp
  have g1 := gap_two h
  have g2 := gap_two hf
  rw [hl] at g2
  have step : ∀ u < xs.length, ep xs p * sg u p = 1 ∨ ep xs p * sg u p = -1 := fun u hu => by
    rcases ep_pm h hp with e | e <;> rcases sg_pm (m := u) (p := p) (by omega) (by omega) with e' | e' <;> rw [e, e'] <;> simp
  obtain ⟨u, hu, e⟩ := H_att h.1
  obtain ⟨v, hv, e'⟩ := H_att hf.1
  rw [hl] at hv
  have a := H_ge hf.1 (u := u) (by omega)
  have b := H_ge h.1 hv
  rw [W_flip h hp hu] at a
  rw [W_flip h hp hv] at e'
  have c := step u hu
  have d := step v hv
  have e2 := size_even h.1
  generalize ep xs p * sg u p = z1 at *
  generalize ep xs p * sg v p = z2 at *
  omega
end
end Sw
end

section
/-! SwB: loops over lists that were made before. -/
namespace Sw
open PySem (Str)
section
variable {C : Orc} {ρ ρ' : Env} {st st1 rest : Store} {a c e : Ex} {v : Val} {α : Type} {l : List α} {en : α → List Val} {it : It} {tg : List Nat} {gg : α → Val} {p : α → Bool} {ρl : α → Env} {b : Nat} {vs : List Val}
theorem bx_ok (h : st[b]? = some (.list vs)) : bxOk st (some (b, vs)) = true := by simp only [bxOk, h, vbeqs_refl]
theorem comp_B {f : List Val → Store → Res (Option Val)} {g : α → Option Val} (hb : st[b]? = some (.list vs)) : ∀ (l : List α) (acc : List Val), (∀ a ∈ l, ∀ s, f (en a) s = .ok (g a) s) → (∀ a ∈ l, ∀ v, g a = some v → v.pure = true) → acc.length + l.length ≤ lim → compLoop (some (b, vs)) f (l.map en) st acc = .ok (acc ++ l.filterMap g) st
  | [], acc, _, _, _ => by simp [compLoop, bx_ok hb]
  | a :: l, acc, hf, hp, hl => by
    have hs : splitLast (st ++ [Cell.list acc]) = some (st, acc) := splitLast_snoc st acc
    have hl' : (st ++ [Cell.list acc]).length = st.length + 1 := by simp
    simp only [List.map_cons, compLoop, bx_ok hb, if_true, hf a (by simp) (st ++ [.list acc]), hl', hs]
    simp only [List.length_cons] at hl
    cases hg : g a with
    | none =>
      simp only [List.filterMap_cons, hg]
      exact comp_B hb l acc (fun w hw => hf w (by simp [hw])) (fun w hw => hp w (by simp [hw])) (by omega)
    | some v =>
      simp only [List.filterMap_cons, hg]
      rw [if_pos (by simp only [hp a (by simp) v hg, Bool.true_and, decide_eq_true_eq]; omega)]
      rw [comp_B hb l (acc ++ [v]) (fun w hw => hf w (by simp [hw])) (fun w hw => hp w (by simp [hw])) (by simp; omega)]
      simp
theorem x_lcB (hi : evi C it ρ st = .ok (l.map en, some (b, vs)) st1) (hb : st1[b]? = some (.list vs)) (hl : l.length ≤ 1000) (hρ : ∀ a, setAll (wipeAll ρ tg) tg (en a) = ρl a) (hg : ∀ a ∈ l, ∀ s, ev C e (ρl a) s = .ok (gg a) s) (hp : ∀ a ∈ l, (gg a).pure = true) (hv : Val.lst (l.map gg) = v) :
    ev C (.lc e tg it .none) ρ st = .ok v st1 := by
  subst hv
  rw [ev_lc hi (by simpa using lim_big hl)]
  simp only
  rw [comp_B (g := fun a => some (gg a)) hb l [] (fun a ha s => by unfold lcStep; simp only [evc, Res.bind_ok, if_true, hρ a, hg a ha s]) (fun a ha v e => by cases e; exact hp a ha) (by simpa using lim_big hl)]
  simp [fm_some]
theorem x_lcfB (hi : evi C it ρ st = .ok (l.map en, some (b, vs)) st1) (hb : st1[b]? = some (.list vs)) (hl : l.length ≤ 1000) (hρ : ∀ a, setAll (wipeAll ρ tg) tg (en a) = ρl a) (hc : ∀ a ∈ l, ∀ s, ev C c (ρl a) s = .ok (.bl (p a)) s) (hg : ∀ a ∈ l, p a = true → ∀ s, ev C e (ρl a) s = .ok (gg a) s) (hp : ∀ a ∈ l, (gg a).pure = true) (hv : Val.lst ((l.filter p).map gg) = v) :
    ev C (.lc e tg it (.some c)) ρ st = .ok v st1 := by
  subst hv
  rw [ev_lc hi (by simpa using lim_big hl)]
  simp only
  rw [comp_B (g := fun a => if p a then some (gg a) else none) hb l [] (fun a ha s => by
    unfold lcStep
    simp only [evc, hρ a, hc a ha s, Res.bind_ok, boolV_bl, lift_some]
    cases hq : p a with
    | true => simp only [if_true, hg a ha hq s, Res.bind_ok]
    | false => simp) (fun a ha v e => by
    split at e
    · cases e; exact hp a ha
    · cases e) (by simpa using lim_big hl)]
  simp [fm_if]
theorem over_box {ts : List (List Int)} (ha : ev C a ρ st = .ok (.box b) st1) (hb : st1[b]? = some (.list (tv ts))) : evi C (.over a) ρ st = .ok (ts.map (fun t => [.tup (iv t)]), some (b, tv ts)) st1 := by
  rw [evi_over, ha, Res.bind_ok]
  simp only [overV, hb, lift_some]
  simp [tv, Function.comp_def]
variable {T : Fn → Option FDef} {k : Nat} {f : Fn} {d : FDef} {ns : List Int} {t : List Val}
theorem call_st (h : T f = some d) (hn : vs.length = d.np) (hk : d.keep = false) (hb : execs (callN T k) d.body (vs.map some ++ List.replicate (d.ns - d.np) none) st = .ret v st1) (hl : st1.length = st.length) (hv : ∀ m, v ≠ .box m) : callN T (k + 1) f vs st = .ok v st1 := by
  rw [callN_succ h, callD_eq hn, hb, endC_ret, hk]
  exact fin_no hv hl
theorem c_pick_box (ns : List Int) (t : List Val) {ts : List (List Int)} {rest : Store} {b : Nat} (hb : rest[b]? = some (.list (tv ts))) (ht : t.length < 80000) (hts : 0 < ts.length) (h_l_cell_at : T .l_cell_at = some D.law_cell_at := by first | assumption | rfl) (h_l_mixed : T .l_mixed = some D.law_mixed := by first | assumption | rfl) (h_l_draw : T .l_draw = some D.law_draw := by first | assumption | rfl) (h_l_pick : T .l_pick = some D.law_pick := by first | assumption | rfl) : ∃ (i : Nat) (t' : List Val), i < ts.length ∧ t'.length = t.length + 1 ∧ callN T (k + 4) .l_pick [sc ns, .box 0, .box (b + 1)] (.list t :: rest) = .ok (.tup (iv (ts.getD i []))) (.list t' :: rest) := by
  obtain ⟨i, t', h1, h2, h3⟩ := c_draw (T := T) (k := k) ns t rest (by omega) (many := ts.length) hts
  refine ⟨i, t', h1, h2, call_st (d := D.law_pick) h_l_pick rfl rfl (q_ret (v := .tup (iv (ts.getD i []))) (st1 := .list t' :: rest) ?_) (by simp) (fun _ w => by cases w)⟩
  have hd : ∀ t'', deref (.list t'' :: rest) (.box (b + 1)) = .lst (tv ts) := fun t'' => by simp only [deref, List.getElem?_cons_succ, hb]
  refine x_idx (w_var rfl) (w_call (w_cons (w_var rfl) (w_cons (w_var rfl) (w_cons (x_b1 (w_var rfl) (r := .int (ts.length : Nat)) ?_) w_nil))) h3) ?_
  · rw [hd]; exact x_lenTv
  · rw [hd]; exact x_ixTv h1
theorem c_pick (ns : List Int) (t : List Val) {ts : List (List Int)} {rest : Store} (ht : t.length < 80000) (hts : 0 < ts.length) (h_l_cell_at : T .l_cell_at = some D.law_cell_at := by first | assumption | rfl) (h_l_mixed : T .l_mixed = some D.law_mixed := by first | assumption | rfl) (h_l_draw : T .l_draw = some D.law_draw := by first | assumption | rfl) (h_l_pick : T .l_pick = some D.law_pick := by first | assumption | rfl) : ∃ (i : Nat) (t' : List Val), i < ts.length ∧ t'.length = t.length + 1 ∧ callN T (k + 4) .l_pick [sc ns, .box 0, .lst (tv ts)] (.list t :: rest) = .ok (.tup (iv (ts.getD i []))) (.list t' :: rest) := by
  obtain ⟨i, t', h1, h2, h3⟩ := c_draw (T := T) (k := k) ns t rest (by omega) (many := ts.length) hts
  refine ⟨i, t', h1, h2, call_st (d := D.law_pick) h_l_pick rfl rfl (q_ret (v := .tup (iv (ts.getD i []))) (st1 := .list t' :: rest) ?_) (by simp) (fun _ w => by cases w)⟩
  exact x_idx (w_var rfl) (w_call (w_cons (w_var rfl) (w_cons (w_var rfl) (w_cons (x_b1 (w_var rfl) xd_lenTv) w_nil))) h3) (xd_ixTv h1)
end
end Sw
end

section
/-! SwV: try, functions out of lists, what is raised. -/
namespace Sw
open PySem (Str)
section
variable {C : Orc} {ρ : Env} {st st1 st2 st3 : Store} {a b g : Ex} {as : Exs} {x y v : Val} {body ss : Sts} {i c : Nat} {f : Fn} {vs : List Val}
theorem q_try (h : execs C body ρ st = .ret v st1) : execs C (.cons (.tryw i body) ss) ρ st = .ret v st1 := by
  rw [ex_cons]; simp only [exec, h]; rfl
theorem q_tryE (h : execs C body ρ st = .exc c st1) (hc : c < 9) : execs C (.cons (.tryw i body) ss) ρ st = .ret (raised c) st1 := by
  rw [ex_cons]; simp only [exec, h, if_pos hc]; rfl
theorem w_callv (hg : ev C g ρ st = .ok (.fn f) st1) (h : evs C as ρ st1 = .ok vs st2) (hc : C f vs st2 = .ok v st3) : ev C (.callv g as) ρ st = .ok v st3 := by
  simp only [ev, hg, Res.bind_ok, h, hc]
theorem w_callvE (hg : ev C g ρ st = .ok (.fn f) st1) (h : evs C as ρ st1 = .ok vs st2) (hc : C f vs st2 = .exc c st3) : ev C (.callv g as) ρ st = .exc c st3 := by
  simp only [ev, hg, Res.bind_ok, h, hc]
theorem fin_raised : fin false st.length (raised c) st = .ok (raised c) st := fin_tup
theorem k_raised : okEq (raised c) = true := by
  have e1 : dat 7 (.str "raised") = true := by decide +kernel
  have d : dat 8 (raised c) = true := by
    show ([Val.str "raised", .int (c : Nat)].all (dat 7)) = true
    rw [List.all_cons, e1]; rfl
  have v : veq (raised c) (raised c) = true := by simp [raised, veq, veqs]
  show (dat 8 (raised c) && dat 8 (raised c) && veq (raised c) (raised c)) = true
  rw [d, v]; rfl
theorem w_raised : ev C (.tup (.cons (.cs "raised") (.cons (.ci (c : Nat)) .nil))) ρ st = .ok (raised c) st := w_tup (w_cons ev_cs (w_cons ev_ci w_nil)) rfl rfl
/-- answered by the code that is asked -/
theorem tf_raised (ha : ev C a ρ st = .ok (raised c) st) (hb : ev C b ρ st = .ok (raised c) st) : TF C (.cmp .ne a b) ρ st := tf_ne ha hb k_raised rfl
theorem tt_raised (ha : ev C a ρ st = .ok (raised c) st) (hb : ev C b ρ st = .ok (raised c) st) : TT C (.cmp .eq a b) ρ st := tt_eq ha hb k_raised rfl
end
section
variable {T : Fn → Option FDef} {k : Nat} {st : Store} {xs : List Int} {m n p : Nat} {v w : Val}
theorem c_shifted_bad (h : IsF xs) (hv : plainV v = true) (hb : isIntV 0 ((xs.length : Nat) - 1) v = false) (h_shifted : T .shifted = some D.shifted := by first | assumption | rfl) (h_moved : T .moved = some D.moved := by first | assumption | rfl) (h_is_integer : T .is_integer = some D.is_integer := by first | assumption | rfl) (h_is_function : T .is_function = some D.is_function := by first | assumption | rfl) (h_check_function : T .check_function = some D.check_function := by first | assumption | rfl) (h_check_mask : T .check_mask = some D.check_mask := by first | assumption | rfl) (h_common : T .common = some D.common := by first | assumption | rfl) (h_exclusive : T .exclusive = some D.exclusive := by first | assumption | rfl) : callN T (k + 4) .shifted [.tup (iv xs), v] st = .exc 3 st := by
  refine call_exc (d := D.shifted) (st1 := st) h_shifted rfl (q_expr (v := .non) (st1 := st) (w_call (w_cons (w_var rfl) w_nil) (c_check h)) (q_exprE (w_callE (w_cons (w_var rfl) (w_cons (x_b1 (w_var rfl) xd_lenT) w_nil)) (c_check_mask_bad hv hb)))) (by simp)
theorem c_tilted_bad (h : IsF xs) (hv : plainV v = true) (hb : isIntV 0 ((xs.length : Nat) - 1) v = false) (h_leaned : T .leaned = some D.leaned := by first | assumption | rfl) (h_tilted : T .tilted = some D.tilted := by first | assumption | rfl) (h_is_integer : T .is_integer = some D.is_integer := by first | assumption | rfl) (h_is_function : T .is_function = some D.is_function := by first | assumption | rfl) (h_check_function : T .check_function = some D.check_function := by first | assumption | rfl) (h_check_mask : T .check_mask = some D.check_mask := by first | assumption | rfl) (h_bit_count : T .bit_count = some D.bit_count := by first | assumption | rfl) (h_common : T .common = some D.common := by first | assumption | rfl) (h_straight : T .straight = some D.straight := by first | assumption | rfl) : callN T (k + 4) .tilted [.tup (iv xs), v] st = .exc 3 st := by
  refine call_exc (d := D.tilted) (st1 := st) h_tilted rfl (q_expr (v := .non) (st1 := st) (w_call (w_cons (w_var rfl) w_nil) (c_check h)) (q_exprE (w_callE (w_cons (w_var rfl) (w_cons (x_b1 (w_var rfl) xd_lenT) w_nil)) (c_check_mask_bad hv hb)))) (by simp)
theorem c_fixed_bad1 (h : IsF xs) (hv : plainV v = true) (hb : isIntV 0 ((xs.length : Nat) - 1) v = false) (h_is_integer : T .is_integer = some D.is_integer := by first | assumption | rfl) (h_is_function : T .is_function = some D.is_function := by first | assumption | rfl) (h_check_function : T .check_function = some D.check_function := by first | assumption | rfl) (h_check_mask : T .check_mask = some D.check_mask := by first | assumption | rfl) (h_common : T .common = some D.common := by first | assumption | rfl) (h_fixed : T .fixed = some D.fixed := by first | assumption | rfl) : callN T (k + 4) .fixed [.tup (iv xs), v, w] st = .exc 3 st := by
  refine call_exc (d := D.fixed) (st1 := st) h_fixed rfl (q_expr (v := .non) (st1 := st) (w_call (w_cons (w_var rfl) w_nil) (c_check h)) (q_exprE (w_callE (w_cons (w_var rfl) (w_cons (x_b1 (w_var rfl) xd_lenT) w_nil)) (c_check_mask_bad hv hb)))) (by simp)
theorem c_fixed_bad2 (h : IsF xs) (hm : m < xs.length) (hv : plainV v = true) (hb : isIntV 0 ((xs.length : Nat) - 1) v = false) (h_is_integer : T .is_integer = some D.is_integer := by first | assumption | rfl) (h_is_function : T .is_function = some D.is_function := by first | assumption | rfl) (h_check_function : T .check_function = some D.check_function := by first | assumption | rfl) (h_check_mask : T .check_mask = some D.check_mask := by first | assumption | rfl) (h_common : T .common = some D.common := by first | assumption | rfl) (h_fixed : T .fixed = some D.fixed := by first | assumption | rfl) : callN T (k + 4) .fixed [.tup (iv xs), .int (m : Nat), v] st = .exc 3 st := by
  refine call_exc (d := D.fixed) (st1 := st) h_fixed rfl (q_expr (v := .non) (st1 := st) (w_call (w_cons (w_var rfl) w_nil) (c_check h)) (q_expr (v := .non) (st1 := st) (w_call (w_cons (w_var rfl) (w_cons (x_b1 (w_var rfl) xd_lenT) w_nil)) (c_check_mask hm)) (q_exprE (w_callE (w_cons (w_var rfl) (w_cons (x_b1 (w_var rfl) xd_lenT) w_nil)) (c_check_mask_bad hv hb))))) (by simp)
end
end Sw
end

section
/-! SwC: changes, their waves, gaps and echoes. -/
namespace Sw
section
variable {xs ys : List Int} {m p s n u : Nat}
theorem W_moved (h : IsF xs) (hs : s < xs.length) (hu : u < xs.length) : W (movedL xs s) u = W xs u * sg u s := by
  have hn := size_le h.1
  rw [W_S (isF_moved h hs).1 (by rw [movedL_len]; exact hu), movedL_len, W_S h.1 hu, ← S_xor h.1 hs (fun i => ep (movedL xs s) i * sg u i), ← S_mulR]
  refine S_congr fun i hi => ?_
  have hx := xor_lt h.1 hi hs
  rw [ep_moved hx, Nat.xor_assoc, Nat.xor_self, Nat.xor_zero, sg_mul (by omega) (by omega) (by omega)]
  grind
theorem W_lean' (h : IsF xs) (hm : m < xs.length) (hu : u < xs.length) : W (leanL xs m) u = W xs (u ^^^ m) := by
  have hn := size_le h.1
  rw [W_S (isF_lean h).1 (by rw [lean_len]; exact hu), lean_len, W_S h.1 (xor_lt h.1 hu hm)]
  refine S_congr fun i hi => ?_
  rw [ep_lean h (by omega) hi, sg_mul' (by omega) (by omega) (by omega)]
  grind
theorem W_opp (h : IsF xs) (hu : u < xs.length) : W (oppL xs) u = -W xs u := by
  rw [W_S (isF_opp h).1 (by rw [oppL_len]; exact hu), oppL_len, W_S h.1 hu, ← S_neg]
  refine S_congr fun i hi => ?_
  rw [ep_opp hi]; grind
theorem gap_of_H (h : IsF xs) (h2 : IsF ys) (hl : ys.length = xs.length) (he : Hh ys = Hh xs) : gapL ys = gapL xs := by
  have a := gap_two h
  have b := gap_two h2
  rw [he, hl] at b
  omega
theorem gap_moved (h : IsF xs) (hs : s < xs.length) : gapL (movedL xs s) = gapL xs := by
  have hn := size_le h.1
  refine gap_of_H h (isF_moved h hs) movedL_len (H_unique h.1 (fun u hu => ?_) ?_)
  · have a := H_ge (isF_moved h hs).1 (u := u) (by rw [movedL_len]; exact hu)
    rw [W_moved h hs hu] at a
    rcases sg_pm (m := u) (p := s) (by omega) (by omega) with e | e <;> rw [e] at a <;> omega
  · obtain ⟨u, hu, e⟩ := H_att (isF_moved h hs).1
    rw [movedL_len] at hu
    rw [W_moved h hs hu] at e
    refine ⟨u, hu, ?_⟩
    rcases sg_pm (m := u) (p := s) (by omega) (by omega) with e' | e' <;> rw [e'] at e <;> omega
theorem gap_lean (h : IsF xs) (hm : m < xs.length) : gapL (leanL xs m) = gapL xs := by
  refine gap_of_H h (isF_lean h) lean_len (H_unique h.1 (fun u hu => ?_) ?_)
  · have a := H_ge (isF_lean h (m := m)).1 (u := u ^^^ m) (by rw [lean_len]; exact xor_lt h.1 hu hm)
    rw [W_lean' h hm (xor_lt h.1 hu hm), Nat.xor_assoc, Nat.xor_self, Nat.xor_zero] at a
    exact a
  · obtain ⟨u, hu, e⟩ := H_att (isF_lean h (m := m)).1
    rw [lean_len] at hu
    rw [W_lean' h hm hu] at e
    exact ⟨u ^^^ m, xor_lt h.1 hu hm, e⟩
theorem gap_opp (h : IsF xs) : gapL (oppL xs) = gapL xs := by
  refine gap_of_H h (isF_opp h) oppL_len (H_unique h.1 (fun u hu => ?_) ?_)
  · have a := H_ge (isF_opp h).1 (u := u) (by rw [oppL_len]; exact hu)
    rw [W_opp h hu] at a
    omega
  · obtain ⟨u, hu, e⟩ := H_att (isF_opp h).1
    rw [oppL_len] at hu
    rw [W_opp h hu] at e
    exact ⟨u, hu, by omega⟩
theorem echo_at (hs : s < xs.length) (h : IsF xs) : (echoL xs).getD s 0 = S xs.length fun i => ep xs i * ep xs (i ^^^ s) := echo_S h hs
theorem echo_moved (h : IsF xs) (hs : s < xs.length) : echoL (movedL xs s) = echoL xs := by
  refine tup_ext (n := xs.length) (by rw [echoL_len, movedL_len]) echoL_len fun t ht => ?_
  rw [echo_at (by rw [movedL_len]; exact ht) (isF_moved h hs), movedL_len, echo_at ht h, ← S_xor h.1 hs]
  refine S_congr fun i hi => ?_
  have h1 := xor_lt h.1 hi hs
  rw [ep_moved h1, ep_moved (xor_lt h.1 h1 ht), Nat.xor_assoc, Nat.xor_self, Nat.xor_zero]
  congr 2
  rw [Nat.xor_assoc, Nat.xor_assoc, Nat.xor_comm t s, ← Nat.xor_assoc s s t, Nat.xor_self, Nat.zero_xor]
theorem echo_opp (h : IsF xs) : echoL (oppL xs) = echoL xs := by
  refine tup_ext (n := xs.length) (by rw [echoL_len, oppL_len]) echoL_len fun t ht => ?_
  rw [echo_at (by rw [oppL_len]; exact ht) (isF_opp h), oppL_len, echo_at ht h]
  refine S_congr fun i hi => ?_
  rw [ep_opp hi, ep_opp (xor_lt h.1 hi ht)]; grind
theorem echo_lean (h : IsF xs) (hm : m < xs.length) {t : Nat} (ht : t < xs.length) : (echoL (leanL xs m)).getD t 0 = (echoL xs).getD t 0 * sg m t := by
  have hn := size_le h.1
  rw [echo_at (by rw [lean_len]; exact ht) (isF_lean h), lean_len, echo_at ht h, ← S_mulR]
  refine S_congr fun i hi => ?_
  have h1 := xor_lt h.1 hi ht
  rw [ep_lean h (by omega) hi, ep_lean h (by omega) h1, sg_mul (by omega) (by omega) (by omega)]
  have := sg_sq (m := m) (p := i) (by omega) (by omega)
  grind
theorem lean_lean (h : IsF xs) (hm : m < xs.length) : leanL (leanL xs m) m = xs := by
  have hn := size_le h.1
  refine ep_inj (isF_lean (isF_lean h)) h (by rw [lean_len, lean_len]) fun i hi => ?_
  rw [lean_len, lean_len] at hi
  rw [ep_lean (isF_lean h) (by omega) (by rw [lean_len]; exact hi), ep_lean h (by omega) hi, Int.mul_assoc, sg_sq (by omega) (by omega)]
  omega
theorem opp_opp : oppL (oppL xs) = xs := by
  unfold oppL
  rw [List.map_map]
  conv => rhs; rw [← List.map_id xs]
  exact List.map_congr_left fun x _ => by simp only [Function.comp, id]; omega
end
end Sw
end

section
/-! SwY: rules for any end of a run; loops in passing; data. -/
namespace Sw
open PySem (Str)
theorem veqs_of {n : Nat} (ih : ∀ v, dat n v = true → veq v v = true) : ∀ xs : List Val, xs.all (dat n) = true → veqs xs xs = true
  | [], _ => rfl
  | x :: xs, h => by
    rw [List.all_cons, Bool.and_eq_true] at h
    rw [veqs, ih x h.1, veqs_of ih xs h.2]
    rfl
theorem veq_refl : ∀ (n : Nat) (v : Val), dat n v = true → veq v v = true
  | _, .non, _ => rfl
  | _, .bl b, _ => by cases b <;> rfl
  | _, .int i, _ => by simp [veq]
  | _, .str x, _ => by simp [veq]
  | 0, .tup xs, h => by simp [dat] at h
  | 0, .lst xs, h => by simp [dat] at h
  | n + 1, .tup xs, h => by rw [veq]; exact veqs_of (veq_refl n) xs (by simpa only [dat] using h)
  | n + 1, .lst xs, h => by rw [veq]; exact veqs_of (veq_refl n) xs (by simpa only [dat] using h)
  | n, .slst xs, h => by cases n <;> simp [dat] at h
  | n, .fn f, h => by cases n <;> simp [dat] at h
  | n, .box b, h => by cases n <;> simp [dat] at h
theorem k_dat {v : Val} (h : dat 8 v = true) : okEq v = true := by
  have hv := veq_refl 8 v h
  have e : unS v = v := by
    cases v with
    | slst xs => simp [dat] at h
    | _ => rfl
  simp only [okEq, e, h, hv]
  rfl
theorem dat_raised {c : Nat} : dat 7 (raised c) = true := by
  have e1 : dat 6 (.str "raised") = true := by decide +kernel
  show ([Val.str "raised", .int (c : Nat)].all (dat 6)) = true
  rw [List.all_cons, e1]; rfl
/-- a run that goes on -/
def Nx (J : Env → Store → Prop) (r : SRes) : Prop := ∃ ρ st, r = .next ρ st ∧ J ρ st
section
variable {C : Orc} {ρ ρ' : Env} {st st1 st2 st3 : Store} {a b c g o e : Ex} {as : Exs} {x y z v r : Val} {t u : Bool} {α : Type} {l : List α} {en : α → List Val} {it : It} {tg : List Nat} {ss sx sy body : Sts} {i : Nat} {P : SRes → Prop}
theorem g_of {r r' : SRes} (h : r = r') (k : P r') : P r := by rw [h]; exact k
theorem g_env (hρ : ρ = ρ') (k : P (execs C ss ρ' st)) : P (execs C ss ρ st) := by rw [hρ]; exact k
theorem g_nil {J : Env → Store → Prop} (h : J ρ st) : Nx J (execs C .nil ρ st) := ⟨ρ, st, q_nil, h⟩
theorem g_set (h : ev C e ρ st = .ok v st1) (hρ : ρ.set i (some v) = ρ') (k : P (execs C ss ρ' st1)) : P (execs C (.cons (.set i e) ss) ρ st) := g_of (q_set h rfl) (by rw [hρ]; exact k)
theorem g_par {is : List Nat} {vs : List Val} (h : evs C as ρ st = .ok vs st1) (hl : is.length = vs.length) (hρ : setAll ρ is vs = ρ') (k : P (execs C ss ρ' st1)) : P (execs C (.cons (.par is as) ss) ρ st) := g_of (q_par h hl rfl) (by rw [hρ]; exact k)
theorem g_box {xs : List Val} (h : ev C e ρ st = .ok (.lst xs) st1) (hρ : ρ.set i (some (.box st1.length)) = ρ') (hs : st1 ++ [.list xs] = st2) (k : P (execs C ss ρ' st2)) : P (execs C (.cons (.boxset i e) ss) ρ st) := g_of (q_box h rfl) (by rw [hρ, hs]; exact k)
theorem g_skip (h : TF C c ρ st) (k : P (execs C ss ρ st)) : P (execs C (.cons (.ife c sx .nil) ss) ρ st) := g_of (q_skip h rfl) k
theorem g_expr (h : ev C e ρ st = .ok v st1) (k : P (execs C ss ρ st1)) : P (execs C (.cons (.expr e) ss) ρ st) := g_of (q_expr h rfl) k
theorem g_aug {q : Bop} {i' j n : Int} (hx : ρ[i]? = some (some (.int i'))) (h : ev C e ρ st = .ok (.int j) st1) (ho : augV q i' j = some n) (hρ : ρ.set i (some (.int n)) = ρ') (k : P (execs C ss ρ' st1)) : P (execs C (.cons (.aug i q e) ss) ρ st) := g_of (q_aug hx h ho rfl) (by rw [hρ]; exact k)
theorem g_app {n : Nat} {xs : List Val} (h1 : ev C o ρ st = .ok (.box n) st) (h0 : st[n]? = some (.list xs)) (h2 : ev C e ρ st = .ok v st) (h6 : v.pure = true) (h7 : xs.length < 1000) (hs : st.set n (.list (xs ++ [v])) = st2) (k : P (execs C ss ρ st2)) : P (execs C (.cons (.app o e) ss) ρ st) := g_of (q_app h1 h0 h2 h6 (Nat.lt_of_lt_of_le h7 (by decide)) rfl) (by rw [hs]; exact k)
theorem g_ext {n : Nat} {xs ys : List Val} (h1 : ev C o ρ st = .ok (.box n) st) (h0 : st[n]? = some (.list xs)) (h2 : ev C e ρ st = .ok (.lst ys) st) (h7 : xs.length + ys.length ≤ 1000) (hs : st.set n (.list (xs ++ ys)) = st2) (k : P (execs C ss ρ st2)) : P (execs C (.cons (.ext o e) ss) ρ st) := g_of (q_ext h1 h0 h2 (lim_big h7) rfl) (by rw [hs]; exact k)
theorem g_setidx {n j : Nat} {k' : Int} {xs : List Val} (h2 : ev C e ρ st = .ok v st) (h1 : ev C o ρ st = .ok (.box n) st) (h3 : ev C a ρ st = .ok (.int k') st) (h0 : st[n]? = some (.list xs)) (hj : ixOf xs.length k' = some j) (h6 : v.pure = true) (hs : st.set n (.list (xs.set j v)) = st2) (k : P (execs C ss ρ st2)) : P (execs C (.cons (.setidx o a e) ss) ρ st) := by
  refine g_of (r' := execs C ss ρ st2) ?_ k
  rw [ex_cons]
  simp only [exec, h2, Res.sbind_ok, h1, h3, h0, hj, h6, if_true, hs, SRes.bind_next]
theorem g_ret {s : Store} (h : ev C e ρ st = .ok v s) (k : P (.ret v s)) : P (execs C (.cons (.ret e) ss) ρ st) := g_of (q_ret h) k
theorem g_done (h : TT C e ρ st) : Done (execs C (.cons (.ret e) ss) ρ st) := dn_end (q_retT h)
theorem g_if {J : Env → Store → Prop} {b : Bool} (h : ev C c ρ st = .ok (.bl b) st1) (hT : b = true → Nx J (execs C sx ρ st1)) (hF : b = false → Nx J (execs C sy ρ st1)) (k : ∀ ρ' st', J ρ' st' → P (execs C ss ρ' st')) : P (execs C (.cons (.ife c sx sy) ss) ρ st) := by
  cases b with
  | true =>
    obtain ⟨ρ1, s1, e1, j1⟩ := hT rfl
    exact g_of (q_ifT h e1 rfl) (k _ _ j1)
  | false =>
    obtain ⟨ρ1, s1, e1, j1⟩ := hF rfl
    exact g_of (q_ifF h e1 rfl) (k _ _ j1)
/-- a branch that ends the run, or is passed -/
theorem g_ifD {b : Bool} (h : ev C c ρ st = .ok (.bl b) st1) (hT : b = true → Done (execs C sx ρ st1)) (hF : b = false → Done (execs C ss ρ st1)) : Done (execs C (.cons (.ife c sx .nil) ss) ρ st) := by
  cases b with
  | true =>
    obtain ⟨s1, e1⟩ := hT rfl
    exact ⟨s1, q_ifT h e1 rfl⟩
  | false => exact g_of (q_ifF h q_nil rfl) (hF rfl)
theorem g_for {is : Items} {st' : Store} (hi : evi C it ρ st = .ok is st1) (hf : forB C body tg is.2 is.1 ρ st1 = .next ρ' st') (k : P (execs C ss ρ' st')) : P (execs C (.cons (.for_ tg it body) ss) ρ st) := g_of (q_for hi hf rfl) k
theorem g_forI (I : List α → Env → Store → Prop) (hi : evi C it ρ st = .ok (l.map en, none) st1) (h0 : I [] ρ st1) (hs : ∀ d a r ρ st, l = d ++ a :: r → I d ρ st → Nx (I (d ++ [a])) (execs C body (setAll ρ tg (en a)) st)) (k : ∀ ρ' st', I l ρ' st' → P (execs C ss ρ' st')) : P (execs C (.cons (.for_ tg it body) ss) ρ st) := by
  obtain ⟨ρ2, s2, e2, j2⟩ := for_inv (C := C) (en := en) (body := body) (tg := tg) I l [] ρ st1 (fun d a r ρ st e hd => hs d a r ρ st (by simpa using e) hd) h0
  exact g_for hi e2 (k _ _ (by simpa using j2))
theorem g_forC {τ : Type} (mk : τ → Env) (t0 : τ) (hi : evi C it (mk t0) st = .ok (l.map en, none) st1) (hs : ∀ a ∈ l, ∀ t, Nx (fun ρ s => s = st1 ∧ ∃ t', ρ = mk t') (execs C body (setAll (mk t) tg (en a)) st1)) (k : ∀ t, P (execs C ss (mk t) st1)) : P (execs C (.cons (.for_ tg it body) ss) (mk t0) st) := by
  obtain ⟨t2, e2⟩ := for_chk (C := C) (st := st1) (en := en) (body := body) (tg := tg) mk l (fun a ha t => by
    obtain ⟨ρ1, s1, e1, h1, t', h2⟩ := hs a ha t
    exact ⟨t', by rw [e1, h1, h2]⟩) t0
  exact g_for hi e2 (k t2)
theorem range_split {n m : Nat} {d r : List Nat} (h : List.range n = d ++ m :: r) : d = List.range m ∧ m < n := by
  have hl := congrArg List.length h
  simp at hl
  have hm : m = d.length := by
    have h1 : (List.range n)[d.length]? = some m := by rw [h]; simp
    rw [List.getElem?_range (by omega)] at h1
    injection h1 with h1
    exact h1.symm
  refine ⟨?_, by omega⟩
  have h2 : (List.range n).take d.length = d := by rw [h]; simp
  rw [← h2, List.take_range, hm]
  congr 1
  omega
theorem g_forR {n : Nat} (I : Nat → Env → Store → Prop) (hi : evi C it ρ st = .ok ((List.range n).map (fun i => [.int (i : Nat)]), none) st1) (h0 : I 0 ρ st1) (hs : ∀ m < n, ∀ ρ st, I m ρ st → Nx (I (m + 1)) (execs C body (setAll ρ tg [.int (m : Nat)]) st)) (k : ∀ ρ' st', I n ρ' st' → P (execs C ss ρ' st')) : P (execs C (.cons (.for_ tg it body) ss) ρ st) := by
  refine g_forI (en := fun i : Nat => [.int (i : Nat)]) (l := List.range n) (fun d ρ st => d = List.range d.length ∧ I d.length ρ st) hi ⟨rfl, h0⟩ ?_ ?_
  · rintro d m r ρ st e ⟨h1, h2⟩
    obtain ⟨e1, e2⟩ := range_split e
    have hd : d.length = m := by rw [e1]; simp
    obtain ⟨ρ1, s1, f1, f2⟩ := hs m e2 ρ st (hd ▸ h2)
    refine ⟨ρ1, s1, f1, ?_, ?_⟩
    · rw [List.length_append, List.length_singleton, hd, List.range_succ, ← e1]
    · rw [List.length_append, List.length_singleton, hd]; exact f2
  · rintro ρ' st' ⟨_, h⟩
    rw [List.length_range] at h
    exact k _ _ h
/-! ### lists that say the same at each place -/
theorem rep_oneV (n : Nat) (x : Val) : rep n [x] = List.replicate n x := by
  induction n with
  | zero => rfl
  | succ n ih => simp only [rep, List.replicate_succ, List.flatten_cons] at ih ⊢; rw [ih]; rfl
theorem map_rep (l : List α) (x : Val) : l.map (fun _ => x) = List.replicate l.length x := by
  induction l with
  | nil => rfl
  | cons a l ih => simp [List.replicate_succ, ih]
theorem dat_rep {n : Nat} (h : dat 7 x = true) : dat 8 (.lst (List.replicate n x)) = true := by
  show (List.replicate n x).all (dat 7) = true
  rw [List.all_eq_true]
  intro y hy
  rw [List.eq_of_mem_replicate hy, h]
theorem ev_rep {n : Nat} (hn : n ≤ 64) (hp : v.pure = true) (hb : ev C b ρ st = .ok v st) (he : ev C e ρ st = .ok (.int (n : Nat)) st) : ev C (.bin .mul (.lst (.cons b .nil)) e) ρ st = .ok (.lst (List.replicate n v)) st := by
  refine w_bin (w_lst (w_cons hb w_nil) (by simp [hp, lim]) rfl) he ?_
  show (if (0 ≤ ((n : Nat) : Int) && ((n : Nat) : Int) ≤ 64 && decide ([v].length ≤ 64)) = true then some (Val.lst (rep ((n : Nat) : Int).toNat [v])) else none) = _
  rw [if_pos (by simp; omega), rep_oneV]
  simp
variable {ρl : α → Env}
theorem tt_same (hi : evi C it ρ st = .ok (l.map en, none) st) (hl : l.length ≤ 64) (hρ : ∀ a, setAll (wipeAll ρ tg) tg (en a) = ρl a) (hg : ∀ a ∈ l, ∀ s, ev C e (ρl a) s = .ok v s) (hp : v.pure = true) (hd : dat 7 v = true) (hb : ev C b ρ st = .ok v st) (he : ev C c ρ st = .ok (.int (l.length : Nat)) st) : TT C (.cmp .eq (.lc e tg it .none) (.bin .mul (.lst (.cons b .nil)) c)) ρ st :=
  tt_eq (x_lc hi (by omega) hρ hg (fun _ _ => hp) (by rw [map_rep])) (ev_rep hl hp hb he) (k_dat (dat_rep hd)) rfl
theorem tf_same (hi : evi C it ρ st = .ok (l.map en, none) st) (hl : l.length ≤ 64) (hρ : ∀ a, setAll (wipeAll ρ tg) tg (en a) = ρl a) (hg : ∀ a ∈ l, ∀ s, ev C e (ρl a) s = .ok v s) (hp : v.pure = true) (hd : dat 7 v = true) (hb : ev C b ρ st = .ok v st) (he : ev C c ρ st = .ok (.int (l.length : Nat)) st) : TF C (.cmp .ne (.lc e tg it .none) (.bin .mul (.lst (.cons b .nil)) c)) ρ st :=
  tf_ne (x_lc hi (by omega) hρ hg (fun _ _ => hp) (by rw [map_rep])) (ev_rep hl hp hb he) (k_dat (dat_rep hd)) rfl
variable {n : Nat} {vs : List Val}
theorem tt_sameB {vs : List Val} (hi : evi C it ρ st = .ok (l.map en, some (n, vs)) st) (hbx : st[n]? = some (.list vs)) (hl : l.length ≤ 64) (hρ : ∀ a, setAll (wipeAll ρ tg) tg (en a) = ρl a) (hg : ∀ a ∈ l, ∀ s, ev C e (ρl a) s = .ok v s) (hp : v.pure = true) (hd : dat 7 v = true) (hb : ev C b ρ st = .ok v st) (he : ev C c ρ st = .ok (.int (l.length : Nat)) st) : TT C (.cmp .eq (.lc e tg it .none) (.bin .mul (.lst (.cons b .nil)) c)) ρ st :=
  tt_eq (x_lcB hi hbx (by omega) hρ hg (fun _ _ => hp) (by rw [map_rep])) (ev_rep hl hp hb he) (k_dat (dat_rep hd)) rfl
theorem tf_sameB {vs : List Val} (hi : evi C it ρ st = .ok (l.map en, some (n, vs)) st) (hbx : st[n]? = some (.list vs)) (hl : l.length ≤ 64) (hρ : ∀ a, setAll (wipeAll ρ tg) tg (en a) = ρl a) (hg : ∀ a ∈ l, ∀ s, ev C e (ρl a) s = .ok v s) (hp : v.pure = true) (hd : dat 7 v = true) (hb : ev C b ρ st = .ok v st) (he : ev C c ρ st = .ok (.int (l.length : Nat)) st) : TF C (.cmp .ne (.lc e tg it .none) (.bin .mul (.lst (.cons b .nil)) c)) ρ st :=
  tf_ne (x_lcB hi hbx (by omega) hρ hg (fun _ _ => hp) (by rw [map_rep])) (ev_rep hl hp hb he) (k_dat (dat_rep hd)) rfl
theorem over_boxV (ha : ev C a ρ st = .ok (.box n) st1) (hb : st1[n]? = some (.list vs)) : evi C (.over a) ρ st = .ok (vs.map (fun t => [t]), some (n, vs)) st1 := by
  rw [evi_over, ha, Res.bind_ok]
  simp only [overV, hb, lift_some]
theorem over_boxI {xs : List Int} (ha : ev C a ρ st = .ok (.box n) st1) (hb : st1[n]? = some (.list (iv xs))) : evi C (.over a) ρ st = .ok (xs.map (fun t => [.int t]), some (n, iv xs)) st1 := by
  rw [over_boxV ha hb]
  simp [iv, Function.comp_def]
theorem over_boxN {xs : List Nat} (ha : ev C a ρ st = .ok (.box n) st1) (hb : st1[n]? = some (.list (iv (ni xs)))) : evi C (.over a) ρ st = .ok (xs.map (fun t => [.int (t : Nat)]), some (n, iv (ni xs))) st1 := by
  rw [over_boxV ha hb]
  simp [iv, ni, Function.comp_def]
theorem enum_boxI {xs : List Int} (ha : ev C a ρ st = .ok (.box n) st1) (hb : st1[n]? = some (.list (iv xs))) : evi C (.enum a) ρ st = .ok ((List.range xs.length).map (fun i => [.int (i : Nat), .int (xs.getD i 0)]), some (n, iv xs)) st1 := by
  rw [evi_enum, ha, Res.bind_ok]
  have h := o_enumL (st := st1) (xs := xs)
  simp only [enumOf] at h
  simp only [enumOf, hb, lift_some]
  injection h with h
  injection h with h
  rw [h]
theorem b1_box {f : B1} {n : Nat} (ha : ev C a ρ st = .ok (.box n) st1) (hb : st1[n]? = some (.list vs)) (h2 : op1 f (.lst vs) = some r) : ev C (.b1 f a) ρ st = .ok r st1 := w_b1 ha (by simp only [deref, hb, h2])
theorem idx_box {n : Nat} (ha : ev C a ρ st = .ok (.box n) st1) (hb : ev C b ρ st1 = .ok y st2) (h : st2[n]? = some (.list vs)) (h2 : opIx (.lst vs) y = some r) : ev C (.idx a b) ρ st = .ok r st2 := w_idx ha hb (by simp only [deref, h, h2])
theorem ix_last {xs : List Int} (h : xs ≠ []) : opIx (.lst (iv xs)) (.int (-1)) = some (.int (xs.getD (xs.length - 1) 0)) := by
  have hl : 0 < xs.length := List.length_pos_iff.mpr h
  simp only [opIx, seqOf, Option.bind_some, ixOf, iv_len]
  rw [if_neg (by omega), if_pos (by omega), Option.bind_some]
  have : (-1 + (xs.length : Int)).toNat = xs.length - 1 := by omega
  rw [this]
  have h2 : xs.length - 1 < xs.length := by omega
  simp [iv, List.getD, h2]
theorem ix_nil {n : Nat} (h1 : 1 ≤ n) (h2 : n ≤ 4) : opM .index (.lst (iv [2, 4, 8, 16])) (.int ((2 ^ n : Nat) : Int)) = some (.int ((n - 1 : Nat) : Int)) := by
  have : n = 1 ∨ n = 2 ∨ n = 3 ∨ n = 4 := by omega
  rcases this with rfl | rfl | rfl | rfl <;> rfl
/-- n of the size -/
theorem ev_bits {xs : List Int} (h : SizeOk xs.length) (ha : ev C a ρ st = .ok (.int (xs.length : Nat)) st) : ev C (.bin .add (.m1 .index (.lst (.cons (.ci 2) (.cons (.ci 4) (.cons (.ci 8) (.cons (.ci 16) .nil))))) a) (.ci 1)) ρ st = .ok (.int (lg xs.length : Nat)) st := by
  have : ∃ i : Int, opM .index (.lst [.int 2, .int 4, .int 8, .int 16]) (.int (xs.length : Nat)) = some (.int i) ∧ i + 1 = (lg xs.length : Nat) := by
    rcases h with e | e | e | e <;> rw [e]
    · exact ⟨0, rfl, rfl⟩
    · exact ⟨1, rfl, rfl⟩
    · exact ⟨2, rfl, rfl⟩
    · exact ⟨3, rfl, rfl⟩
  obtain ⟨i, h1, h2⟩ := this
  rw [← h2]
  exact w_bin (w_m1 (w_lst (w_cons ev_ci (w_cons ev_ci (w_cons ev_ci (w_cons ev_ci w_nil)))) rfl rfl) rfl ha h1) ev_ci rfl
end
end Sw
end

section
/-! SwO: arguments that are refused. -/
namespace Sw
open PySem (Str)
section
variable {xs ys : List Int} {vs : List Val} {v w : Val} {n m : Nat}
theorem o_initT (h : 0 < xs.length) : opSl none (some (-1)) (.tup (iv xs)) = some (.tup (iv (xs.take (xs.length - 1)))) := by
  have e : sIx (iv xs).length (iv xs).length (some (-1)) = xs.length - 1 := by
    simp only [sIx, iv_len]
    rw [if_pos (by omega)]
    omega
  have w : whole (iv xs).length none (some (-1)) = false := by
    simp only [whole, e, Bool.and_eq_false_iff, beq_eq_false_iff_ne]
    right
    rw [iv_len]
    omega
  simp only [opSl, w, Bool.false_eq_true, if_false, cut, e]
  simp [sIx, iv, List.map_take]
theorem o_tailT (h : 1 ≤ xs.length) : opSl (some 1) none (.tup (iv xs)) = some (.tup (iv (xs.drop 1))) := o_dropT (h := 1) h (by omega)
theorem o_addV {a b : List Val} (h : a.length + b.length ≤ 1000) : binop .add (.tup a) (.tup b) = some (.tup (a ++ b)) := by
  simp only [binop, lim_big h, if_true]
theorem plain_iv : ∀ xs : List Int, (iv xs).all plainV = true
  | [] => rfl
  | x :: xs => by
    have := plain_iv xs
    simp only [iv, List.map_cons, List.all_cons, Bool.and_eq_true] at this ⊢
    exact ⟨rfl, this⟩
theorem plainF_iv : plainF (.tup (iv xs)) = true := plain_iv xs
theorem plainF_snoc (h : plainV v = true) : plainF (.tup (iv xs ++ [v])) = true := by
  show (iv xs ++ [v]).all plainV = true
  rw [List.all_append, plain_iv, List.all_cons, h]
  rfl
theorem notF_len (h : ¬ SizeOk vs.length) : isFV (.tup vs) = false := by
  have : decide (vs.length = 2 ∨ vs.length = 4 ∨ vs.length = 8 ∨ vs.length = 16) = false := by
    rw [decide_eq_false_iff_not]; exact h
  simp only [isFV, this, Bool.false_and]
theorem notF_mem (h : v ∈ vs) (hv : isIntV 0 1 v = false) : isFV (.tup vs) = false := by
  simp only [isFV, Bool.and_eq_false_iff]
  right
  rw [List.all_eq_false]
  exact ⟨v, h, by simp [hv]⟩
theorem size_off (h : SizeOk n) : ¬ SizeOk (n - 1) ∧ ¬ SizeOk (n + 1) := by
  rcases h with rfl | rfl | rfl | rfl <;> decide
/-- values that are not functions, made of one -/
theorem odds_bad (h : SizeOk xs.length) : ∀ v ∈ [Val.non, .int 5, .tup [], .tup [.int 0], .lst (iv xs), .tup (iv (xs.drop 1)), .tup (iv (xs ++ [0])), .tup (iv (xs.take (xs.length - 1)) ++ [.int 2]), .tup (iv (xs.take (xs.length - 1)) ++ [.bl true]), .tup (iv (xs.take (xs.length - 1)) ++ [.str "0"]), .tup (iv (rep 32 [0]))], plainF v = true ∧ isFV v = false ∧ ∀ vs, v = .tup vs → vs.length ≤ 1000 := by
  have hn := size_le h
  obtain ⟨s1, s2⟩ := size_off h
  intro v hv
  simp only [List.mem_cons, List.not_mem_nil, or_false] at hv
  rcases hv with rfl | rfl | rfl | rfl | rfl | rfl | rfl | rfl | rfl | rfl | rfl
  · exact ⟨rfl, rfl, fun _ h => by cases h⟩
  · exact ⟨rfl, rfl, fun _ h => by cases h⟩
  · exact ⟨rfl, rfl, fun _ h => by cases h; simp⟩
  · exact ⟨rfl, rfl, fun _ h => by cases h; simp⟩
  · exact ⟨rfl, rfl, fun _ h => by cases h⟩
  · exact ⟨plainF_iv, notF_len (by simpa using s1), fun _ h => by cases h; simp; omega⟩
  · exact ⟨plainF_iv, notF_len (by simpa using s2), fun _ h => by cases h; simp; omega⟩
  · exact ⟨plainF_snoc rfl, notF_mem (v := .int 2) (by simp) rfl, fun _ h => by cases h; simp; omega⟩
  · exact ⟨plainF_snoc rfl, notF_mem (v := .bl true) (by simp) rfl, fun _ h => by cases h; simp; omega⟩
  · exact ⟨plainF_snoc rfl, notF_mem (v := .str "0") (by simp) rfl, fun _ h => by cases h; simp; omega⟩
  · exact ⟨plainF_iv, notF_len (by rw [iv_len, rep_len]; decide), fun _ h => by cases h; rw [iv_len, rep_len]; decide⟩
end
section
variable {T : Fn → Option FDef} {k : Nat} {st : Store} {xs : List Int} {m n p : Nat} {v w : Val} {vs : List Val}
theorem c_sum_for_bad1 (hv : plainV v = true) (hb : isIntV 1 4 v = false) (h_is_integer : T .is_integer = some D.is_integer := by first | assumption | rfl) (h_check_mask : T .check_mask = some D.check_mask := by first | assumption | rfl) (h_bit_count : T .bit_count = some D.bit_count := by first | assumption | rfl) (h_common : T .common = some D.common := by first | assumption | rfl) (h_straight : T .straight = some D.straight := by first | assumption | rfl) (h_sum_for : T .sum_for = some D.sum_for := by first | assumption | rfl) : callN T (k + 3) .sum_for [v, w] st = .exc 2 st := by
  refine call_exc (d := D.sum_for) (st1 := st) h_sum_for rfl (q_ifT (st1 := st) (R1 := .exc 2 st) ?_ q_raise rfl) (by simp)
  have h1 := c_is_integerV (T := T) (k := k + 1) (st := st) (lo := 1) (hi := 4) hv
  rw [hb] at h1
  exact (tt_not ⟨w_call (w_cons (w_var rfl) (w_cons ev_ci (w_cons ev_ci w_nil))) h1⟩).h
theorem c_sum_for_bad2 (h1 : 1 ≤ n) (h2 : n ≤ 4) (hv : plainV v = true) (hb : isIntV 0 ((2 ^ n : Nat) - 1) v = false) (h_is_integer : T .is_integer = some D.is_integer := by first | assumption | rfl) (h_check_mask : T .check_mask = some D.check_mask := by first | assumption | rfl) (h_bit_count : T .bit_count = some D.bit_count := by first | assumption | rfl) (h_common : T .common = some D.common := by first | assumption | rfl) (h_straight : T .straight = some D.straight := by first | assumption | rfl) (h_sum_for : T .sum_for = some D.sum_for := by first | assumption | rfl) : callN T (k + 3) .sum_for [.int (n : Nat), v] st = .exc 3 st := by
  have hz := o_sizes h1 h2
  refine call_exc (d := D.sum_for) (st1 := st) h_sum_for rfl (q_skip (tf_not (tt_of (t := decide ((1 : Int) ≤ (n : Nat)) && decide (((n : Nat) : Int) ≤ 4)) ?_ (by simp; omega))) (q_exprE ?_)) (by simp)
  · exact w_call (w_cons (w_var rfl) (w_cons ev_ci (w_cons ev_ci w_nil))) c_is_integer
  · exact w_callE (w_cons (w_var rfl) (w_cons (w_idx ev_sizes (w_bin (w_var rfl) ev_ci rfl) hz) w_nil)) (c_check_mask_bad hv hb)
theorem c_keeps_quiet_bad (h : IsF xs) (hv : plainV v = true) (hb : isIntV 0 (lg xs.length : Nat) v = false) (h_is_integer : T .is_integer = some D.is_integer := by first | assumption | rfl) (h_is_function : T .is_function = some D.is_function := by first | assumption | rfl) (h_check_function : T .check_function = some D.check_function := by first | assumption | rfl) (h_bit_count : T .bit_count = some D.bit_count := by first | assumption | rfl) (h_bits_of : T .bits_of = some D.bits_of := by first | assumption | rfl) (h_quiet_for : T .quiet_for = some D.quiet_for := by first | assumption | rfl) (h_keeps_quiet : T .keeps_quiet = some D.keeps_quiet := by first | assumption | rfl) (h_spread : T .spread = some D.spread := by first | assumption | rfl) (h_wave_of : T .wave_of = some D.wave_of := by first | assumption | rfl) : callN T (k + 4) .keeps_quiet [.tup (iv xs), v] st = .exc 2 st := by
  have h1 := c_is_integerV (T := T) (k := k + 2) (st := st) (lo := 0) (hi := (lg xs.length : Nat)) hv
  rw [hb] at h1
  refine call_exc (d := D.keeps_quiet) (st1 := st) h_keeps_quiet rfl (q_expr (v := .non) (st1 := st) (w_call (w_cons (w_var rfl) w_nil) (c_check h)) (q_ifT (st1 := st) (R1 := .exc 2 st) ?_ q_raise rfl)) (by simp)
  exact (tt_not ⟨w_call (w_cons (w_var rfl) (w_cons ev_ci (w_cons (w_call (w_cons (w_var rfl) w_nil) (c_bits_of h.1)) w_nil))) h1⟩).h
theorem tt_or2 {C : Orc} {a b : Ex} {ρ : Env} (ha : TF C a ρ st) (hb : TT C b ρ st) : TT C (.or a b) ρ st := ⟨by simp only [ev_or, ha.h, Res.bind_ok, pick_f, hb.h]⟩
/-! terms -/
theorem c_from_terms_bad1 (hv : plainV v = true) (hb : isIntV 1 4 v = false) (h_is_integer : T .is_integer = some D.is_integer := by first | assumption | rfl) (h_folded : T .folded = some D.folded := by first | assumption | rfl) (h_from_terms : T .from_terms = some D.from_terms := by first | assumption | rfl) : callN T (k + 3) .from_terms [v, w] st = .exc 2 st := by
  refine call_exc (d := D.from_terms) (st1 := st) h_from_terms rfl (q_ifT (st1 := st) (R1 := .exc 2 st) ?_ q_raise rfl) (by simp)
  have h1 := c_is_integerV (T := T) (k := k + 1) (st := st) (lo := 1) (hi := 4) hv
  rw [hb] at h1
  exact (tt_not ⟨w_call (w_cons (w_var rfl) (w_cons ev_ci (w_cons ev_ci w_nil))) h1⟩).h
theorem c_from_terms_bad2 (h1 : 1 ≤ n) (h2 : n ≤ 4) (hv : isTy st v .list = some false) (h_is_integer : T .is_integer = some D.is_integer := by first | assumption | rfl) (h_folded : T .folded = some D.folded := by first | assumption | rfl) (h_from_terms : T .from_terms = some D.from_terms := by first | assumption | rfl) : callN T (k + 3) .from_terms [.int (n : Nat), v] st = .exc 4 st := by
  have hz := o_sizes h1 h2
  refine call_exc (d := D.from_terms) (st1 := st) h_from_terms rfl (q_skip (tf_not (tt_of (t := decide ((1 : Int) ≤ (n : Nat)) && decide (((n : Nat) : Int) ≤ 4)) ?_ (by simp; omega))) (q_set (v := .int ((2 ^ n : Nat) : Int)) (st1 := st) (w_idx ev_sizes (w_bin (w_var rfl) ev_ci rfl) hz) (q_ifT (st1 := st) (R1 := .exc 4 st) (tt_or (tt_not ⟨w_isi (w_var rfl) hv⟩)).h q_raise rfl))) (by simp)
  exact w_call (w_cons (w_var rfl) (w_cons ev_ci (w_cons ev_ci w_nil))) c_is_integer
theorem c_from_terms_bad3 (h1 : 1 ≤ n) (h2 : n ≤ 4) (hl : vs.length ≤ 1000) (hv : vs.all plainV = true) (hb : vs.all (isIntV 0 ((2 ^ n : Nat) - 1)) = false) (h_is_integer : T .is_integer = some D.is_integer := by first | assumption | rfl) (h_folded : T .folded = some D.folded := by first | assumption | rfl) (h_from_terms : T .from_terms = some D.from_terms := by first | assumption | rfl) : callN T (k + 3) .from_terms [.int (n : Nat), .lst vs] st = .exc 4 st := by
  have hz := o_sizes h1 h2
  refine call_exc (d := D.from_terms) (st1 := st) h_from_terms rfl (q_skip (tf_not (tt_of (t := decide ((1 : Int) ≤ (n : Nat)) && decide (((n : Nat) : Int) ≤ 4)) ?_ (by simp; omega))) (q_set (v := .int ((2 ^ n : Nat) : Int)) (st1 := st) (w_idx ev_sizes (w_bin (w_var rfl) ev_ci rfl) hz) (q_ifT (st1 := st) (R1 := .exc 4 st) ?_ q_raise rfl))) (by simp)
  · exact w_call (w_cons (w_var rfl) (w_cons ev_ci (w_cons ev_ci w_nil))) c_is_integer
  · have e : (vs.map (isIntV 0 ((2 ^ n : Nat) - 1))).all id = false := by
      rw [List.all_map]; exact hb
    refine (tt_or2 (tf_not ⟨w_isi (w_var rfl) rfl⟩) (tt_not ⟨?_⟩)).h
    rw [← e]
    refine w_b1 (w_lc (l := vs) (en := fun x => [x]) (gg := fun v => .bl (isIntV 0 ((2 ^ n : Nat) - 1) v)) (w_over (w_var rfl) rfl) hl ?_ (fun _ _ => rfl) cv_bl) o_all
    intro a ha s
    have := List.all_eq_true.mp hv a ha
    exact w_call (w_cons (w_var rfl) (w_cons ev_ci (w_cons (w_bin (w_var rfl) ev_ci rfl) w_nil))) (c_is_integerV this)
theorem c_from_terms_bad4 (h1 : 1 ≤ n) (h2 : n ≤ 4) {a b : Int} (ha : 0 ≤ a ∧ a ≤ 1) (hb : 0 ≤ b ∧ b ≤ 1) (hab : ¬ a < b) (h_is_integer : T .is_integer = some D.is_integer := by first | assumption | rfl) (h_folded : T .folded = some D.folded := by first | assumption | rfl) (h_from_terms : T .from_terms = some D.from_terms := by first | assumption | rfl) : callN T (k + 3) .from_terms [.int (n : Nat), .lst (iv [a, b])] st = .exc 4 st := by
  have hz := o_sizes h1 h2
  have hp : 2 ≤ 2 ^ n := Nat.pow_le_pow_right (show 0 < 2 by omega) h1
  refine call_exc (d := D.from_terms) (st1 := st) h_from_terms rfl (q_skip (tf_not (tt_of (t := decide ((1 : Int) ≤ (n : Nat)) && decide (((n : Nat) : Int) ≤ 4)) ?_ (by simp; omega))) (q_set (v := .int ((2 ^ n : Nat) : Int)) (st1 := st) (w_idx ev_sizes (w_bin (w_var rfl) ev_ci rfl) hz) (q_skip (tf_or (tf_not ⟨w_isi (w_var rfl) rfl⟩) (tf_not (tt_of (t := ([a, b].map fun x => decide ((0 : Int) ≤ x) && decide (x ≤ (2 ^ n : Nat) - 1)).all id) ?_ ?_))) (q_ifT (st1 := st) (R1 := .exc 4 st) (tt_not (tf_of (t := ([(a, b)].map fun p => decide (p.1 < p.2)).all id) ?_ ?_)).h q_raise rfl)))) (by simp)
  · exact w_call (w_cons (w_var rfl) (w_cons ev_ci (w_cons ev_ci w_nil))) c_is_integer
  · refine w_b1 (w_lc (l := [a, b]) (en := fun x => [.int x]) (gg := fun x => .bl (decide ((0 : Int) ≤ x) && decide (x ≤ (2 ^ n : Nat) - 1))) (w_over (w_var rfl) o_overL) (by simp) ?_ (fun _ _ => rfl) cv_bl) o_all
    intro x _ s
    exact w_call (w_cons (w_var rfl) (w_cons ev_ci (w_cons (w_bin (w_var rfl) ev_ci rfl) w_nil))) c_is_integer
  · generalize 2 ^ n = q at *
    simp only [List.map_cons, List.map_nil, List.all_cons, List.all_nil, id, Bool.and_eq_true, decide_eq_true_eq, Bool.and_true]
    omega
  · refine w_b1 (w_lc (l := [(a, b)]) (en := fun p => [.int p.1, .int p.2]) (gg := fun p => .bl (decide (p.1 < p.2))) (w_zip (w_var rfl) (w_sl (w_var rfl) (w_os ev_ci) w_on rfl) rfl) (by simp) ?_ (fun _ _ => rfl) cv_bl) o_all
    intro x _ s
    exact w_cmp (w_var rfl) (w_var rfl) rfl
  · simp; omega
/-! waves -/
theorem c_from_wave_bad0 (hv : isTy st v .tuple = some false) (h_is_integer : T .is_integer = some D.is_integer := by first | assumption | rfl) (h_spread : T .spread = some D.spread := by first | assumption | rfl) (h_from_wave : T .from_wave = some D.from_wave := by first | assumption | rfl) : callN T (k + 6) .from_wave [v] st = .exc 1 st := by
  refine call_exc (d := D.from_wave) (st1 := st) h_from_wave rfl (q_ifT (st1 := st) (R1 := .exc 1 st) ?_ q_raise rfl) (by simp)
  exact (tt_or (tt_not ⟨w_isi (w_var rfl) hv⟩)).h
theorem c_from_wave_bad1 (hv : ¬ SizeOk vs.length) (h_is_integer : T .is_integer = some D.is_integer := by first | assumption | rfl) (h_spread : T .spread = some D.spread := by first | assumption | rfl) (h_from_wave : T .from_wave = some D.from_wave := by first | assumption | rfl) : callN T (k + 6) .from_wave [.tup vs] st = .exc 1 st := by
  refine call_exc (d := D.from_wave) (st1 := st) h_from_wave rfl (q_ifT (st1 := st) (R1 := .exc 1 st) ?_ q_raise rfl) (by simp)
  have hn := size_notin vs.length
  have e : decide (vs.length = 2 ∨ vs.length = 4 ∨ vs.length = 8 ∨ vs.length = 16) = false := by
    rw [decide_eq_false_iff_not]; exact hv
  rw [e] at hn
  exact (tt_or2 (tf_not ⟨w_isi (w_var rfl) rfl⟩) ⟨w_cmp (w_b1 (w_var rfl) (r := .int (vs.length : Nat)) rfl) ev_sizes hn⟩).h
theorem wave_size (hv : SizeOk vs.length) {C : Orc} : TF C (.or (.not (.isi (.var 0) .tuple)) (.cmp .notin (.b1 .len (.var 0)) .sizes)) [some (.tup vs), none, none] st := by
  have hn := size_notin vs.length
  have e : decide (vs.length = 2 ∨ vs.length = 4 ∨ vs.length = 8 ∨ vs.length = 16) = true := by
    rw [decide_eq_true_iff]; exact hv
  rw [e] at hn
  exact tf_or (tf_not ⟨w_isi (w_var rfl) rfl⟩) ⟨w_cmp (w_b1 (w_var rfl) (r := .int (vs.length : Nat)) rfl) ev_sizes hn⟩
theorem wave_ints (hl : SizeOk vs.length) (hv : vs.all plainV = true) (h_is_integer : T .is_integer = some D.is_integer := by first | assumption | rfl) (h_spread : T .spread = some D.spread := by first | assumption | rfl) (h_from_wave : T .from_wave = some D.from_wave := by first | assumption | rfl) : ev (callN T (k + 5)) (.b1 .all (.lc (.call .is_integer (.cons (.var 2) (.cons (.bin .sub (.ci 0) (.b1 .len (.var 0))) (.cons (.b1 .len (.var 0)) .nil)))) [2] (.over (.var 0)) .none)) [some (.tup vs), none, none] st = .ok (.bl (vs.all (isIntV (0 - (vs.length : Nat)) (vs.length : Nat)))) st := by
  have e : vs.all (isIntV (0 - (vs.length : Nat)) (vs.length : Nat)) = (vs.map (isIntV (0 - (vs.length : Nat)) (vs.length : Nat))).all id := by rw [List.all_map]; rfl
  have hn := size_le hl
  rw [e]
  refine w_b1 (w_lc (l := vs) (en := fun x => [x]) (gg := fun v => .bl (isIntV (0 - (vs.length : Nat)) (vs.length : Nat) v)) (w_over (w_var rfl) rfl) (by omega) ?_ (fun _ _ => rfl) cv_bl) o_all
  intro a ha s
  have := List.all_eq_true.mp hv a ha
  exact w_call (w_cons (w_var rfl) (w_cons (w_bin ev_ci (w_b1 (w_var rfl) rfl) rfl) (w_cons (w_b1 (w_var rfl) rfl) w_nil))) (c_is_integerV this)
theorem c_from_wave_bad2 (hl : SizeOk vs.length) (hv : vs.all plainV = true) (hb : vs.all (isIntV (0 - (vs.length : Nat)) (vs.length : Nat)) = false) (h_is_integer : T .is_integer = some D.is_integer := by first | assumption | rfl) (h_spread : T .spread = some D.spread := by first | assumption | rfl) (h_from_wave : T .from_wave = some D.from_wave := by first | assumption | rfl) : callN T (k + 6) .from_wave [.tup vs] st = .exc 1 st := by
  have h1 := wave_ints (T := T) (k := k) (st := st) hl hv
  rw [hb] at h1
  exact call_exc (d := D.from_wave) (st1 := st) h_from_wave rfl (q_skip (wave_size hl) (q_ifT (st1 := st) (R1 := .exc 1 st) (tt_not ⟨h1⟩).h q_raise rfl)) (by simp)
/-- the signs that a tuple would have -/
def signsL (ys : List Int) : List Int := spreadL (lg ys.length) ys
theorem signs_len {ys : List Int} (h : SizeOk ys.length) : (signsL ys).length = ys.length := by
  obtain ⟨p1, p2⟩ := lg_pow h
  rw [signsL, spreadL_len _ _ p1, ← p1]
def fineB (ys : List Int) : Bool := ((signsL ys).map fun s => [(ys.length : Int), 0 - (ys.length : Int)].any (· == s)).all id
theorem wave_fine {ys : List Int} (h : SizeOk ys.length) {C : Orc} : ev C (.b1 .all (.lc (.cmp .isin (.var 2) (.tup (.cons (.b1 .len (.var 0)) (.cons (.bin .sub (.ci 0) (.b1 .len (.var 0))) .nil)))) [2] (.over (.var 1)) .none)) [some (.tup (iv ys)), some (.lst (iv (signsL ys))), none] st = .ok (.bl (fineB ys)) st := by
  have hl := signs_len h
  have hn := size_le h
  refine w_b1 (w_lc (l := signsL ys) (en := fun x => [.int x]) (gg := fun s => .bl ([(ys.length : Int), 0 - (ys.length : Int)].any (· == s))) (w_over (w_var rfl) o_overL) (by omega) ?_ (fun _ _ => rfl) cv_bl) o_all
  intro a ha s
  exact w_cmp (w_var rfl) (w_tup (w_cons (w_b1 (w_var rfl) o_lenT) (w_cons (w_bin ev_ci (w_b1 (w_var rfl) o_lenT) rfl) w_nil)) rfl cv_t2) o_inT
theorem c_from_wave_bad3 {ys : List Int} (h : SizeOk ys.length) (hb : fineB ys = false) (h_is_integer : T .is_integer = some D.is_integer := by first | assumption | rfl) (h_spread : T .spread = some D.spread := by first | assumption | rfl) (h_from_wave : T .from_wave = some D.from_wave := by first | assumption | rfl) : callN T (k + 6) .from_wave [.tup (iv ys)] st = .exc 1 st := by
  have hl : SizeOk (iv ys).length := by simpa using h
  cases hi : (iv ys).all (isIntV (0 - ((iv ys).length : Nat)) ((iv ys).length : Nat)) with
  | false => exact c_from_wave_bad2 hl (plain_iv ys) hi
  | true =>
    have h1 := wave_ints (T := T) (k := k) (st := st) hl (plain_iv ys)
    rw [hi] at h1
    have h2 := wave_fine (st := st) (C := callN T (k + 5)) h
    rw [hb] at h2
    obtain ⟨p1, p2⟩ := lg_pow h
    have h3 := c_spread (T := T) (k := k) (st := st) (n := lg ys.length) p1 p2
    exact call_exc (d := D.from_wave) (st1 := st) h_from_wave rfl (q_skip (wave_size hl) (q_skip (tf_not ⟨h1⟩) (q_set (v := .lst (iv (signsL ys))) (st1 := st) (w_call (w_cons (w_b1 (w_var rfl) rfl) w_nil) h3) (q_ifT (st1 := st) (R1 := .exc 1 st) (tt_not ⟨h2⟩).h q_raise rfl)))) (by simp)
def posL (ys : List Int) : List Int := ys.map fun s => if s > 0 then 0 else 1
theorem c_from_wave {ys : List Int} (h : SizeOk ys.length) (hi : (iv ys).all (isIntV (0 - ((iv ys).length : Nat)) ((iv ys).length : Nat)) = true) (hb : fineB ys = true) (h_is_integer : T .is_integer = some D.is_integer := by first | assumption | rfl) (h_spread : T .spread = some D.spread := by first | assumption | rfl) (h_from_wave : T .from_wave = some D.from_wave := by first | assumption | rfl) : callN T (k + 6) .from_wave [.tup (iv ys)] st = .ok (.tup (iv (posL (signsL ys)))) st := by
  have hl : SizeOk (iv ys).length := by simpa using h
  have h1 := wave_ints (T := T) (k := k) (st := st) hl (plain_iv ys)
  rw [hi] at h1
  have h2 := wave_fine (st := st) (C := callN T (k + 5)) h
  rw [hb] at h2
  obtain ⟨p1, p2⟩ := lg_pow h
  have h3 := c_spread (T := T) (k := k) (st := st) (n := lg ys.length) p1 p2
  have hsl := signs_len h
  have hn := size_le h
  refine call_ret (d := D.from_wave) h_from_wave rfl rfl (q_skip (wave_size hl) (q_skip (tf_not ⟨h1⟩) (q_set (v := .lst (iv (signsL ys))) (st1 := st) (w_call (w_cons (w_b1 (w_var rfl) rfl) w_nil) h3) (q_skip (tf_not ⟨h2⟩) (q_ret ?_)))))
  refine w_b1 (x := .lst (iv (posL (signsL ys)))) (st1 := st) ?_ rfl
  unfold posL
  refine w_lc (l := signsL ys) (en := fun x => [.int x]) (gg := fun s => .int (if s > 0 then 0 else 1)) (w_over (w_var rfl) o_overL) (by omega) ?_ (fun _ _ => rfl) cv_int
  intro a ha s
  refine w_ife (t := decide (0 < a)) (w_cmp (w_var rfl) ev_ci rfl) (fun _ => ev_ci) (fun _ => ev_ci) ?_
  by_cases h : 0 < a <;> simp [h]
end
end Sw
end

section
/-! SwF: texts. -/
namespace Sw
open PySem (Str)
def sL (l : List Nat) : Str := ⟨l.toArray⟩
section
variable {a b l : List Nat} {xs : List Int} {v : Val} {st : Store} {C : Orc} {T : Fn → Option FDef} {k : Nat}
theorem sL_cps : (sL l).cps.toList = l := by simp [sL]
theorem sL_len : (sL l).length = l.length := by simp [sL, Str.length]
theorem sL_app : sL a ++ sL b = sL (a ++ b) := by
  show Str.append (sL a) (sL b) = _
  simp [Str.append, sL]
theorem s_e : ("" : Str) = sL [] := by decide +kernel
theorem s_0 : ("0" : Str) = sL [48] := by decide +kernel
theorem s_sp : (" " : Str) = sL [32] := by decide +kernel
theorem s_nl : ("\n" : Str) = sL [10] := by decide +kernel
theorem s_2 : ("2" : Str) = sL [50] := by decide +kernel
theorem s_x : ("x" : Str) = sL [120] := by decide +kernel
theorem s_000 : ("000" : Str) = sL [48, 48, 48] := by decide +kernel
theorem s_01 : ("01" : Str) = sL [48, 49] := by decide +kernel
theorem fin_str {s : Str} : fin false st.length (.str s) st = .ok (.str s) st := by simp [fin]
def valsL (l : List Nat) : List Int := l.map fun c : Nat => (c : Int) - 48
theorem vals_len : (valsL l).length = l.length := by simp [valsL]
def digs (xs : List Int) : List Nat := xs.map fun x => if x = 0 then 48 else 49
theorem digs_len : (digs xs).length = xs.length := by simp [digs]
theorem vstr_bit {x : Int} (h : x = 0 ∨ x = 1) : vstr x = sL [if x = 0 then 48 else 49] := by rcases h with rfl | rfl <;> decide +kernel
theorem strs_map : ∀ xs : List Int, strsOf (xs.map fun x => .str (vstr x)) = some (xs.map vstr)
  | [] => rfl
  | x :: xs => by simp only [List.map_cons, strsOf, strs_map xs, Option.map_some]
theorem o_join (h : ∀ x ∈ xs, x = 0 ∨ x = 1) (hl : xs.length ≤ 64) : opM .join (.str "") (.lst (xs.map fun x => .str (vstr x))) = some (.str (sL (digs xs))) := by
  have h0 : ("" : Str).length = 0 := by rw [s_e, sL_len]; rfl
  have h1 : ((xs.map vstr).length ≤ 64 && (xs.map vstr).all fun z => decide (z.length ≤ 64)) = true := by
    simp only [List.length_map, Bool.and_eq_true, decide_eq_true_eq, List.all_eq_true]
    refine ⟨hl, fun z hz => ?_⟩
    obtain ⟨x, hx, rfl⟩ := List.mem_map.mp hz
    rw [vstr_bit (h x hx), sL_len]
    simp
  simp only [opM, h0, if_true, strs_map, Option.bind_some, h1]
  have : (xs.map vstr).flatMap (fun z => z.cps.toList) = digs xs := by
    clear h1 hl
    induction xs with
    | nil => rfl
    | cons x xs ih =>
      rw [List.map_cons, List.flatMap_cons, ih (fun y hy => h y (by simp [hy])), vstr_bit (h x (by simp)), sL_cps]
      rfl
  rw [this]
  rfl
theorem o_str {x : Int} (h : x = 0 ∨ x = 1) : op1 .str (.int x) = some (.str (vstr x)) := by rcases h with rfl | rfl <;> rfl
theorem ev_text {ρ : Env} {e : Ex} {i : Nat} {ρl : Int → Env} (h : ∀ x ∈ xs, x = 0 ∨ x = 1) (hl : xs.length ≤ 64) (he : ev C e ρ st = .ok (.tup (iv xs)) st) (hρ : ∀ x, setAll (wipeAll ρ [i]) [i] [.int x] = ρl x) (hi : ∀ x, (ρl x)[i]? = some (some (.int x))) : ev C (.m1 .join (.cs "") (.lc (.b1 .str (.var i)) [i] (.over e) .none)) ρ st = .ok (.str (sL (digs xs))) st := by
  refine w_m1 ev_cs rfl (x_lc (l := xs) (gg := fun x => .str (vstr x)) (w_over he o_overT) (by omega) hρ ?_ (fun _ _ => rfl) rfl) (o_join h hl)
  intro x hx s
  exact w_b1 (w_var (hi x)) (o_str (h x hx))
theorem c_text_of (h : IsF xs) (h_text_of : T .text_of = some D.text_of := by first | assumption | rfl) : callN T (k + 1) .text_of [.tup (iv xs)] st = .ok (.str (sL (digs xs))) st := by
  have := size_le h.1
  exact call_ret (d := D.text_of) h_text_of rfl rfl (q_ret (ev_text h.2 (by omega) (w_var rfl) (fun _ => rfl) (fun _ => rfl))) fin_str
theorem c_format (h : IsF xs) (h_text_of : T .text_of = some D.text_of := by first | assumption | rfl) (h_format_function : T .format_function = some D.format_function := by first | assumption | rfl) (h_is_integer : T .is_integer = some D.is_integer := by first | assumption | rfl) (h_is_function : T .is_function = some D.is_function := by first | assumption | rfl) (h_check_function : T .check_function = some D.check_function := by first | assumption | rfl) : callN T (k + 4) .format_function [.tup (iv xs)] st = .ok (.str (sL (digs xs))) st :=
  call_ret (d := D.format_function) h_format_function rfl rfl (q_expr (v := .non) (st1 := st) (w_call (w_cons (w_var rfl) w_nil) (c_check h)) (q_ret (w_call (w_cons (w_var rfl) w_nil) (c_text_of h)))) fin_str
/-! reading -/
def bin01 (l : List Nat) : Bool := l.all fun c => decide (c ∈ [48, 49])
theorem over_str : overV st (.str (sL l)) = some (l.map (fun c => [.str (sL [c])]), none) := by
  simp only [overV, signs, sL_cps, List.map_map]
  rfl
theorem parse_all (hl : l.length ≤ 1000) {w : Option Val} : ev C (.b1 .all (.lc (.cmp .isin (.var 2) (.cs "01")) [2] (.over (.var 0)) .none)) [some (.str (sL l)), w, none] st = .ok (.bl (bin01 l)) st := by
  have e : bin01 l = (l.map fun c => decide (c ∈ [48, 49])).all id := by rw [bin01, List.all_map]; rfl
  rw [e]
  refine w_b1 (w_lc (l := l) (en := fun c => [.str (sL [c])]) (gg := fun c => .bl (decide (c ∈ [48, 49]))) (w_over (w_var rfl) over_str) hl ?_ (fun _ _ => rfl) cv_bl) o_all
  intro c _ s
  rw [s_01]
  refine w_cmp (w_var rfl) ev_cs ?_
  show isIn (.str (sL [c])) (.str (sL [48, 49])) = _
  simp only [isIn, sL_cps]
theorem c_parse_bad0 (hv : isTy st v .str = some false) (h_parse_function : T .parse_function = some D.parse_function := by first | assumption | rfl) (h_is_integer : T .is_integer = some D.is_integer := by first | assumption | rfl) (h_is_function : T .is_function = some D.is_function := by first | assumption | rfl) : callN T (k + 3) .parse_function [v] st = .exc 8 st := by
  refine call_exc (d := D.parse_function) (st1 := st) h_parse_function rfl (q_ifT (st1 := st) (R1 := .exc 8 st) ?_ q_raise rfl) (by simp)
  exact (tt_or (tt_not ⟨w_isi (w_var rfl) hv⟩)).h
theorem c_parse_bad1 (hl : l.length ≤ 1000) (hb : bin01 l = false) (h_parse_function : T .parse_function = some D.parse_function := by first | assumption | rfl) (h_is_integer : T .is_integer = some D.is_integer := by first | assumption | rfl) (h_is_function : T .is_function = some D.is_function := by first | assumption | rfl) : callN T (k + 3) .parse_function [.str (sL l)] st = .exc 8 st := by
  have h := parse_all (C := callN T (k + 2)) (st := st) (w := none) hl
  rw [hb] at h
  exact call_exc (d := D.parse_function) (st1 := st) h_parse_function rfl (q_ifT (st1 := st) (R1 := .exc 8 st) (tt_or2 (tf_not ⟨w_isi (w_var rfl) rfl⟩) (tt_not ⟨h⟩)).h q_raise rfl) (by simp)
theorem parse_ints (hl : l.length ≤ 1000) (hb : bin01 l = true) {w : Option Val} : ev C (.b1 .tuple (.lc (.b1 .int (.var 2)) [2] (.over (.var 0)) .none)) [some (.str (sL l)), w, none] st = .ok (.tup (iv (valsL l))) st := by
  refine w_b1 (w_lc (l := l) (en := fun c => [.str (sL [c])]) (gg := fun c => .int ((c : Int) - 48)) (w_over (w_var rfl) over_str) hl ?_ (fun _ _ => rfl) cv_int) rfl
  intro c hc s
  have := List.all_eq_true.mp hb c hc
  have hc : c = 48 ∨ c = 49 := by simpa using this
  refine w_b1 (w_var rfl) ?_
  rcases hc with rfl | rfl <;> rfl
theorem isFV_ints (hb : bin01 l = true) : isFV (.tup (iv (valsL l))) = decide (SizeOk l.length) := by
  have : (iv (valsL l)).all (isIntV 0 1) = true := by
    rw [List.all_eq_true]
    intro v hv
    obtain ⟨y, hy, rfl⟩ := List.mem_map.mp hv
    obtain ⟨c, hc, rfl⟩ := List.mem_map.mp hy
    have := List.all_eq_true.mp hb c hc
    have hc : c = 48 ∨ c = 49 := by simpa using this
    rcases hc with rfl | rfl <;> rfl
  simp only [isFV, this, Bool.and_true, iv_len, vals_len]
  rfl
theorem c_parse_bad2 (hl : l.length ≤ 1000) (hb : bin01 l = true) (hs : ¬ SizeOk l.length) (h_parse_function : T .parse_function = some D.parse_function := by first | assumption | rfl) (h_is_integer : T .is_integer = some D.is_integer := by first | assumption | rfl) (h_is_function : T .is_function = some D.is_function := by first | assumption | rfl) : callN T (k + 3) .parse_function [.str (sL l)] st = .exc 8 st := by
  have h := parse_all (C := callN T (k + 2)) (st := st) (w := none) hl
  rw [hb] at h
  have h2 := c_is_functionV (T := T) (k := k) (st := st) (v := .tup (iv (valsL l))) plainF_iv (fun _ e => by cases e; rw [iv_len, vals_len]; exact hl)
  rw [isFV_ints hb, decide_eq_false hs] at h2
  exact call_exc (d := D.parse_function) (st1 := st) h_parse_function rfl (q_skip (tf_or (tf_not ⟨w_isi (w_var rfl) rfl⟩) (tf_not ⟨h⟩)) (q_set (v := .tup (iv (valsL l))) (st1 := st) (parse_ints hl hb) (q_ifT (st1 := st) (R1 := .exc 8 st) (tt_not ⟨w_call (w_cons (w_var rfl) w_nil) h2⟩).h q_raise rfl))) (by simp)
theorem c_parse (hl : l.length ≤ 1000) (hb : bin01 l = true) (hs : SizeOk l.length) (h_parse_function : T .parse_function = some D.parse_function := by first | assumption | rfl) (h_is_integer : T .is_integer = some D.is_integer := by first | assumption | rfl) (h_is_function : T .is_function = some D.is_function := by first | assumption | rfl) : callN T (k + 3) .parse_function [.str (sL l)] st = .ok (.tup (iv (valsL l))) st := by
  have h := parse_all (C := callN T (k + 2)) (st := st) (w := none) hl
  rw [hb] at h
  have h2 := c_is_functionV (T := T) (k := k) (st := st) (v := .tup (iv (valsL l))) plainF_iv (fun _ e => by cases e; rw [iv_len, vals_len]; exact hl)
  rw [isFV_ints hb, decide_eq_true hs] at h2
  exact call_ret (d := D.parse_function) h_parse_function rfl rfl (q_skip (tf_or (tf_not ⟨w_isi (w_var rfl) rfl⟩) (tf_not ⟨h⟩)) (q_set (v := .tup (iv (valsL l))) (st1 := st) (parse_ints hl hb) (q_skip (tf_not ⟨w_call (w_cons (w_var rfl) w_nil) h2⟩) (q_ret (w_var rfl)))))
theorem bin_digs : bin01 (digs xs) = true := by
  rw [bin01, List.all_eq_true]
  intro c hc
  obtain ⟨x, _, rfl⟩ := List.mem_map.mp hc
  split <;> decide
theorem digs_back (h : ∀ x ∈ xs, x = 0 ∨ x = 1) : valsL (digs xs) = xs := by
  rw [valsL, digs, List.map_map]
  conv => rhs; rw [← List.map_id xs]
  refine List.map_congr_left fun x hx => ?_
  rcases h x hx with rfl | rfl <;> rfl
theorem bin_app : bin01 (a ++ b) = (bin01 a && bin01 b) := by simp only [bin01, List.all_append]
theorem o_addS (h : a.length + b.length ≤ 1000) : binop .add (.str (sL a)) (.str (sL b)) = some (.str (sL (a ++ b))) := by
  simp only [binop, sL_len, lim_big h, if_true, sL_app]
theorem o_tailS (h : l.length ≤ 1000) (h1 : 1 ≤ l.length) : opSl (some 1) none (.str (sL l)) = some (.str (sL (l.drop 1))) := by
  have h2 : (sL l).length ≤ lim := by rw [sL_len]; exact lim_big h
  have e : sIx l.length 0 (some 1) = 1 := sIx_nat (h := 1) h1
  simp only [opSl, h2, if_true, sL_cps, cut, e]
  simp only [sIx]
  rw [List.take_of_length_le (by simp)]
  rfl
theorem o_initS (h : l.length ≤ 1000) (h1 : 1 ≤ l.length) : opSl none (some (-1)) (.str (sL l)) = some (.str (sL (l.take (l.length - 1)))) := by
  have h2 : (sL l).length ≤ lim := by rw [sL_len]; exact lim_big h
  have e : sIx l.length l.length (some (-1)) = l.length - 1 := by
    simp only [sIx]
    rw [if_pos (by omega)]
    omega
  simp only [opSl, h2, if_true, sL_cps, cut, e]
  simp only [sIx, Nat.sub_zero, List.drop_zero]
  rfl
theorem k_txt : okEq (.str (sL (digs xs))) = true := by
  refine k_dat ?_
  show (sL (digs xs)).cps.toList.all (· < 128) = true
  rw [sL_cps, List.all_eq_true]
  intro c hc
  obtain ⟨x, _, rfl⟩ := List.mem_map.mp hc
  split <;> decide
end
end Sw
end

section
/-! SwJ: joins. -/
namespace Sw
theorem S_prod (a b : Nat) (f : Nat → Int) : S (a * b) f = S b fun j => S a fun i => f (i + a * j) := by
  induction b with
  | zero => rfl
  | succ b ih => rw [Nat.mul_succ, S_split, ih, S_succ]
theorem oddj_tab : ∀ a ∈ [2, 4, 8], ∀ u < 16, ∀ p < 16, oddN u p = (oddN (u % a) (p % a) + oddN (u / a) (p / a)) % 2 := by decide +kernel
theorem xorj_tab : ∀ a ∈ [2, 4, 8], ∀ u < 16, ∀ p < 16, (u ^^^ p) % a = (u % a) ^^^ (p % a) ∧ (u ^^^ p) / a = (u / a) ^^^ (p / a) := by decide +kernel
theorem bitj_tab' : ∀ a ∈ [2, 4, 8], ∀ u < 16, bitN u = bitN (u % a) + bitN (u / a) := by decide +kernel
theorem bit_zero : ∀ u < 16, bitN u = 0 → u = 0 := by decide +kernel
section
variable {xs ys : List Int} {u s p k : Nat}
theorem join_len : (joinL xs ys).length = xs.length * ys.length := by simp [joinL]
theorem isF_join (hs : SizeOk (xs.length * ys.length)) : IsF (joinL xs ys) := by
  refine ⟨by rw [join_len]; exact hs, fun x hx => ?_⟩
  obtain ⟨p, _, rfl⟩ := List.mem_map.mp hx
  omega
/-- the sizes of a join that isn't too large -/
theorem join_sizes (hx : SizeOk xs.length) (hy : SizeOk ys.length) (hs : SizeOk (xs.length * ys.length)) : xs.length ∈ [2, 4, 8] ∧ ys.length ∈ [2, 4, 8] := by
  rcases hx with a | a | a | a <;> rcases hy with b | b | b | b <;> rw [a, b] at hs <;> rw [a, b] <;> first | exact ⟨by decide, by decide⟩ | (exfalso; revert hs; decide)
theorem ep_join (hx : IsF xs) (hy : IsF ys) (hp : p < xs.length * ys.length) : ep (joinL xs ys) p = ep xs (p % xs.length) * ep ys (p / xs.length) := by
  have h0 := size_pos hx.1
  have h1 : p % xs.length < xs.length := Nat.mod_lt _ (by omega)
  have h2 : p / xs.length < ys.length := Nat.div_lt_of_lt_mul hp
  unfold ep joinL
  rw [ge_range hp]
  rcases get_bit hx h1 with e | e <;> rcases get_bit hy h2 with f | f <;> rw [e, f] <;> rfl
theorem sg_join {a : Nat} (ha : a ∈ [2, 4, 8]) (hu : u < 16) (hp : p < 16) : sg u p = sg (u % a) (p % a) * sg (u / a) (p / a) := by
  have h1 : ∀ z : Nat, z < 16 → z % a < 16 ∧ z / a < 16 := fun z hz => ⟨Nat.lt_of_le_of_lt (Nat.mod_le _ _) hz, Nat.lt_of_le_of_lt (Nat.div_le_self _ _) hz⟩
  rw [sg_odd hu hp, sg_odd (h1 u hu).1 (h1 p hp).1, sg_odd (h1 u hu).2 (h1 p hp).2, oddj_tab a ha u hu p hp]
  rcases odd_01 (u % a) (p % a) with e | e <;> rcases odd_01 (u / a) (p / a) with f | f <;> rw [e, f] <;> rfl
theorem mod_at {a i j : Nat} (hi : i < a) : (i + a * j) % a = i ∧ (i + a * j) / a = j := by
  constructor
  · rw [Nat.add_mul_mod_self_left, Nat.mod_eq_of_lt hi]
  · rw [Nat.add_mul_div_left _ _ (by omega), Nat.div_eq_of_lt hi, Nat.zero_add]
theorem at_lt {a b i j : Nat} (hi : i < a) (hj : j < b) : i + a * j < a * b := by
  have : a * (j + 1) ≤ a * b := Nat.mul_le_mul_left a hj
  rw [Nat.mul_succ] at this
  omega
theorem W_join (hx : IsF xs) (hy : IsF ys) (hs : SizeOk (xs.length * ys.length)) (hu : u < xs.length * ys.length) : W (joinL xs ys) u = W xs (u % xs.length) * W ys (u / xs.length) := by
  obtain ⟨s1, s2⟩ := join_sizes hx.1 hy.1 hs
  have h0 := size_pos hx.1
  have hl := size_le hs
  have h1 : u % xs.length < xs.length := Nat.mod_lt _ (by omega)
  have h2 : u / xs.length < ys.length := Nat.div_lt_of_lt_mul hu
  rw [W_S (by rw [join_len]; exact hs) (by rw [join_len]; exact hu), join_len, S_prod, W_S hx.1 h1, W_S hy.1 h2, Int.mul_comm, S_mul]
  refine S_congr fun j hj => S_congr fun i hi => ?_
  have hp := at_lt hi hj
  obtain ⟨m1, m2⟩ := mod_at (j := j) hi
  rw [ep_join hx hy hp, sg_join s1 (by omega) (by omega), m1, m2]
  grind
theorem echo_join (hx : IsF xs) (hy : IsF ys) (hs : SizeOk (xs.length * ys.length)) (hu : u < xs.length * ys.length) : (echoL (joinL xs ys)).getD u 0 = (echoL xs).getD (u % xs.length) 0 * (echoL ys).getD (u / xs.length) 0 := by
  obtain ⟨s1, s2⟩ := join_sizes hx.1 hy.1 hs
  have h0 := size_pos hx.1
  have hl := size_le hs
  have h1 : u % xs.length < xs.length := Nat.mod_lt _ (by omega)
  have h2 : u / xs.length < ys.length := Nat.div_lt_of_lt_mul hu
  rw [echo_S (isF_join hs) (by rw [join_len]; exact hu), join_len, S_prod, echo_S hx h1, echo_S hy h2, Int.mul_comm, S_mul]
  refine S_congr fun j hj => S_congr fun i hi => ?_
  have hp := at_lt hi hj
  obtain ⟨m1, m2⟩ := mod_at (j := j) hi
  obtain ⟨x1, x2⟩ := xorj_tab _ s1 (i + xs.length * j) (by omega) u (by omega)
  have hq : (i + xs.length * j) ^^^ u < xs.length * ys.length := xor_lt hs hp hu
  rw [ep_join hx hy hp, ep_join hx hy hq, x1, x2, m1, m2]
  grind
/-! even-waved -/
theorem even_iff (h : SizeOk xs.length) : evenB xs = true ↔ ∀ u < xs.length, W xs u * W xs u = W xs 0 * W xs 0 := by
  have hw := wave_range h
  have h0 := size_pos h
  simp only [evenB, List.all_map, List.all_eq_true, Function.comp, id]
  constructor
  · intro e u hu
    have := e _ (wave_get h hu)
    simp only [List.any_cons, List.any_nil, Bool.or_false, Bool.or_eq_true, beq_iff_eq] at this
    rcases this with e | e
    · rw [← e]; rfl
    · rw [← e]
      show (0 - W xs 0) * (0 - W xs 0) = _
      grind
  · intro e w hw2
    rw [hw] at hw2
    obtain ⟨u, hu, rfl⟩ := List.mem_map.mp hw2
    have := e u (List.mem_range.mp hu)
    have hf : (W xs u - W xs 0) * (W xs u + W xs 0) = 0 := by grind
    simp only [List.any_cons, List.any_nil, Bool.or_false, Bool.or_eq_true, beq_iff_eq]
    rcases Int.mul_eq_zero.mp hf with g | g
    · left
      show W xs 0 = W xs u
      omega
    · right
      show 0 - W xs 0 = W xs u
      omega
/-- the square of an even wave -/
theorem even_sq (h : IsF xs) (he : evenB xs = true) : ∀ u < xs.length, W xs u * W xs u = xs.length := by
  have h1 := (even_iff h.1).mp he
  have hp := parseval h
  have h0 := size_pos h.1
  have e2 : (xs.length : Int) * (W xs 0 * W xs 0) = xs.length * xs.length := by
    rw [← hp, ← S_const]
    exact (S_congr fun u hu => h1 u hu).symm
  intro u hu
  rw [h1 u hu]
  have hz : (xs.length : Int) * (W xs 0 * W xs 0 - xs.length) = 0 := by grind
  rcases Int.mul_eq_zero.mp hz with g | g
  · omega
  · omega
theorem even_of {c : Int} (h : SizeOk xs.length) (hc : ∀ u < xs.length, W xs u * W xs u = c) : evenB xs = true := (even_iff h).mpr fun u hu => by
  rw [hc u hu, hc 0 (by have := size_pos h; omega)]
theorem even_join (hx : IsF xs) (hy : IsF ys) (hs : SizeOk (xs.length * ys.length)) : evenB (joinL xs ys) = (evenB xs && evenB ys) := by
  have h0 := size_pos hx.1
  have h0' := size_pos hy.1
  have hJ := isF_join hs
  rw [Bool.eq_iff_iff, Bool.and_eq_true]
  constructor
  · intro e
    have h1 := even_sq hJ e
    rw [join_len] at h1
    have h2 : ∀ i < xs.length, ∀ j < ys.length, W xs i * W xs i * (W ys j * W ys j) = ((xs.length * ys.length : Nat) : Int) := fun i hi j hj => by
      have hp := at_lt hi hj
      obtain ⟨m1, m2⟩ := mod_at (j := j) hi
      have := h1 _ hp
      rw [W_join hx hy hs hp, m1, m2] at this
      grind
    have hN : ((xs.length * ys.length : Nat) : Int) ≠ 0 := by
      have := Nat.mul_pos (show 0 < xs.length by omega) (show 0 < ys.length by omega)
      omega
    constructor
    · refine (even_iff hx.1).mpr fun u hu => ?_
      have a1 := h2 u hu 0 (by omega)
      have a2 := h2 0 (by omega) 0 (by omega)
      have hz : (W xs u * W xs u - W xs 0 * W xs 0) * (W ys 0 * W ys 0) = 0 := by grind
      rcases Int.mul_eq_zero.mp hz with g | g
      · omega
      · rw [g, Int.mul_zero] at a2; exact absurd a2.symm hN
    · refine (even_iff hy.1).mpr fun u hu => ?_
      have a1 := h2 0 (by omega) u hu
      have a2 := h2 0 (by omega) 0 (by omega)
      have hz : (W xs 0 * W xs 0) * (W ys u * W ys u - W ys 0 * W ys 0) = 0 := by grind
      rcases Int.mul_eq_zero.mp hz with g | g
      · rw [g, Int.zero_mul] at a2; exact absurd a2.symm hN
      · omega
  · rintro ⟨e1, e2⟩
    have h1 := even_sq hx e1
    have h2 := even_sq hy e2
    refine even_of (c := (xs.length : Int) * ys.length) hJ.1 fun u hu => ?_
    rw [join_len] at hu
    rw [W_join hx hy hs hu]
    have g1 := h1 (u % xs.length) (Nat.mod_lt _ (by omega))
    have g2 := h2 (u / xs.length) (Nat.div_lt_of_lt_mul hu)
    rw [← g1, ← g2]
    grind
/-! quiet -/
theorem quiet_iff : quietB xs k = true ↔ ∀ m < xs.length, 1 ≤ bitN m → bitN m ≤ k → W xs m = 0 := by
  simp only [quietB, List.all_map, List.all_eq_true, List.mem_filter, List.mem_range, Function.comp, id, Bool.and_eq_true, decide_eq_true_eq, beq_iff_eq]
  exact ⟨fun h m hm h1 h2 => h m ⟨hm, h1, h2⟩, fun h m ⟨hm, h1, h2⟩ => h m hm h1 h2⟩
theorem quiet_ge (hk : k ≤ lg xs.length) (h : quietB xs k = true) : (k : Int) ≤ quietN xs := maxL_ge (List.mem_map.mpr ⟨k, List.mem_filter.mpr ⟨List.mem_range.mpr (by omega), h⟩, rfl⟩)
theorem quiet_att : ∃ k, k ≤ lg xs.length ∧ quietB xs k = true ∧ quietN xs = (k : Nat) := by
  have h0 : 0 ∈ (List.range (lg xs.length + 1)).filter (quietB xs) := List.mem_filter.mpr ⟨List.mem_range.mpr (by omega), quiet_zero⟩
  have hne : ni ((List.range (lg xs.length + 1)).filter (quietB xs)) ≠ [] := by
    intro e
    rw [ni, List.map_eq_nil_iff] at e
    rw [e] at h0
    cases h0
  obtain ⟨k, hk, e⟩ := List.mem_map.mp (maxL_mem hne)
  obtain ⟨h1, h2⟩ := List.mem_filter.mp hk
  have := List.mem_range.mp h1
  exact ⟨k, by omega, h2, e.symm⟩
theorem quiet_mono {j : Nat} (hj : j ≤ k) (h : quietB xs k = true) : quietB xs j = true := quiet_iff.mpr fun m hm h1 h2 => quiet_iff.mp h m hm h1 (by omega)
theorem lg_join (hx : SizeOk xs.length) (hy : SizeOk ys.length) (hs : SizeOk (xs.length * ys.length)) : lg xs.length ≤ lg (xs.length * ys.length) := by
  rcases hx with a | a | a | a <;> rcases hy with b | b | b | b <;> rw [a, b] at hs <;> rw [a, b] <;> first | decide | (exfalso; revert hs; decide)
theorem quiet_join (hx : IsF xs) (hy : IsF ys) (hs : SizeOk (xs.length * ys.length)) : (if quietN ys < quietN xs then quietN ys else quietN xs) ≤ quietN (joinL xs ys) := by
  obtain ⟨k1, a1, a2, a3⟩ := quiet_att (xs := xs)
  obtain ⟨k2, b1, b2, b3⟩ := quiet_att (xs := ys)
  obtain ⟨s1, s2⟩ := join_sizes hx.1 hy.1 hs
  have h0 := size_pos hx.1
  have hl := size_le hs
  have hlg := lg_join hx.1 hy.1 hs
  have e : (if quietN ys < quietN xs then quietN ys else quietN xs) = ((min k1 k2 : Nat) : Int) := by
    rw [a3, b3]
    split <;> omega
  rw [e]
  have c1 := quiet_iff.mp (quiet_mono (Nat.min_le_left k1 k2) a2)
  have c2 := quiet_iff.mp (quiet_mono (Nat.min_le_right k1 k2) b2)
  refine quiet_ge (by rw [join_len]; omega) (quiet_iff.mpr fun u hu h1 h2 => ?_)
  rw [join_len] at hu
  have g1 : u % xs.length < xs.length := Nat.mod_lt _ (by omega)
  have g2 : u / xs.length < ys.length := Nat.div_lt_of_lt_mul hu
  have hb := bitj_tab' _ s1 u (by omega)
  rw [W_join hx hy hs hu]
  by_cases hz : bitN (u % xs.length) = 0
  · rw [c2 _ g2 (by omega) (by omega), Int.mul_zero]
  · rw [c1 _ g1 (by omega) (by omega), Int.zero_mul]
end
end Sw
end

section
/-! SwTu: what a tuner's defs give. -/
namespace Sw
open PySem (Str)
section
variable {C : Orc} {ρ : Env} {st st1 st2 : Store} {a b e o q : Ex} {as : Exs} {x y v r : Val} {n m : Nat} {P : List Val} {kp : Option Int} {g : Nat} {i : Int} {u : Bool} {ss : Sts} {R : SRes}
theorem w_fidx (ho : ev C o ρ st = .ok (.box n) st1) (hs : st1[n]? = some (.tun (some P) kp g)) (h : opIx (.lst P) (.int i) = some r) : ev C (.fidx o i) ρ st = .ok r st1 := by simp only [ev, ho, Res.bind_ok, hs, h, lift_some]
theorem w_fsl {lo hi : Option Int} (ho : ev C o ρ st = .ok (.box n) st1) (hs : st1[n]? = some (.tun (some P) kp g)) : ev C (.fsl o lo hi) ρ st = .ok (.lst (cut P lo hi)) st1 := by simp only [ev, ho, Res.bind_ok, hs]
theorem w_flen (ho : ev C o ρ st = .ok (.box n) st1) (hs : st1[n]? = some (.tun (some P) kp g)) : ev C (.flen o) ρ st = .ok (.int (P.length : Nat)) st1 := by simp only [ev, ho, Res.bind_ok, hs]
theorem w_flist (ho : ev C o ρ st = .ok (.box n) st1) (hs : st1[n]? = some (.tun (some P) kp g)) : ev C (.flist o) ρ st = .ok (.lst P) st1 := by simp only [ev, ho, Res.bind_ok, hs]
theorem w_kept {k : Int} {p : Option (List Val)} (ho : ev C o ρ st = .ok (.box n) st1) (hs : st1[n]? = some (.tun p (some k) g)) : ev C (.kept o) ρ st = .ok (.int k) st1 := by simp only [ev, ho, Res.bind_ok, hs]
theorem tunB_of (hs : st[n]? = some (.tun (some P) kp g)) : tunB st (.box n) = true := by simp only [tunB, hs]
theorem w_meth {f : Fn} {vs : List Val} (ho : ev C o ρ st = .ok (.box n) st1) (hs : st1[n]? = some (.tun (some P) kp g)) (ha : evs C as ρ st1 = .ok vs st1) (hc : C f (.box n :: vs) st1 = .ok v st2) : ev C (.meth o f as) ρ st = .ok v st2 := by
  simp only [ev, ho, Res.bind_ok, tunB_of hs, if_true, ha, hc]
theorem w_methE {f : Fn} {vs : List Val} {c : Nat} (ho : ev C o ρ st = .ok (.box n) st1) (hs : st1[n]? = some (.tun (some P) kp g)) (ha : evs C as ρ st1 = .ok vs st1) (hc : C f (.box n :: vs) st1 = .exc c st2) : ev C (.meth o f as) ρ st = .exc c st2 := by
  simp only [ev, ho, Res.bind_ok, tunB_of hs, if_true, ha, hc]
theorem lenV_ok {k : Nat} (hk : k < 1000000) : lenV (.int (k : Nat)) = some (.int (k : Nat)) := by
  have h1 : (0 : Int) ≤ (k : Nat) := by omega
  have h2 : ((k : Nat) : Int) < 1000000 := by omega
  show (if (decide ((0 : Int) ≤ (k : Nat)) && decide (((k : Nat) : Int) < 1000000)) = true then some (Val.int (k : Nat)) else none) = _
  rw [decide_eq_true h1, decide_eq_true h2]
  rfl
theorem w_tlen {k : Nat} (ho : ev C o ρ st = .ok (.box n) st1) (hs : st1[n]? = some (.tun (some P) kp g)) (hc : C .t_len [.box n] st1 = .ok (.int (k : Nat)) st1) (hk : k < 1000000) : ev C (.tlen o) ρ st = .ok (.int (k : Nat)) st1 := by
  have e : ev C (.tlen o) ρ st = (ev C o ρ st).bind fun x st1 => if tunB st1 x then (C .t_len [x] st1).bind fun v st2 => lift (lenV v) st2 else .bad := by simp only [ev]
  rw [e, ho, Res.bind_ok, tunB_of hs, if_pos rfl, hc, Res.bind_ok, lenV_ok hk, lift_some]
theorem w_tstr {s : Str} (ho : ev C o ρ st = .ok (.box n) st1) (hs : st1[n]? = some (.tun (some P) kp g)) (hc : C .t_str [.box n] st1 = .ok (.str s) st1) : ev C (.tstr o) ρ st = .ok (.str s) st1 := by
  simp only [ev, ho, Res.bind_ok, tunB_of hs, if_true, hc, strV, lift_some]
theorem w_teq {P' : List Val} {kp' : Option Int} {g' : Nat} (ho : ev C o ρ st = .ok (.box n) st1) (hq : ev C q ρ st1 = .ok (.box m) st2) (hs : st2[n]? = some (.tun (some P) kp g)) (hs' : st2[m]? = some (.tun (some P') kp' g')) (hc : C .t_eq [.box n, .box m] st2 = .ok (.bl u) st2) : ev C (.teq o q) ρ st = .ok (.bl u) st2 := by
  simp only [ev, ho, hq, Res.bind_ok, tunB_of hs, tunB_of hs', Bool.and_self, if_true, hc, boolV, Option.map_some, lift_some]
theorem w_andT (ha : ev C a ρ st = .ok (.bl true) st1) (hb : ev C b ρ st1 = .ok v st2) : ev C (.and a b) ρ st = .ok v st2 := by simp only [ev_and, ha, Res.bind_ok, pick_t, hb]
theorem w_andF (ha : ev C a ρ st = .ok (.bl false) st1) : ev C (.and a b) ρ st = .ok (.bl false) st1 := by simp only [ev_and, ha, Res.bind_ok, pick_f]
theorem w_orF (ha : ev C a ρ st = .ok (.bl false) st1) (hb : ev C b ρ st1 = .ok v st2) : ev C (.or a b) ρ st = .ok v st2 := by simp only [ev_or, ha, Res.bind_ok, pick_f, hb]
theorem q_fset {xs : List Val} {p : Option (List Val)} (he : ev C e ρ st = .ok (.lst xs) st1) (ho : ev C o ρ st1 = .ok (.box n) st2) (hs : st2[n]? = some (.tun p kp g)) (k : execs C ss ρ (st2.set n (.tun (some xs) kp (g + 1))) = R) : execs C (.cons (.fset o e) ss) ρ st = R := by
  rw [ex_cons]; simp only [exec, he, Res.sbind_ok, ho, hs, SRes.bind_next]; exact k
theorem q_kset {k' : Int} (he : ev C e ρ st = .ok (.int k') st1) (ho : ev C o ρ st1 = .ok (.box n) st2) (hs : st2[n]? = some (.tun (some P) kp g)) (k : execs C ss ρ (st2.set n (.tun (some P) (some k') g)) = R) : execs C (.cons (.kset o e) ss) ρ st = R := by
  rw [ex_cons]; simp only [exec, he, Res.sbind_ok, ho, hs, SRes.bind_next]; exact k
theorem q_fapp (ho : ev C o ρ st = .ok (.box n) st) (hs : st[n]? = some (.tun (some P) kp g)) (he : ev C e ρ st = .ok v st) (hp : v.pure = true) (hl : P.length < 1000) (k : execs C ss ρ (st.set n (.tun (some (P ++ [v])) kp g)) = R) : execs C (.cons (.fapp o e) ss) ρ st = R := by
  have hl' : P.length < lim := Nat.lt_of_lt_of_le hl (by decide)
  rw [ex_cons]; simp only [exec, ho, Res.sbind_ok, hs, he, hp, hl', decide_true, Bool.and_self, beq_self_eq_true, if_true, SRes.bind_next]; exact k
theorem w_mk {st3 : Store} (ha : ev C a ρ st = .ok v st1) (h : C .t_init [.box st1.length, v] (st1 ++ [.tun none none 0]) = .ok .non st3) : ev C (.mk a) ρ st = .ok (.box st1.length) st3 := by
  simp only [ev, ha, Res.bind_ok, h]
theorem tv_snoc {p : List (List Int)} {xs : List Int} : tv (p ++ [xs]) = tv p ++ [.tup (iv xs)] := by simp [tv]
theorem tv_len {p : List (List Int)} : (tv p).length = p.length := by simp [tv]
theorem ix_lastT {p : List (List Int)} {xs : List Int} : opIx (.lst (tv (p ++ [xs]))) (.int (-1)) = some (.tup (iv xs)) := by
  simp only [opIx, seqOf, Option.bind_some, ixOf, tv_len, List.length_append, List.length_singleton]
  rw [if_neg (by omega), if_pos (by omega), Option.bind_some]
  have : (-1 + ((p.length + 1 : Nat) : Int)).toNat = p.length := by omega
  rw [this, tv_snoc, List.getElem?_append_right (by rw [tv_len]; omega)]
  simp [tv_len]
theorem ix_headT {p : List (List Int)} {xs : List Int} : opIx (.lst (tv (xs :: p))) (.int 0) = some (.tup (iv xs)) := by
  simp [opIx, seqOf, ixOf, tv]
theorem get_set1 {c : Cell} (h : n < st.length) : (st.set n c)[n]? = some c := by rw [List.getElem?_set_self h]
end
section
variable {T : Fn → Option FDef} {k : Nat} {st : Store} {n m p : Nat} {pre : List (List Int)} {xs : List Int} {kp : Option Int} {g : Nat}
theorem lt_of_get {c : Cell} (h : st[n]? = some c) : n < st.length := (List.getElem?_eq_some_iff.mp h).1
theorem c_init (hs : st[n]? = some (.tun none none g)) (h : IsF xs) (h_is_integer : T .is_integer = some D.is_integer := by first | assumption | rfl) (h_is_function : T .is_function = some D.is_function := by first | assumption | rfl) (h_check_function : T .check_function = some D.check_function := by first | assumption | rfl) (h_t_init : T .t_init = some D.t_init := by first | assumption | rfl) : callN T (k + 4) .t_init [.box n, .tup (iv xs)] st = .ok .non (st.set n (.tun (some (tv [xs])) (some 1) (g + 1))) := by
  have hn := lt_of_get hs
  have hb : execs (callN T (k + 3)) D.t_init.body ([.box n, .tup (iv xs)].map some ++ List.replicate (D.t_init.ns - D.t_init.np) none) st = .next [some (.box n), some (.tup (iv xs))] (st.set n (.tun (some (tv [xs])) (some 1) (g + 1))) := by
    refine q_expr (v := .non) (st1 := st) (w_call (w_cons (w_var rfl) w_nil) (c_check h)) (q_fset (xs := tv [xs]) (w_lst (w_cons (w_var rfl) w_nil) rfl rfl) (w_var rfl) hs (q_kset (n := n) (P := tv [xs]) ev_ci (w_var rfl) (get_set1 hn) ?_))
    rw [List.set_set]
    rfl
  rw [callN_succ h_t_init, callD_eq rfl, hb, endC_next]
  show Res.ok Val.non ((st.set n (.tun (some (tv [xs])) (some 1) (g + 1))).take st.length) = _
  rw [List.take_of_length_le (by simp)]
theorem made {C : Orc} {ρ : Env} {a : Ex} {st1 : Store} (ha : ev (callN T (k + 4)) a ρ st = .ok (.tup (iv xs)) st1) (h : IsF xs) (h_is_integer : T .is_integer = some D.is_integer := by first | assumption | rfl) (h_is_function : T .is_function = some D.is_function := by first | assumption | rfl) (h_check_function : T .check_function = some D.check_function := by first | assumption | rfl) (h_t_init : T .t_init = some D.t_init := by first | assumption | rfl) : ev (callN T (k + 4)) (.mk a) ρ st = .ok (.box st1.length) (st1 ++ [.tun (some (tv [xs])) (some 1) 1]) := by
  refine w_mk ha ?_
  have := c_init (T := T) (k := k) (st := st1 ++ [.tun none none 0]) (n := st1.length) (g := 0) (by simp) h
  rw [this]
  simp
/-- the ends of the changes -/
theorem end_st {f : Fn} {d : FDef} {vs : List Val} {v : Val} {st1 : Store} (h : T f = some d) (hn : vs.length = d.np) (hk : d.keep = false) (hb : execs (callN T k) d.body (vs.map some ++ List.replicate (d.ns - d.np) none) st = .ret v st1) (hl : st1.length = st.length) (hv : ∀ m, v ≠ .box m) : callN T (k + 1) f vs st = .ok v st1 := call_st h hn hk hb hl hv
theorem c_flip (hs : st[n]? = some (.tun (some (tv (pre ++ [xs]))) kp g)) (hpl : pre.length < 900) (h : IsF xs) (hp : p < xs.length) (h_is_integer : T .is_integer = some D.is_integer := by first | assumption | rfl) (h_check_mask : T .check_mask = some D.check_mask := by first | assumption | rfl) (h_spread : T .spread = some D.spread := by first | assumption | rfl) (h_wave_of : T .wave_of = some D.wave_of := by first | assumption | rfl) (h_height : T .height = some D.height := by first | assumption | rfl) (h_gap_of : T .gap_of = some D.gap_of := by first | assumption | rfl) (h_t_flip : T .t_flip = some D.t_flip := by first | assumption | rfl) : callN T (k + 8) .t_flip [.box n, .int (p : Nat)] st = .ok (.int (gapL (flipL xs p))) (st.set n (.tun (some (tv (pre ++ [xs] ++ [flipL xs p]))) kp g)) := by
  have hn := lt_of_get hs
  have hF := isF_flip h hp
  have hl := isF_len h
  have hs1 : opSl none (some (p : Int)) (.tup (iv xs)) = some (.tup (iv (xs.take p))) := o_takeT hp
  have hs2 : opSl (some ((p : Int) + 1)) none (.tup (iv xs)) = some (.tup (iv (xs.drop (p + 1)))) := by
    have := o_dropT (xs := xs) (h := p + 1) (by omega) (by omega)
    simpa using this
  refine end_st (d := D.t_flip) h_t_flip rfl rfl ?_ (by simp) (fun _ z => by cases z)
  refine q_set (v := .tup (iv xs)) (st1 := st) (w_fidx (w_var rfl) hs ix_lastT) (q_expr (v := .non) (st1 := st) (w_call (w_cons (w_var rfl) (w_cons (w_b1 (w_var rfl) o_lenT) w_nil)) (c_check_mask hp)) (q_fapp (v := .tup (iv (flipL xs p))) (w_var rfl) hs ?_ rfl (by rw [tv_len]; simp; omega) ?_))
  · unfold flipL
    exact x_bin (x_bin (w_sl (w_var rfl) w_on (w_os (w_var rfl)) hs1) (w_tup (w_cons (x_bin ev_ci (x_idx (w_var rfl) (w_var rfl) (xd_ixT hp)) xd_sub) w_nil) rfl cv_t1) (xd_addT (by simp; omega))) (w_sl (w_var rfl) (w_os (x_bin (w_var rfl) ev_ci xd_add)) w_on hs2) (xd_addT (by simp; omega))
  · rw [← tv_snoc]
    exact q_ret (w_call (w_cons (w_fidx (w_var rfl) (get_set1 hn) ix_lastT) w_nil) (c_gap_of hF.1))
theorem c_tshift (hs : st[n]? = some (.tun (some (tv (pre ++ [xs]))) kp g)) (hpl : pre.length < 900) (h : IsF xs) (hp : p < xs.length) (h_moved : T .moved = some D.moved := by first | assumption | rfl) (h_is_integer : T .is_integer = some D.is_integer := by first | assumption | rfl) (h_check_mask : T .check_mask = some D.check_mask := by first | assumption | rfl) (h_common : T .common = some D.common := by first | assumption | rfl) (h_exclusive : T .exclusive = some D.exclusive := by first | assumption | rfl) (h_t_shift : T .t_shift = some D.t_shift := by first | assumption | rfl) : callN T (k + 8) .t_shift [.box n, .int (p : Nat)] st = .ok (.tup (iv (movedL xs p))) (st.set n (.tun (some (tv (pre ++ [xs] ++ [movedL xs p]))) kp g)) := by
  have hn := lt_of_get hs
  refine end_st (d := D.t_shift) h_t_shift rfl rfl ?_ (by simp) (fun _ z => by cases z)
  refine q_expr (v := .non) (st1 := st) (w_call (w_cons (w_var rfl) (w_cons (w_b1 (w_fidx (w_var rfl) hs ix_lastT) o_lenT) w_nil)) (c_check_mask hp)) (q_fapp (v := .tup (iv (movedL xs p))) (w_var rfl) hs (w_call (w_cons (w_fidx (w_var rfl) hs ix_lastT) (w_cons (w_var rfl) w_nil)) (c_moved h.1 hp)) rfl (by rw [tv_len]; simp; omega) ?_)
  rw [← tv_snoc]
  exact q_ret (w_fidx (w_var rfl) (get_set1 hn) ix_lastT)
theorem c_ttilt (hs : st[n]? = some (.tun (some (tv (pre ++ [xs]))) kp g)) (hpl : pre.length < 900) (h : IsF xs) (hp : p < xs.length) (h_leaned : T .leaned = some D.leaned := by first | assumption | rfl) (h_is_integer : T .is_integer = some D.is_integer := by first | assumption | rfl) (h_check_mask : T .check_mask = some D.check_mask := by first | assumption | rfl) (h_bit_count : T .bit_count = some D.bit_count := by first | assumption | rfl) (h_common : T .common = some D.common := by first | assumption | rfl) (h_straight : T .straight = some D.straight := by first | assumption | rfl) (h_t_tilt : T .t_tilt = some D.t_tilt := by first | assumption | rfl) : callN T (k + 8) .t_tilt [.box n, .int (p : Nat)] st = .ok (.tup (iv (leanL xs p))) (st.set n (.tun (some (tv (pre ++ [xs] ++ [leanL xs p]))) kp g)) := by
  have hn := lt_of_get hs
  have hl := isF_len h
  refine end_st (d := D.t_tilt) h_t_tilt rfl rfl ?_ (by simp) (fun _ z => by cases z)
  refine q_expr (v := .non) (st1 := st) (w_call (w_cons (w_var rfl) (w_cons (w_b1 (w_fidx (w_var rfl) hs ix_lastT) o_lenT) w_nil)) (c_check_mask hp)) (q_fapp (v := .tup (iv (leanL xs p))) (w_var rfl) hs (w_call (w_cons (w_fidx (w_var rfl) hs ix_lastT) (w_cons (w_var rfl) w_nil)) (c_leaned hl (by omega))) rfl (by rw [tv_len]; simp; omega) ?_)
  rw [← tv_snoc]
  exact q_ret (w_fidx (w_var rfl) (get_set1 hn) ix_lastT)
theorem c_tturn (hs : st[n]? = some (.tun (some (tv (pre ++ [xs]))) kp g)) (hpl : pre.length < 900) (h : IsF xs) (h_opposite : T .opposite = some D.opposite := by first | assumption | rfl) (h_t_turn : T .t_turn = some D.t_turn := by first | assumption | rfl) : callN T (k + 8) .t_turn [.box n] st = .ok (.tup (iv (oppL xs))) (st.set n (.tun (some (tv (pre ++ [xs] ++ [oppL xs]))) kp g)) := by
  have hn := lt_of_get hs
  have hl := isF_len h
  refine end_st (d := D.t_turn) h_t_turn rfl rfl ?_ (by simp) (fun _ z => by cases z)
  refine q_fapp (v := .tup (iv (oppL xs))) (w_var rfl) hs (w_call (w_cons (w_fidx (w_var rfl) hs ix_lastT) w_nil) (c_opposite hl)) rfl (by rw [tv_len]; simp; omega) ?_
  rw [← tv_snoc]
  exact q_ret (w_fidx (w_var rfl) (get_set1 hn) ix_lastT)
theorem c_tfunction (hs : st[n]? = some (.tun (some (tv (pre ++ [xs]))) kp g)) (h_t_function : T .t_function = some D.t_function := by first | assumption | rfl) : callN T (k + 1) .t_function [.box n] st = .ok (.tup (iv xs)) st :=
  call_ret (d := D.t_function) h_t_function rfl rfl (q_ret (w_fidx (w_var rfl) hs ix_lastT))
theorem c_tpath {P : List Val} (hs : st[n]? = some (.tun (some P) kp g)) (h_t_path : T .t_path = some D.t_path := by first | assumption | rfl) : callN T (k + 1) .t_path [.box n] st = .ok (.lst P) st :=
  call_ret (d := D.t_path) h_t_path rfl rfl (q_ret (w_flist (w_var rfl) hs))
theorem cut_tail {P : List Val} : cut P (some 1) none = P.drop 1 := by
  unfold cut
  cases P with
  | nil => rfl
  | cons a r =>
    have : sIx (a :: r).length 0 (some 1) = 1 := sIx_nat (h := 1) (by simp)
    rw [this]
    simp [sIx]
theorem c_tlen {P : List Val} (hs : st[n]? = some (.tun (some P) kp g)) (h_t_len : T .t_len = some D.t_len := by first | assumption | rfl) : callN T (k + 1) .t_len [.box n] st = .ok (.int ((P.length - 1 : Nat) : Int)) st := by
  refine call_ret (d := D.t_len) h_t_len rfl rfl (q_ret (w_b1 (w_fsl (w_var rfl) hs) ?_))
  show op1 .len (.lst (cut P (some 1) none)) = _
  rw [cut_tail]
  simp [op1, seqOf]
theorem c_tstr (hs : st[n]? = some (.tun (some (tv (pre ++ [xs]))) kp g)) (h : IsF xs) (h_text_of : T .text_of = some D.text_of := by first | assumption | rfl) (h_t_str : T .t_str = some D.t_str := by first | assumption | rfl) : callN T (k + 2) .t_str [.box n] st = .ok (.str (sL (digs xs))) st :=
  call_ret (d := D.t_str) h_t_str rfl rfl (q_ret (w_b1 (w_call (w_cons (w_fidx (w_var rfl) hs ix_lastT) w_nil) (c_text_of h)) rfl)) fin_str
theorem c_teq {p p' : List (List Int)} {kp' : Option Int} {g' : Nat} (hs : st[n]? = some (.tun (some (tv p)) kp g)) (hs' : st[m]? = some (.tun (some (tv p')) kp' g')) (h_t_eq : T .t_eq = some D.t_eq := by first | assumption | rfl) : callN T (k + 1) .t_eq [.box n, .box m] st = .ok (.bl (veqs (tv p) (tv p'))) st := by
  refine call_ret (d := D.t_eq) h_t_eq rfl rfl (q_ret (w_andT (st1 := st) ?_ ?_))
  · have : ev (callN T k) (.var 1) [some (.box n), some (.box m)] st = .ok (.box m) st := w_var rfl
    simp only [ev] at this
    simp only [ev]
    show Res.bind (Res.ok (Val.box m) st) _ = _
    simp only [Res.bind_ok, tunB_of hs', if_true]
  · have hd : ∀ q : List (List Int), dat 8 (.lst (tv q)) = true := fun q => by
      show (tv q).all (dat 7) = true
      simp [tv, dat, dat_iv]
    simp only [ev]
    show Res.bind (Res.ok (Val.box n) st) _ = _
    simp only [Res.bind_ok]
    show Res.bind (Res.ok (Val.box m) st) _ = _
    simp only [Res.bind_ok, hs, hs', hd, Bool.and_self, if_true]
theorem cut_init {P : List Val} (h : 0 < P.length) : cut P none (some (-1)) = P.take (P.length - 1) := by
  unfold cut
  have : sIx P.length P.length (some (-1)) = P.length - 1 := by
    simp only [sIx]
    rw [if_pos (by omega)]
    omega
  rw [this]
  simp [sIx]
theorem c_undo {ys : List Int} {kk : Int} (hs : st[n]? = some (.tun (some (tv (pre ++ [ys] ++ [xs]))) (some kk) g)) (hk : ((pre.length + 2 : Nat) : Int) ≠ kk) (h_t_undo : T .t_undo = some D.t_undo := by first | assumption | rfl) : callN T (k + 1) .t_undo [.box n] st = .ok (.tup (iv ys)) (st.set n (.tun (some (tv (pre ++ [ys]))) (some kk) (g + 1))) := by
  have hn := lt_of_get hs
  have hl : (tv (pre ++ [ys] ++ [xs])).length = pre.length + 2 := by rw [tv_len]; simp
  refine end_st (d := D.t_undo) h_t_undo rfl rfl ?_ (by simp) (fun _ z => by cases z)
  refine q_skip (tf_of (t := (((tv (pre ++ [ys] ++ [xs])).length : Nat) : Int) == kk) (x_cmp (w_flen (w_var rfl) hs) (w_kept (w_var rfl) hs) xd_eqI) (by rw [hl, beq_eq_false_iff_ne]; exact hk)) (q_fset (xs := tv (pre ++ [ys])) ?_ (w_var rfl) hs (q_ret (w_fidx (w_var rfl) (get_set1 hn) ix_lastT)))
  have := w_fsl (C := callN T k) (ρ := [some (.box n)]) (o := .var 0) (lo := none) (hi := some (-1)) (st := st) (w_var rfl) hs
  rw [cut_init (by omega), hl, tv_snoc, List.take_left' (by rw [tv_len]; simp)] at this
  exact this
theorem c_undo_bad {P : List Val} (hs : st[n]? = some (.tun (some P) (some (P.length : Nat)) g)) (h_t_undo : T .t_undo = some D.t_undo := by first | assumption | rfl) : callN T (k + 1) .t_undo [.box n] st = .exc 7 st := by
  refine call_exc (d := D.t_undo) (st1 := st) h_t_undo rfl (q_ifT (st1 := st) (R1 := .exc 7 st) (tt_of (x_cmp (w_flen (w_var rfl) hs) (w_kept (w_var rfl) hs) xd_eqI) (by simp)).h q_raise rfl) (by simp)
theorem c_duplicate (hs : st[n]? = some (.tun (some (tv (xs :: pre))) kp g)) (h : IsF xs) (h_is_integer : T .is_integer = some D.is_integer := by first | assumption | rfl) (h_is_function : T .is_function = some D.is_function := by first | assumption | rfl) (h_check_function : T .check_function = some D.check_function := by first | assumption | rfl) (h_t_init : T .t_init = some D.t_init := by first | assumption | rfl) (h_t_duplicate : T .t_duplicate = some D.t_duplicate := by first | assumption | rfl) : callN T (k + 5) .t_duplicate [.box n] st = .ok (.box st.length) (st ++ [.tun (some (tv (xs :: pre))) (some ((xs :: pre).length : Nat)) 2]) := by
  have hn := lt_of_get hs
  have hs2 : ∀ c : Cell, (st ++ [c])[n]? = some (.tun (some (tv (xs :: pre))) kp g) := fun c => by rw [List.getElem?_append_left hn]; exact hs
  have hset : ∀ c c' : Cell, (st ++ [c]).set st.length c' = st ++ [c'] := fun c c' => by simp
  have hb : execs (callN T (k + 4)) D.t_duplicate.body ([.box n].map some ++ List.replicate (D.t_duplicate.ns - D.t_duplicate.np) none) st = .ret (.box st.length) (st ++ [.tun (some (tv (xs :: pre))) (some ((xs :: pre).length : Nat)) 2]) := by
    refine q_set (v := .box st.length) (st1 := st ++ [.tun (some (tv [xs])) (some 1) 1]) (made (C := callN T (k + 4)) (w_fidx (w_var rfl) hs ix_headT) h) ?_
    refine q_fset (n := st.length) (xs := tv (xs :: pre)) (p := some (tv [xs])) (kp := some 1) (g := 1) (w_flist (w_var rfl) (hs2 _)) (w_var rfl) (by simp) ?_
    rw [hset]
    refine q_kset (n := st.length) (P := tv (xs :: pre)) (kp := some 1) (g := 1 + 1) (k' := ((xs :: pre).length : Nat)) (st1 := st ++ [.tun (some (tv (xs :: pre))) (some 1) (1 + 1)]) (st2 := st ++ [.tun (some (tv (xs :: pre))) (some 1) (1 + 1)]) ?_ (w_var rfl) (by simp) ?_
    · have := w_flen (C := callN T (k + 4)) (ρ := [some (.box n), some (.box st.length)]) (o := .var 0) (st := st ++ [.tun (some (tv (xs :: pre))) (some 1) (1 + 1)]) (w_var rfl) (hs2 _)
      rw [tv_len] at this
      exact this
    · rw [hset]
      exact q_ret (w_var rfl)
  rw [callN_succ h_t_duplicate, callD_eq rfl, hb, endC_ret]
  rfl
end
end Sw
end

section
/-! SwQ: which tuples are waves. -/
namespace Sw
section
variable {xs ys : List Int} {i p : Nat} {d : Int}
theorem sig_S (h : SizeOk ys.length) (hi : i < ys.length) : (signsL ys).getD i 0 = S ys.length fun m => ys.getD m 0 * sg m i := by
  obtain ⟨p1, p2⟩ := lg_pow h
  have hn := size_le h
  have := row_wave (lg ys.length) ys p2 p1 i (by omega)
  show (spreadL (lg ys.length) ys).getD i 0 = _
  rw [← this, row_S]
  exact S_congr fun m hm => by rw [sg_com (by omega) (by omega)]
theorem mem_getD {l : List Int} {x : Int} (h : x ∈ l) : ∃ i < l.length, l.getD i 0 = x := by
  obtain ⟨i, hi, e⟩ := List.getElem_of_mem h
  exact ⟨i, hi, by simp [List.getD, hi, e]⟩
theorem getD_mem {l : List Int} (h : i < l.length) : l.getD i 0 ∈ l := by simp [List.getD, h]
theorem fine_iff (h : SizeOk ys.length) : fineB ys = true ↔ ∀ i < ys.length, (signsL ys).getD i 0 = ys.length ∨ (signsL ys).getD i 0 = 0 - ys.length := by
  have hl := signs_len h
  simp only [fineB, List.all_map, List.all_eq_true, Function.comp, id, List.any_cons, List.any_nil, Bool.or_false, Bool.or_eq_true, beq_iff_eq]
  constructor
  · intro e i hi
    rcases e _ (getD_mem (l := signsL ys) (i := i) (by omega)) with g | g
    · left; exact g.symm
    · right; exact g.symm
  · intro e x hx
    obtain ⟨i, hi, rfl⟩ := mem_getD hx
    rcases e i (by omega) with g | g
    · left; exact g.symm
    · right; exact g.symm
theorem fine_not (h : SizeOk ys.length) (hi : i < ys.length) (h1 : (signsL ys).getD i 0 ≠ ys.length) (h2 : (signsL ys).getD i 0 ≠ 0 - ys.length) : fineB ys = false := by
  rw [← Bool.not_eq_true, fine_iff h]
  intro e
  rcases e i hi with g | g
  · exact h1 g
  · exact h2 g
theorem sig_wave (h : IsF xs) (hi : i < xs.length) : (signsL (waveL xs)).getD i 0 = xs.length * ep xs i := by
  have hl := waveL_len h.1
  rw [sig_S (by rw [hl]; exact h.1) (by omega), hl, ← W_inv h.1 hi]
  rfl
theorem fine_wave (h : IsF xs) : fineB (waveL xs) = true := by
  have hl := waveL_len h.1
  rw [fine_iff (by rw [hl]; exact h.1), hl]
  intro i hi
  rw [sig_wave h hi]
  rcases ep_pm h hi with e | e <;> rw [e]
  · left; omega
  · right; omega
theorem pos_wave (h : IsF xs) : posL (signsL (waveL xs)) = xs := by
  have hl := waveL_len h.1
  have hs := signs_len (ys := waveL xs) (by rw [hl]; exact h.1)
  have h0 := size_pos h.1
  refine tup_ext (n := xs.length) (by rw [posL, List.length_map]; omega) rfl fun i hi => ?_
  have e : (posL (signsL (waveL xs))).getD i 0 = if (signsL (waveL xs)).getD i 0 > 0 then 0 else 1 := by
    have : i < (signsL (waveL xs)).length := by omega
    simp [posL, List.getD, this]
  rw [e, sig_wave h hi]
  unfold ep
  rcases get_bit h hi with g | g <;> rw [g]
  · rw [if_pos (by omega)]
  · rw [if_neg (by omega)]
theorem W_le (h : IsF xs) (hi : i < xs.length) : -(xs.length : Int) ≤ W xs i ∧ W xs i ≤ xs.length := by
  have hn := size_le h.1
  rw [W_S h.1 hi]
  have hb : ∀ j < xs.length, ep xs j * sg i j = 1 ∨ ep xs j * sg i j = -1 := fun j hj => by
    rcases ep_pm h hj with e | e <;> rcases sg_pm (m := i) (p := j) (by omega) (by omega) with f | f <;> rw [e, f] <;> simp
  constructor
  · have := S_le (n := xs.length) (f := fun _ => -1) (g := fun j => ep xs j * sg i j) fun j hj => by rcases hb j hj with e | e <;> rw [e] <;> omega
    rw [S_const] at this
    omega
  · have := S_le (n := xs.length) (f := fun j => ep xs j * sg i j) (g := fun _ => 1) fun j hj => by rcases hb j hj with e | e <;> rw [e] <;> omega
    rw [S_const] at this
    omega
theorem ints_of (h : ∀ y ∈ ys, -(ys.length : Int) ≤ y ∧ y ≤ ys.length) : (iv ys).all (isIntV (0 - ((iv ys).length : Nat)) ((iv ys).length : Nat)) = true := by
  rw [List.all_eq_true]
  intro v hv
  obtain ⟨y, hy, rfl⟩ := List.mem_map.mp hv
  have := h y hy
  simp only [isIntV, iv_len, Bool.and_eq_true, decide_eq_true_eq]
  omega
theorem wave_in (h : IsF xs) : ∀ y ∈ waveL xs, -(xs.length : Int) ≤ y ∧ y ≤ xs.length := fun y hy => by
  rw [wave_range h.1] at hy
  obtain ⟨u, hu, rfl⟩ := List.mem_map.mp hy
  exact W_le h (List.mem_range.mp hu)
/-! one integer changed -/
def updL (ws : List Int) (p : Nat) (v : Int) : List Int := ws.take p ++ [v] ++ ws.drop (p + 1)
theorem upd_len {v : Int} (hp : p < xs.length) : (updL xs p v).length = xs.length := by
  simp only [updL, List.length_append, List.length_take, List.length_drop, List.length_cons, List.length_nil]
  omega
theorem upd_get {v : Int} (hp : p < xs.length) (hi : i < xs.length) : (updL xs p v).getD i 0 = if i = p then v else xs.getD i 0 := by
  have e : updL xs p v = xs.set p v := by rw [List.set_eq_take_append_cons_drop, if_pos hp]; simp [updL]
  rw [e]
  simp only [List.getD_eq_getElem?_getD, List.getElem?_set]
  by_cases h : p = i
  · subst h; simp [hp]
  · rw [if_neg h, if_neg (fun e => h e.symm)]
theorem sig_upd (h : IsF xs) (hp : p < xs.length) (hi : i < xs.length) : (signsL (updL (waveL xs) p (W xs p + d))).getD i 0 = xs.length * ep xs i + d * sg p i := by
  have hl := waveL_len h.1
  have hul : (updL (waveL xs) p (W xs p + d)).length = xs.length := by rw [upd_len (by omega), hl]
  rw [sig_S (by rw [hul]; exact h.1) (by omega), hul, ← W_inv h.1 hi, ← S_delta (fun m => d * sg m i) hp, ← S_add]
  refine S_congr fun m hm => ?_
  rw [upd_get (by omega) (by omega)]
  by_cases e : m = p
  · subst e; simp; grind
  · simp [e]; rfl
theorem fine_upd (h : IsF xs) (hp : p < xs.length) (hd : d = 2 ∨ d = 0 - 2 ∨ d = 1) : fineB (updL (waveL xs) p (W xs p + d)) = false := by
  have hl := waveL_len h.1
  have hul : (updL (waveL xs) p (W xs p + d)).length = xs.length := by rw [upd_len (by omega), hl]
  have h0 := size_pos h.1
  have hn := size_le h.1
  have e := sig_upd (d := d) h hp (i := 0) (by omega)
  refine fine_not (by rw [hul]; exact h.1) (i := 0) (by omega) ?_ ?_ <;> rw [e, hul] <;> rcases ep_pm h (i := 0) (by omega) with f | f <;> rcases sg_pm (m := p) (p := 0) (by omega) (by omega) with g | g <;> rw [f, g] <;> rcases hd with rfl | rfl | rfl <;> omega
theorem sum_wave (h : IsF xs) : (waveL xs).sum = xs.length * ep xs 0 := by
  have h0 := size_pos h.1
  have hn := size_le h.1
  have hl := waveL_len h.1
  rw [sum_S, hl, ← W_inv h.1 (show 0 < xs.length by omega)]
  refine S_congr fun u hu => ?_
  rw [sg_z (by omega), Int.mul_one]
  rfl
theorem sq_wave (h : IsF xs) : ((waveL xs).map fun w => w * w).sum = xs.length * xs.length := by
  rw [wave_range h.1, List.map_map, ← parseval h]
  rfl
theorem sig_zero {n : Nat} (h : SizeOk n) : fineB (rep n [0]) = false := by
  have hl : (rep n [(0 : Int)]).length = n := by rw [rep_len]; simp
  have h0 := size_pos h
  have hz : (signsL (rep n [0])).getD 0 0 = 0 := by
    rw [sig_S (by rw [hl]; exact h) (by omega), hl]
    have hc : S n (fun _ => 0) = 0 := by rw [S_const]; omega
    refine Eq.trans (S_congr fun m hm => ?_) hc
    rw [rep_one]
    have : (List.replicate n (0 : Int)).getD m 0 = 0 := by
      simp [List.getD, hm]
    rw [this, Int.zero_mul]
  exact fine_not (by rw [hl]; exact h) (i := 0) (by omega) (by rw [hz, hl]; omega) (by rw [hz, hl]; omega)
end
end Sw
end

section
/-! SwE: even-waved functions, their partners and echoes; all functions of one size. -/
namespace Sw
section
variable {xs : List Int} {i u : Nat}
/-! partners -/
theorem part_len (h : SizeOk xs.length) : (partL xs).length = xs.length := by rw [partL, List.length_map, waveL_len h]
theorem part_get (h : SizeOk xs.length) (hi : i < xs.length) : (partL xs).getD i 0 = if W xs i < 0 then 1 else 0 := by
  have hl := waveL_len h
  have : i < (waveL xs).length := by omega
  simp [partL, W, List.getD, this]
theorem isF_part (h : IsF xs) : IsF (partL xs) := by
  refine ⟨by rw [part_len h.1]; exact h.1, fun x hx => ?_⟩
  obtain ⟨w, _, rfl⟩ := List.mem_map.mp hx
  split <;> simp
theorem even_root (h : IsF xs) (he : evenB xs = true) : ∃ c : Int, 0 < c ∧ c * c = xs.length ∧ ∀ u < xs.length, W xs u = c ∨ W xs u = -c := by
  have h0 := size_pos h.1
  have hs := even_sq h he
  have e0 := hs 0 (by omega)
  obtain ⟨c, hc, hcc⟩ : ∃ c : Int, 0 < c ∧ c * c = xs.length := by
    rcases Int.lt_trichotomy (W xs 0) 0 with g | g | g
    · exact ⟨-W xs 0, by omega, by rw [← e0]; grind⟩
    · rw [g] at e0; omega
    · exact ⟨W xs 0, g, e0⟩
  refine ⟨c, hc, hcc, fun u hu => ?_⟩
  have hz : (W xs u - c) * (W xs u + c) = 0 := by
    have := hs u hu
    grind
  rcases Int.mul_eq_zero.mp hz with g | g
  · left; omega
  · right; omega
theorem W_part (h : IsF xs) {c : Int} (hc : 0 < c) (hcc : c * c = xs.length) (hw : ∀ u < xs.length, W xs u = c ∨ W xs u = -c) (hu : u < xs.length) : W (partL xs) u = c * ep xs u := by
  have hl := part_len h.1
  have hn := size_le h.1
  have he : ∀ i < xs.length, c * ep (partL xs) i = W xs i := fun i hi => by
    unfold ep
    rw [part_get h.1 hi]
    rcases hw i hi with g | g <;> rw [g]
    · rw [if_neg (by omega)]; omega
    · rw [if_pos (by omega)]; omega
  have e1 : c * W (partL xs) u = c * (c * ep xs u) := by
    rw [W_S (by rw [hl]; exact h.1) (by omega), hl, ← S_mulL]
    have : S xs.length (fun i => c * (ep (partL xs) i * sg u i)) = S xs.length fun i => W xs i * sg i u := S_congr fun i hi => by
      rw [← he i hi, sg_com (by omega) (by omega)]
      grind
    rw [this, W_inv h.1 hu, ← hcc]
    grind
  exact Int.eq_of_mul_eq_mul_left (by omega) e1
theorem part_even (h : IsF xs) (he : evenB xs = true) : evenB (partL xs) = true ∧ partL (partL xs) = xs := by
  obtain ⟨c, hc, hcc, hw⟩ := even_root h he
  have hl := part_len h.1
  have hP := isF_part h
  constructor
  · refine even_of (c := c * c) hP.1 fun u hu => ?_
    rw [hl] at hu
    rw [W_part h hc hcc hw hu]
    have := ep_sq h hu
    grind
  · refine tup_ext (n := xs.length) (by rw [part_len hP.1, hl]) rfl fun i hi => ?_
    rw [part_get hP.1 (by omega), W_part h hc hcc hw hi]
    unfold ep
    rcases get_bit h hi with g | g <;> rw [g]
    · rw [if_neg (by omega)]
    · rw [if_pos (by omega)]
theorem sq_mod (w : Int) : w * w % 3 ≠ 2 := by
  have h : w % 3 = 0 ∨ w % 3 = 1 ∨ w % 3 = 2 := by omega
  rw [Int.mul_emod]
  rcases h with e | e | e <;> rw [e] <;> decide
theorem even_size (h : IsF xs) (he : evenB xs = true) : xs.length = 4 ∨ xs.length = 16 := by
  have h0 := size_pos h.1
  have e := even_sq h he 0 (by omega)
  have := sq_mod (W xs 0)
  rw [e] at this
  rcases h.1 with g | g | g | g <;> rw [g] at this ⊢
  · exact absurd rfl this
  · left; rfl
  · exact absurd rfl this
  · right; rfl
/-! the set of the integers without signs -/
theorem met_same : ∀ (r acc : List Int), (∀ x ∈ r, x ∈ acc) → metL acc r = acc
  | [], _, _ => rfl
  | x :: r, acc, h => by
    rw [metL, if_pos (h x (by simp))]
    exact met_same r acc fun y hy => h y (by simp [hy])
theorem met_le : ∀ (r acc : List Int), acc.length ≤ (metL acc r).length
  | [], _ => Nat.le_refl _
  | x :: r, acc => by
    rw [metL]
    split
    · exact met_le r acc
    · have := met_le r (acc ++ [x])
      rw [List.length_append] at this
      simp at this
      omega
theorem met_lt : ∀ (r acc : List Int) (x : Int), x ∈ r → x ∉ acc → acc.length < (metL acc r).length
  | [], _, _, h, _ => by cases h
  | y :: r, acc, x, h, hn => by
    rw [metL]
    by_cases hy : y ∈ acc
    · rw [if_pos hy]
      rcases List.mem_cons.mp h with rfl | h
      · exact absurd hy hn
      · exact met_lt r acc x h hn
    · rw [if_neg hy]
      have := met_le r (acc ++ [y])
      rw [List.length_append] at this
      simp at this
      omega
theorem met_one (a : Int) (r : List Int) : (metL [] (a :: r)).length = 1 ↔ ∀ x ∈ r, x = a := by
  rw [metL, if_neg (by simp), List.nil_append]
  constructor
  · intro h x hx
    refine Decidable.byContradiction fun hn => ?_
    have := met_lt r [a] x hx (by simpa using hn)
    simp at this
    omega
  · intro h
    rw [met_same r [a] fun x hx => by simp [h x hx]]
    rfl
def absI (w : Int) : Int := if 0 - w > w then 0 - w else w
theorem abs_sq (w z : Int) : absI w = absI z ↔ w * w = z * z := by
  constructor
  · intro h
    have : w = z ∨ w = -z := by unfold absI at h; split at h <;> split at h <;> omega
    rcases this with rfl | rfl
    · rfl
    · grind
  · intro h
    have hz : (w - z) * (w + z) = 0 := by grind
    unfold absI
    rcases Int.mul_eq_zero.mp hz with g | g
    · have : w = z := by omega
      rw [this]
    · have : w = -z := by omega
      rw [this]
      split <;> split <;> omega
theorem fits_even (h : IsF xs) : ((((metL [] ((waveL xs).map absI)).length : Nat) : Int) == 1) = evenB xs := by
  have h0 := size_pos h.1
  have hw := wave_range h.1
  rw [Bool.eq_iff_iff, beq_iff_eq, even_iff h.1]
  have e : (waveL xs).map absI = absI (W xs 0) :: ((List.range (xs.length - 1)).map fun i => absI (W xs (i + 1))) := by
    rw [hw, List.map_map]
    obtain ⟨k, hk⟩ : ∃ k, xs.length = k + 1 := ⟨xs.length - 1, by omega⟩
    rw [hk, List.range_succ_eq_map, List.map_cons, List.map_map, Nat.add_sub_cancel]
    rfl
  rw [e]
  have := met_one (absI (W xs 0)) ((List.range (xs.length - 1)).map fun i => absI (W xs (i + 1)))
  constructor
  · intro hl u hu
    by_cases hz : u = 0
    · rw [hz]
    · have := this.mp (by omega) (absI (W xs u)) (List.mem_map.mpr ⟨u - 1, List.mem_range.mpr (by omega), by congr 2; omega⟩)
      exact (abs_sq _ _).mp this
  · intro hq
    have := this.mpr fun x hx => by
      obtain ⟨i, hi, rfl⟩ := List.mem_map.mp hx
      have hi := List.mem_range.mp hi
      exact (abs_sq _ _).mpr (hq (i + 1) (by omega))
    omega
/-! the echo -/
theorem echo_sq (h : IsF xs) (hu : u < xs.length) : W xs u * W xs u = S xs.length fun s => (echoL xs).getD s 0 * sg u s := by
  have := echo_wave h hu
  rw [row_S] at this
  have hl : (echoL xs).length = xs.length := echoL_len
  rw [hl] at this
  exact this.symm
theorem sq_echo (h : IsF xs) (hu : u < xs.length) : S xs.length (fun m => W xs m * W xs m * sg m u) = xs.length * (echoL xs).getD u 0 := by
  rw [conv_S h.1 rfl hu, echo_S h hu]
theorem echo_even (h : IsF xs) : decide ((echoL xs).drop 1 = rep (xs.length - 1) [0]) = evenB xs := by
  have h0 := size_pos h.1
  have hn := size_le h.1
  have hl : (echoL xs).length = xs.length := echoL_len
  rw [Bool.eq_iff_iff, decide_eq_true_eq]
  constructor
  · intro e
    have hz : ∀ s < xs.length, s ≠ 0 → (echoL xs).getD s 0 = 0 := fun s hs hne => by
      have : ((echoL xs).drop 1).getD (s - 1) 0 = 0 := by
        rw [e, rep_one]
        simp only [List.getD_eq_getElem?_getD, List.getElem?_replicate]
        split <;> rfl
      rw [List.getD_eq_getElem?_getD, List.getElem?_drop, show 1 + (s - 1) = s by omega] at this
      rw [List.getD_eq_getElem?_getD]
      exact this
    refine even_of (c := (echoL xs).getD 0 0) h.1 fun u hu => ?_
    rw [echo_sq h hu, ← S_delta (fun s => (echoL xs).getD s 0) (show 0 < xs.length by omega)]
    refine S_congr fun s hs => ?_
    by_cases hz0 : s = 0
    · subst hz0
      rw [sg_z (by omega)]
      simp
    · rw [hz s hs hz0, if_neg hz0, Int.zero_mul]
  · intro he
    have hs := even_sq h he
    refine tup_ext (n := xs.length - 1) (by rw [List.length_drop, hl]) (by rw [rep_len]; simp) fun s hs' => ?_
    have hE : (echoL xs).getD (s + 1) 0 = 0 := by
      have e := sq_echo h (show s + 1 < xs.length by omega)
      rw [S_congr (g := fun m => (xs.length : Int) * (sg m (s + 1) * sg m 0)) fun m hm => by rw [hs m hm, sg_z (by omega), Int.mul_one], S_mulL, sg_orth h.1 (by omega) (by omega), if_neg (by omega)] at e
      have : (xs.length : Int) * (echoL xs).getD (s + 1) 0 = 0 := by rw [← e]; simp
      rcases Int.mul_eq_zero.mp this with g | g
      · omega
      · exact g
    rw [List.getD_eq_getElem?_getD, List.getElem?_drop, show 1 + s = s + 1 by omega, ← List.getD_eq_getElem?_getD, hE, rep_one]
    simp only [List.getD_eq_getElem?_getD, List.getElem?_replicate]
    split <;> rfl
end
/-! ### all functions of one size -/
def allF : Nat → List (List Int)
  | 0 => [[]]
  | n + 1 => (allF n).flatMap fun t => [t ++ [0], t ++ [1]]
theorem allF_len : ∀ n, (allF n).length = 2 ^ n
  | 0 => rfl
  | n + 1 => by
    have ih := allF_len n
    have : ∀ l : List (List Int), (l.flatMap fun t => [t ++ [0], t ++ [1]]).length = 2 * l.length := fun l => by
      induction l with
      | nil => rfl
      | cons a l ih => rw [List.flatMap_cons, List.length_append, ih]; simp; omega
    rw [allF, this, ih, Nat.pow_succ]
    omega
theorem allF_mem : ∀ (n : Nat) (t : List Int), t ∈ allF n → t.length = n
  | 0, t, h => by simp [allF] at h; rw [h]; rfl
  | n + 1, t, h => by
    rw [allF, List.mem_flatMap] at h
    obtain ⟨s, hs, ht⟩ := h
    have := allF_mem n s hs
    simp at ht
    rcases ht with rfl | rfl <;> simp [this]
section
variable {C : Orc} {ρ ρ' : Env} {st st1 : Store} {α : Type} {l : List α} {en : α → List Val} {it : It} {tg : List Nat} {ss body : Sts} {P : SRes → Prop} {bx : Option (Nat × List Val)}
theorem for_invX (I : List α → Env → Store → Prop) (hI : ∀ d ρ st, I d ρ st → bxOk st bx = true) : ∀ (l done : List α) (ρ : Env) (st : Store), (∀ d a r ρ st, done ++ l = d ++ a :: r → I d ρ st → Nx (I (d ++ [a])) (execs C body (setAll ρ tg (en a)) st)) → I done ρ st → ∃ ρ' st', forB C body tg bx (l.map en) ρ st = .next ρ' st' ∧ I (done ++ l) ρ' st'
  | [], done, ρ, st, _, h0 => ⟨ρ, st, forB_nil (hI _ _ _ h0), by simpa using h0⟩
  | a :: l, done, ρ, st, h, h0 => by
    obtain ⟨ρ1, st1, h1, i1⟩ := h done a l ρ st rfl h0
    obtain ⟨ρ2, st2, h2, i2⟩ := for_invX I hI l (done ++ [a]) ρ1 st1 (fun d b r ρ st e hi => h d b r ρ st (by simpa using e) hi) i1
    refine ⟨ρ2, st2, ?_, by simpa using i2⟩
    rw [List.map_cons, forB_cons (hI _ _ _ h0), h1, SRes.bind_next, h2]
/-- a loop over a list that was made before -/
theorem g_forX (I : List α → Env → Store → Prop) (hi : evi C it ρ st = .ok (l.map en, bx) st1) (hI : ∀ d ρ st, I d ρ st → bxOk st bx = true) (h0 : I [] ρ st1) (hs : ∀ d a r ρ st, l = d ++ a :: r → I d ρ st → Nx (I (d ++ [a])) (execs C body (setAll ρ tg (en a)) st)) (k : ∀ ρ' st', I l ρ' st' → P (execs C ss ρ' st')) : P (execs C (.cons (.for_ tg it body) ss) ρ st) := by
  obtain ⟨ρ2, s2, e2, j2⟩ := for_invX (C := C) (en := en) (body := body) (tg := tg) I hI l [] ρ st1 (fun d a r ρ st e hd => hs d a r ρ st (by simpa using e) hd) h0
  exact g_for hi e2 (k _ _ (by simpa using j2))
end
section
variable {T : Fn → Option FDef} {k n : Nat} {st : Store} {v : Val}
def RetBox (st : Store) (ts : List (List Int)) (r : SRes) : Prop := ∃ b g, r = SRes.ret (.box b) (st ++ g) ∧ st.length ≤ b ∧ (st ++ g)[b]? = some (.list (tv ts))
theorem c_functions_of (h1 : 1 ≤ n) (h2 : n ≤ 8) (h_functions_of : T .functions_of = some D.functions_of := by first | assumption | rfl) : callN T (k + 1) .functions_of [.int (n : Nat)] st = .ok (.lst (tv (allF n))) st := by
  have key : RetBox st (allF n) (execs (callN T k) D.functions_of.body [some (.int (n : Nat)), none, none, none, none] st) := by
    simp only [D.functions_of]
    refine g_set (v := .lst (tv [[]])) (st1 := st) (ρ' := [some (.int (n : Nat)), some (.lst (tv [[]])), none, none, none]) (w_lst (w_cons (w_tup w_nil rfl rfl) w_nil) rfl rfl) rfl ?_
    refine g_forR (n := n) (fun i ρ s => ∃ a2 a3 a4 v1 g, ρ = [some (.int (n : Nat)), some v1, a2, a3, a4] ∧ s = st ++ g ∧ ((i = 0 ∧ v1 = .lst (tv (allF i))) ∨ (0 < i ∧ ∃ b, v1 = .box b ∧ st.length ≤ b ∧ s[b]? = some (.list (tv (allF i)))))) (w_range (w_var rfl) rfl (by omega)) ⟨_, _, _, _, [], rfl, by simp, .inl ⟨rfl, rfl⟩⟩ ?_ ?_
    · rintro i hi ρ s ⟨a2, a3, a4, v1, g, rfl, rfl, hv⟩
      refine g_env (ρ' := [some (.int (n : Nat)), some v1, some (.int (i : Nat)), a3, a4]) rfl ?_
      generalize hs0 : st ++ g = s0 at *
      refine g_box (xs := []) (st1 := s0) (ρ' := [some (.int (n : Nat)), some v1, some (.int (i : Nat)), some (.box s0.length), a4]) (w_lst w_nil rfl rfl) rfl rfl ?_
      have hlen := allF_len i
      have hp : 2 ^ i ≤ 128 := Nat.pow_le_pow_right (n := 2) (by omega) (show i ≤ 7 by omega)
      obtain ⟨bx, hbx, hev⟩ : ∃ bx, (∀ c : Cell, bxOk (s0 ++ [c]) bx = true) ∧ ∀ a4 c, evi (callN T k) (.over (.var 1)) [some (.int (n : Nat)), some v1, some (.int (i : Nat)), some (.box s0.length), a4] (s0 ++ [c]) = .ok ((allF i).map (fun t => [.tup (iv t)]), bx) (s0 ++ [c]) := by
        rcases hv with ⟨_, rfl⟩ | ⟨_, b, rfl, hb1, hb2⟩
        · exact ⟨none, fun _ => rfl, fun a4 c => w_over (w_var rfl) o_overTv⟩
        · have hlt : b < s0.length := by
            rcases Nat.lt_or_ge b s0.length with h | h
            · exact h
            · rw [List.getElem?_eq_none h] at hb2; cases hb2
          have hget : ∀ c : Cell, (s0 ++ [c])[b]? = some (.list (tv (allF i))) := fun c => by rw [List.getElem?_append_left hlt]; exact hb2
          exact ⟨some (b, tv (allF i)), fun c => bx_ok (hget c), fun a4 c => over_box (w_var rfl) (hget c)⟩
      refine g_forX (l := allF i) (bx := bx) (fun d ρ s => d.length ≤ 128 ∧ ∃ a4, ρ = [some (.int (n : Nat)), some v1, some (.int (i : Nat)), some (.box s0.length), a4] ∧ s = s0 ++ [.list (tv (d.flatMap fun t => [t ++ [0], t ++ [1]]))]) (hev _ _) (fun d ρ s ⟨_, _, _, h⟩ => by rw [h]; exact hbx _) ⟨by simp, _, rfl, rfl⟩ ?_ ?_
      · rintro d t r ρ s hsp ⟨hd, a4, rfl, rfl⟩
        have hlen2 : ∀ l : List (List Int), (l.flatMap fun t => [t ++ [0], t ++ [1]]).length = 2 * l.length := fun l => by
          induction l with
          | nil => rfl
          | cons a l ih => rw [List.flatMap_cons, List.length_append, ih]; simp; omega
        have htl : t.length = i := allF_mem i t (by rw [hsp]; simp)
        have hd2 : d.length + 1 ≤ 128 := by
          have := congrArg List.length hsp
          simp at this
          omega
        refine g_env (ρ' := [some (.int (n : Nat)), some v1, some (.int (i : Nat)), some (.box s0.length), some (.tup (iv t))]) rfl ?_
        refine g_ext (n := s0.length) (xs := tv (d.flatMap fun t => [t ++ [0], t ++ [1]])) (ys := tv [t ++ [0], t ++ [1]]) (w_var rfl) (by simp) ?_ ?_ rfl (g_nil ⟨by simpa using hd2, _, rfl, ?_⟩)
        · exact w_lst (w_cons (w_bin (w_var rfl) (w_tup (w_cons ev_ci w_nil) rfl cv_t1) (o_addT (by simp; omega))) (w_cons (w_bin (w_var rfl) (w_tup (w_cons ev_ci w_nil) rfl cv_t1) (o_addT (by simp; omega))) w_nil)) rfl rfl
        · simp only [tv, List.length_map]
          have := hlen2 d
          rw [this]
          simp
          omega
        · simp [tv, List.flatMap_append]
      · rintro ρ s ⟨_, a4, rfl, rfl⟩
        refine g_set (v := .box s0.length) (st1 := s0 ++ [.list (tv (allF (i + 1)))]) (w_var rfl) rfl (g_nil ⟨_, _, _, _, g ++ [.list (tv (allF (i + 1)))], rfl, by rw [← hs0, List.append_assoc], .inr ⟨by omega, s0.length, rfl, by rw [← hs0]; simp, by simp⟩⟩)
    · rintro ρ s ⟨a2, a3, a4, v1, g, rfl, rfl, hv⟩
      rcases hv with ⟨h0, _⟩ | ⟨_, b, rfl, hb1, hb2⟩
      · omega
      · exact g_ret (s := st ++ g) (w_var rfl) ⟨b, g, rfl, hb1, hb2⟩
  obtain ⟨b, g, e, hb1, hb2⟩ := key
  rw [callN_succ h_functions_of, callD_eq rfl]
  have e' : execs (callN T k) D.functions_of.body (([.int (n : Nat)] : List Val).map some ++ List.replicate (D.functions_of.ns - D.functions_of.np) none) st = SRes.ret (.box b) (st ++ g) := e
  rw [e', endC_ret]
  show fin false st.length (.box b) (st ++ g) = _
  simp only [fin, hb2]
  rw [if_neg (by simp), if_neg (by omega)]
  simp
def evenF (b : Nat) : List (List Int) := (allF (2 ^ b)).filter evenB
theorem c_even_functions (h1 : 1 ≤ n) (h2 : n ≤ 3) (h_is_integer : T .is_integer = some D.is_integer := by first | assumption | rfl) (h_spread : T .spread = some D.spread := by first | assumption | rfl) (h_wave_of : T .wave_of = some D.wave_of := by first | assumption | rfl) (h_even : T .even = some D.even := by first | assumption | rfl) (h_functions_of : T .functions_of = some D.functions_of := by first | assumption | rfl) (h_even_functions : T .even_functions = some D.even_functions := by first | assumption | rfl) : callN T (k + 8) .even_functions [.int (n : Nat)] st = .ok (.lst (tv (evenF n))) st := by
  have hz := o_sizes h1 (show n ≤ 4 by omega)
  have hp : 2 ^ n ≤ 8 := Nat.pow_le_pow_right (n := 2) (by omega) (show n ≤ 3 by omega)
  have hp1 : 1 ≤ 2 ^ n := Nat.pos_of_ne_zero (by simp)
  have hs := size_pow h1 (show n ≤ 4 by omega)
  have hl := allF_len (2 ^ n)
  have hl2 : 2 ^ (2 ^ n) ≤ 256 := Nat.pow_le_pow_right (n := 2) (by omega) hp
  refine call_ret (d := D.even_functions) h_even_functions rfl rfl (q_skip (tf_not (tt_of (t := decide ((1 : Int) ≤ (n : Nat)) && decide (((n : Nat) : Int) ≤ 3)) ?_ (by simp; omega))) (q_ret ?_))
  · exact w_call (w_cons (w_var rfl) (w_cons ev_ci (w_cons ev_ci w_nil))) c_is_integer
  · unfold evenF
    refine w_lcf (l := allF (2 ^ n)) (en := fun t => [.tup (iv t)]) (p := evenB) (gg := fun t => .tup (iv t)) (w_over (w_call (w_cons (w_idx ev_sizes (w_bin (w_var rfl) ev_ci rfl) hz) w_nil) (c_functions_of hp1 hp)) o_overTv) (by omega) ?_ (fun _ _ _ _ => w_var rfl) (fun _ _ => rfl) cv_tid
    intro t ht s
    have := allF_mem _ t ht
    exact w_call (w_cons (w_var rfl) w_nil) (c_even (by rw [this]; exact hs))
theorem c_even_functions_bad (hv : plainV v = true) (hb : isIntV 1 3 v = false) (h_is_integer : T .is_integer = some D.is_integer := by first | assumption | rfl) (h_spread : T .spread = some D.spread := by first | assumption | rfl) (h_wave_of : T .wave_of = some D.wave_of := by first | assumption | rfl) (h_even : T .even = some D.even := by first | assumption | rfl) (h_functions_of : T .functions_of = some D.functions_of := by first | assumption | rfl) (h_even_functions : T .even_functions = some D.even_functions := by first | assumption | rfl) : callN T (k + 2) .even_functions [v] st = .exc 2 st := by
  refine call_exc (d := D.even_functions) (st1 := st) h_even_functions rfl (q_ifT (st1 := st) (R1 := .exc 2 st) ?_ q_raise rfl) (by simp)
  have h1 := c_is_integerV (T := T) (k := k) (st := st) (lo := 1) (hi := 3) hv
  rw [hb] at h1
  exact (tt_not ⟨w_call (w_cons (w_var rfl) (w_cons ev_ci (w_cons ev_ci w_nil))) h1⟩).h
end
theorem evenF_tab : evenF 1 = [] ∧ evenF 2 = [[0, 0, 0, 1], [0, 0, 1, 0], [0, 1, 0, 0], [0, 1, 1, 1], [1, 0, 0, 0], [1, 0, 1, 1], [1, 1, 0, 1], [1, 1, 1, 0]] ∧ evenF 3 = [] := by decide +kernel
/-! functions made from pairs of bits -/
def madeL (bend : List Nat) (m q : Nat) : List Int := (List.range 16).map fun p => ((((p % 4 % 2 * (p / 4 % 2) + p % 4 / 2 * (p / 4 / 2) : Nat) : Int) + (ni bend).getD (p / 4) 0 + (oddN m p : Nat)) + (q : Nat)) % 2
theorem made_tab : ∀ a < 2, ∀ b < 2, ∀ c < 2, ∀ d < 2, ∀ m < 16, ∀ q < 2, (evenB (madeL [a, b, c, d] m q) && gapL (madeL [a, b, c, d] m q) == 6) = true := by decide +kernel
end Sw
end

section
/-! SwTv: a tuner changed at random. -/
namespace Sw
open PySem (Str)
section
variable {xs : List Int}
theorem least_gap (h : IsF xs) : minL ((waveL xs).map fun w => (xs.length : Int) - absI w) / 2 = gapL xs := by
  have hl := waveL_len h.1
  have h0 := size_pos h.1
  have hne : (waveL xs).map (fun w => (xs.length : Int) - absI w) ≠ [] := by
    intro e
    have := congrArg List.length e
    simp at this
    rw [this] at hl
    simp at hl
    omega
  have e : minL ((waveL xs).map fun w => (xs.length : Int) - absI w) = xs.length - Hh xs := by
    obtain ⟨u, hu, eu⟩ := H_att h.1
    have h1 := minL_le (l := (waveL xs).map fun w => (xs.length : Int) - absI w) (List.mem_map.mpr ⟨W xs u, wave_get h.1 hu, rfl⟩)
    have a1 : Hh xs ≤ absI (W xs u) := by
      have := H_ge h.1 hu
      unfold absI
      split <;> omega
    obtain ⟨w, hw, ew⟩ := List.mem_map.mp (minL_mem hne)
    rw [wave_range h.1] at hw
    obtain ⟨u', hu', rfl⟩ := List.mem_map.mp hw
    have := H_ge h.1 (List.mem_range.mp hu')
    have a2 : absI (W xs u') ≤ Hh xs := by unfold absI; split <;> omega
    omega
  rw [e]
  rfl
end
abbrev sto (rest : Store) (m : Nat) (kp : Option Int) (g : Nat) (t : List Val) (P Q : List (List Int)) : Store := .list t :: (rest.set m (.tun (some (tv P)) kp g) ++ [.list (tv Q)])
section
variable {rest : Store} {m : Nat} {kp : Option Int} {g : Nat} {t : List Val} {P Q P' Q' : List (List Int)}
theorem sto_tun (hm : m < rest.length) : (sto rest m kp g t P Q)[m + 1]? = some (.tun (some (tv P)) kp g) := by
  rw [List.getElem?_cons_succ, List.getElem?_append_left (by simpa using hm), List.getElem?_set_self hm]
theorem sto_tr : (sto rest m kp g t P Q)[rest.length + 1]? = some (.list (tv Q)) := by
  rw [List.getElem?_cons_succ, List.getElem?_append_right (by simp)]
  simp
theorem sto_setT (hm : m < rest.length) : (sto rest m kp g t P Q).set (m + 1) (.tun (some (tv P')) kp g) = sto rest m kp g t P' Q := by
  show Cell.list t :: (rest.set m _ ++ [Cell.list (tv Q)]).set m _ = _
  rw [List.set_append_left _ _ (by simpa using hm), List.set_set]
theorem sto_setR : (sto rest m kp g t P Q).set (rest.length + 1) (.list (tv Q')) = sto rest m kp g t P Q' := by
  show Cell.list t :: (rest.set m _ ++ [Cell.list (tv Q)]).set rest.length _ = _
  rw [List.set_append_right _ _ (by simp)]
  simp
theorem set_same {c : Cell} (h : rest[m]? = some c) : rest.set m c = rest := by
  apply List.ext_getElem?
  intro i
  by_cases e : m = i
  · subst e
    rw [List.getElem?_set_self (lt_of_get h), h]
  · rw [List.getElem?_set_ne e]
end
/-- the law's list and the tuner's path, made longer -/
structure More (L : Nat) (bs more : List (List Int)) (j : Nat) (t t' : List Val) : Prop where
  f : ∀ b ∈ more, IsF b ∧ b.length = L
  l : more.length ≤ j
  tl : t'.length ≤ t.length + 1 + 2 * j
def RetT (L : Nat) (bs : List (List Int)) (rest : Store) (m : Nat) (kp : Option Int) (g : Nat) (t : List Val) (r : SRes) : Prop := ∃ more t', More L bs more 5 t t' ∧ r = .ret (.box (rest.length + 1)) (sto rest m kp g t' (bs ++ more) (bs ++ more))
section
variable {C : Orc} {ρ : Env} {st st1 : Store} {c : Ex} {sx ss : Sts} {P : SRes → Prop}
theorem g_pass (h : ev C c ρ st = .ok (.bl false) st1) (k : P (execs C ss ρ st1)) : P (execs C (.cons (.ife c sx .nil) ss) ρ st) := g_of (q_ifF h q_nil rfl) k
theorem co_neT {xs ys : List Int} (h : xs = ys) : cmpop .ne (.tup (iv xs)) (.tup (iv ys)) = some false := by rw [o_neT]; simp [h]
end
section
variable {T : Fn → Option FDef} {k : Nat} {rest : Store} {m L : Nat} {kp : Option Int} {g : Nat} {t : List Val} {bs : List (List Int)} {ns : List Int}
local macro_rules | `(tactic| bv_omega) => `(tactic| first | (simp only [setAll, wipeAll, List.set_cons_succ, List.set_cons_zero]; exact rfl) | exact rfl)
local macro_rules | `(tactic| array_mem_dec) => `(tactic| first
  | exact idp (by assumption)
  | omega
  | (refine ⟨?_, ?_⟩ <;> omega)
  | exact b_range (by omega)
  | exact b_map (b_range (by omega))
  | exact b_map (by omega)
  | exact b_filter (by omega)
  | exact b_filter (b_range (by omega))
  | exact isF_size (by assumption)
  | exact isF_ne (by assumption)
  | exact wave_ne (by assumption)
  | exact wave_ne (isF_size (by assumption))
  | (simp only [List.length_map, List.length_range, List.length_cons, List.length_nil, List.length_append, rep_len]; omega)
  | (simp only [List.length_cons, List.length_nil, rep_len]; decide)
  | (refine ⟨?_, ?_⟩ <;> (simp only [List.length_cons, List.length_nil, rep_len]; decide))
  | fail)
local macro_rules | `(tactic| array_get_dec) => `(tactic| repeat' first
  | (guard_target = ev _ _ _ _ = _; first
    | ((with_reducible apply w_var); exact rfl)
    | with_reducible exact ev_ci
    | with_reducible apply w_call
    | with_reducible apply x_bin
    | with_reducible apply x_idx
    | with_reducible apply x_b1
    | with_reducible apply x_lc
    | with_reducible apply x_lcf
    | with_reducible apply x_cmp
    | with_reducible exact ev_cb
    | with_reducible exact ev_cn
    | with_reducible exact ev_cs
    | with_reducible exact ev_sizes
    | with_reducible exact ev_fv
    | with_reducible apply x_chain
    | with_reducible apply w_neg
    | with_reducible apply w_not
    | with_reducible apply w_and
    | with_reducible apply w_or
    | with_reducible apply w_ife
    | with_reducible apply w_b2
    | with_reducible apply w_m1
    | with_reducible apply w_isi
    | with_reducible apply w_tup
    | with_reducible apply w_lst
    | with_reducible apply w_sl)
  | (guard_target = TF _ _ _ _; first | with_reducible apply tf_or | with_reducible apply tf_not | with_reducible apply tf_neW | with_reducible apply tf_isnotW | with_reducible apply tf_ofW)
  | (guard_target = TT _ _ _ _; first | with_reducible apply tt_and | with_reducible apply tt_not | with_reducible apply tt_eqW | with_reducible apply tt_isW | with_reducible apply tt_ofW)
  | (guard_target = SameV _ _; first | with_reducible apply sv_int | with_reducible apply sv_tup | with_reducible apply sv_lst | with_reducible apply sv_tv | with_reducible apply sv_bl | with_reducible apply sv_blv | apply sv_lst | apply sv_tv | apply sv_tup)
  | (guard_target = callN _ _ _ _ _ = _; sizeOf_list_dec)
  | (guard_target = evs _ _ _ _ = _; first | with_reducible exact w_nil | with_reducible apply w_cons)
  | (guard_target = evi _ _ _ _ = _; first | with_reducible apply w_range | with_reducible apply x_over | with_reducible apply x_zip | with_reducible apply x_enum)
  | (guard_target = evo _ _ _ _ = _; first | with_reducible exact w_on | with_reducible apply w_os)
  | (guard_target = bo _ _ _ = _; first
    | with_reducible exact xd_add | with_reducible exact xd_sub
    | with_reducible exact xd_modN (by omega) | with_reducible exact xd_divN (by omega) | with_reducible exact xd_mod (by omega) | with_reducible exact xd_div (by omega)
    | with_reducible exact xd_mulL (by unfold Small; omega) | with_reducible exact xd_mulR (by unfold Small; omega)
    | with_reducible exact xd_addL (by array_mem_dec) | with_reducible exact xd_addT (by array_mem_dec) | with_reducible exact xd_addLT (by array_mem_dec) | with_reducible apply xd_mulT | with_reducible apply xd_mulT'
    | with_reducible apply xd_mulL
    | exact x_modN (by omega) | exact x_divN (by omega) | exact x_div (by omega) | exact x_mod (by omega) | exact x_add | exact x_sub | exact x_addL (by array_mem_dec) | exact x_addT (by array_mem_dec) | exact x_addLT (by array_mem_dec) | apply x_mulT)
  | (guard_target = co _ _ _ = _; first
    | with_reducible exact xd_eqI | with_reducible exact xd_neI | with_reducible exact xd_lt | with_reducible exact xd_le | with_reducible exact xd_gt | with_reducible exact xd_ge
    | with_reducible exact xd_in | with_reducible exact xd_notin | with_reducible exact xd_inT | with_reducible exact xd_notinT
    | with_reducible exact xd_eqT | with_reducible exact xd_neT | with_reducible exact xd_eqL | with_reducible exact xd_neL | with_reducible exact xd_eqB | with_reducible exact xd_neB | with_reducible exact xd_isB | with_reducible exact xd_isnotB
    | exact x_in | exact x_notin | exact x_inT | exact x_notinT | exact x_eqT | exact x_neT | exact x_eqL | exact x_neL)
  | (guard_target = oix _ _ = _; first | apply x_sgn | with_reducible apply xd_ixT | with_reducible apply xd_ixL | with_reducible apply xd_ixTv | apply x_ixT | apply x_ixL | apply x_ixTv | with_reducible refine xd_ixT' ?_ | with_reducible refine xd_ixL' ?_)
  | (guard_target = o1 _ _ = _; first
    | with_reducible exact xd_lenM | with_reducible exact xd_len | with_reducible exact xd_lenT | with_reducible exact xd_lenTv | with_reducible exact xd_tuple | with_reducible exact xd_list | with_reducible exact xd_sum | with_reducible exact xd_sumT | with_reducible exact xd_all
    | with_reducible apply xd_max | with_reducible apply xd_maxT | with_reducible apply xd_min | with_reducible apply xd_minT | with_reducible apply xd_sorted | with_reducible exact xd_lenV | with_reducible exact xd_listL | with_reducible exact xd_tupleT
    | exact x_tuple | exact x_len | exact x_lenTv | exact x_sum | apply x_max | apply x_min | apply x_sorted)
  | (guard_target = ovr _ _ = _; first | with_reducible exact x_overL | with_reducible exact x_overT | with_reducible exact x_overTv | with_reducible exact x_overV | with_reducible exact x_overVT)
  | (guard_target = zpo _ _ = _; first | with_reducible apply x_zipTT | with_reducible apply x_zipLL | with_reducible apply x_zipTL)
  | (guard_target = eno _ _ = _; first | with_reducible exact x_enumT | with_reducible exact x_enumL)
  | (guard_target = Val.lst _ = _; first
    | with_reducible exact cv_id | with_reducible exact cv_int | with_reducible exact cv_bl | with_reducible exact cv_tid | with_reducible exact cv_tup
    | with_reducible exact cv_l0 | with_reducible exact cv_l1 | with_reducible exact cv_l2 | with_reducible exact cv_l3 | with_reducible exact cv_l4 | with_reducible exact cv_l5 | with_reducible exact cv_lt1 | with_reducible exact cv_lt2 | exact cv_int | exact rfl)
  | (guard_target = Val.tup _ = _; first | with_reducible exact cv_t0 | with_reducible exact cv_t1 | with_reducible exact cv_t2 | with_reducible exact cv_t3 | with_reducible exact cv_t4 | with_reducible exact cv_t8 | exact rfl)
  | (guard_target = ∀ _, setAll _ _ _ = _; intro a; bv_omega)
  | (intro a ha; guard_target = Val.pure _ = _; exact rfl)
  | with_reducible exact cv_iteI | with_reducible exact cv_iteT | with_reducible exact cv_iteL | with_reducible exact cv_iteB
  | ((fail_if_success (guard_target = ev _ _ _ _ = _)); exact rfl)
  | exact castS
  | exact idp (by assumption)
  | exact isF_size (by assumption)
  | exact isF_ne (by assumption)
  | exact wave_ne (by assumption)
  | exact wave_ne (isF_size (by assumption))
  | (intro a ha; (with_reducible replace ha := List.mem_range.mp ha); intro s)
  | intro _
  | array_mem_dec)
local macro_rules | `(tactic| sizeOf_list_dec) => `(tactic| first | apply c_odd | apply c_cross | apply c_bits | apply c_bit_count | apply c_common | apply c_exclusive)
theorem last_of {l : List (List Int)} (h : l ≠ []) : ∃ p x, l = p ++ [x] := ⟨l.dropLast, l.getLast h, (List.dropLast_concat_getLast h).symm⟩
theorem c_tuned (ns : List Int) (hs : rest[m]? = some (.tun (some (tv bs)) kp g)) (hne : bs ≠ []) (hF : ∀ b ∈ bs, IsF b ∧ b.length = L) (hbl : bs.length ≤ 100) (ht : t.length < 60000) (h_leaned : T .leaned = some D.leaned := by first | assumption | rfl) (h_opposite : T .opposite = some D.opposite := by first | assumption | rfl) (h_moved : T .moved = some D.moved := by first | assumption | rfl) (h_is_integer : T .is_integer = some D.is_integer := by first | assumption | rfl) (h_check_mask : T .check_mask = some D.check_mask := by first | assumption | rfl) (h_bit_count : T .bit_count = some D.bit_count := by first | assumption | rfl) (h_common : T .common = some D.common := by first | assumption | rfl) (h_exclusive : T .exclusive = some D.exclusive := by first | assumption | rfl) (h_straight : T .straight = some D.straight := by first | assumption | rfl) (h_spread : T .spread = some D.spread := by first | assumption | rfl) (h_wave_of : T .wave_of = some D.wave_of := by first | assumption | rfl) (h_height : T .height = some D.height := by first | assumption | rfl) (h_gap_of : T .gap_of = some D.gap_of := by first | assumption | rfl) (h_l_cell_at : T .l_cell_at = some D.law_cell_at := by first | assumption | rfl) (h_l_mixed : T .l_mixed = some D.law_mixed := by first | assumption | rfl) (h_l_draw : T .l_draw = some D.law_draw := by first | assumption | rfl) (h_l_bits_in : T .l_bits_in = some D.law_bits_in := by first | assumption | rfl) (h_l_odd : T .l_odd = some D.law_odd := by first | assumption | rfl) (h_l_like : T .l_like = some D.law_like := by first | assumption | rfl) (h_l_likes : T .l_likes = some D.law_likes := by first | assumption | rfl) (h_l_cross : T .l_cross = some D.law_cross := by first | assumption | rfl) (h_t_flip : T .t_flip = some D.t_flip := by first | assumption | rfl) (h_t_shift : T .t_shift = some D.t_shift := by first | assumption | rfl) (h_t_tilt : T .t_tilt = some D.t_tilt := by first | assumption | rfl) (h_t_turn : T .t_turn = some D.t_turn := by first | assumption | rfl) (h_l_tuned : T .l_tuned = some D.law_tuned := by first | assumption | rfl) :
    ∃ more t', More L bs more 5 t t' ∧ callN T (k + 10) .l_tuned [sc ns, .box 0, .box (m + 1), .lst (tv bs)] (.list t :: rest) = .ok (.lst (tv (bs ++ more))) (.list t' :: rest.set m (.tun (some (tv (bs ++ more))) kp g)) := by
  have hm := lt_of_get hs
  obtain ⟨b0, br, hb0⟩ : ∃ b0 br, bs = b0 :: br := by
    cases bs with
    | nil => exact absurd rfl hne
    | cons a b => exact ⟨a, b, rfl⟩
  have hL0 := hF b0 (by rw [hb0]; simp)
  have hLs : SizeOk L := by rw [← hL0.2]; exact hL0.1.1
  have hL16 := size_le hLs
  have hL2 := size_pos hLs
  have key : RetT L bs rest m kp g t (execs (callN T (k + 9)) D.law_tuned.body [some (sc ns), some (.box 0), some (.box (m + 1)), some (.lst (tv bs)), none, none, none, none, none, none, none, none, none] (.list t :: rest)) := by
    simp only [D.law_tuned]
    refine g_box (xs := tv bs) (st1 := .list t :: rest) (st2 := sto rest m kp g t bs bs) (ρ' := [some (sc ns), some (.box 0), some (.box (m + 1)), some (.lst (tv bs)), some (.box (rest.length + 1)), none, none, none, none, none, none, none, none]) (w_b1 (w_var rfl) rfl) rfl (by rw [sto, set_same hs]; rfl) ?_
    refine g_set (v := .int (L : Nat)) (st1 := sto rest m kp g t bs bs) ?_ (by bv_omega) ?_
    · refine w_b1 (idx_box (n := rest.length + 1) (r := .tup (iv b0)) (w_var rfl) ev_ci sto_tr (by rw [hb0]; exact ix_headT)) ?_
      rw [← hL0.2]
      exact o_lenT
    obtain ⟨q, t1, hq, ht1, e1⟩ := c_draw (T := T) (k := k + 6) ns t (rest.set m (.tun (some (tv bs)) kp g) ++ [.list (tv bs)]) (by omega) (many := 6) (by omega)
    have hi : evi (callN T (k + 9)) (.range (.call .l_draw (.cons (.var 0) (.cons (.var 1) (.cons (.ci 6) .nil))))) [some (sc ns), some (.box 0), some (.box (m + 1)), some (.lst (tv bs)), some (.box (rest.length + 1)), some (.int (L : Nat)), none, none, none, none, none, none, none] (sto rest m kp g t bs bs) = .ok ((List.range q).map (fun i => [.int (i : Nat)]), none) (sto rest m kp g t1 bs bs) := w_range (w_call (w_cons (w_var rfl) (w_cons (w_var rfl) (w_cons ev_ci w_nil))) e1) rfl (by omega)
    refine g_forR (n := q) (fun j ρ s => ∃ more t', More L bs more j t t' ∧ (∃ a6 a7 a8 a9 a10, ρ = [some (sc ns), some (.box 0), some (.box (m + 1)), some (.lst (tv bs)), some (.box (rest.length + 1)), some (.int (L : Nat)), a6, a7, a8, a9, a10, none, none]) ∧ s = sto rest m kp g t' (bs ++ more) (bs ++ more)) hi ⟨[], t1, More.mk (fun _ h => (by cases h)) (by simp) (by omega), ⟨_, _, _, _, _, rfl⟩, by simp⟩ ?_ ?_
    · rintro j hj ρ s ⟨more, t', M, ⟨a6, a7, a8, a9, a10, rfl⟩, rfl⟩
      refine g_env (by bv_omega) ?_
      have hall : ∀ b ∈ bs ++ more, IsF b ∧ b.length = L := fun b hb => by
        rcases List.mem_append.mp hb with h | h
        · exact hF b h
        · exact M.f b h
      obtain ⟨pre, xs, hpx⟩ := last_of (l := bs ++ more) (by rw [hb0]; simp)
      obtain ⟨hx, hxl⟩ := hall xs (by rw [hpx]; simp)
      have hprl : pre.length < 900 := by
        have := congrArg List.length hpx
        have := M.l
        simp at *
        omega
      have htl := M.tl
      obtain ⟨p, t2, hp, ht2, e2⟩ := c_draw (T := T) (k := k + 6) ns t' (rest.set m (.tun (some (tv (bs ++ more))) kp g) ++ [.list (tv (bs ++ more))]) (by omega) (many := L) (by omega)
      obtain ⟨kd, t3, hkd, ht3, e3⟩ := c_draw (T := T) (k := k + 6) ns t2 (rest.set m (.tun (some (tv (bs ++ more))) kp g) ++ [.list (tv (bs ++ more))]) (by omega) (many := 4) (by omega)
      refine g_par (vs := [.tup (iv xs), .int (p : Nat)]) (st1 := sto rest m kp g t2 (bs ++ more) (bs ++ more)) (w_cons (idx_box (n := rest.length + 1) (w_var rfl) (w_neg ev_ci) sto_tr (by rw [hpx]; exact ix_lastT)) (w_cons (w_call (w_cons (w_var rfl) (w_cons (w_var rfl) (w_cons (w_var rfl) w_nil))) e2) w_nil)) rfl (by bv_omega) ?_
      refine g_set (v := .int (kd : Nat)) (st1 := sto rest m kp g t3 (bs ++ more) (bs ++ more)) (w_call (w_cons (w_var rfl) (w_cons (w_var rfl) (w_cons ev_ci w_nil))) e3) (by bv_omega) ?_
      have hpx' : p < xs.length := by omega
      have hM : ∀ zs : List Int, IsF zs → zs.length = L → More L bs (more ++ [zs]) (j + 1) t t3 := fun zs h1 h2 => by
        refine ⟨fun b hb => ?_, by have := M.l; simp; omega, by omega⟩
        rcases List.mem_append.mp hb with h | h
        · exact M.f b h
        · rw [List.mem_singleton] at h; subst h; exact ⟨h1, h2⟩
      have hbm : bs.length + more.length < 900 := by have := M.l; omega
      have apx : ∀ (zs : List Int), (sto rest m kp g t3 (bs ++ more) (bs ++ more)).set (rest.length + 1) (.list (tv (bs ++ more) ++ [.tup (iv zs)])) = sto rest m kp g t3 (bs ++ more) (bs ++ more ++ [zs]) := fun zs => by rw [← tv_snoc]; exact sto_setR
      have hlx : (tv (bs ++ more)).length < 1000 := by rw [tv_len, List.length_append]; omega
      have last : ∀ (zs : List Int) (ρ : Env), ρ[4]? = some (some (.box (rest.length + 1))) → ∀ Q, ev (callN T (k + 9)) (.idx (.var 4) (.neg (.ci 1))) ρ (sto rest m kp g t3 Q (bs ++ more ++ [zs])) = .ok (.tup (iv zs)) (sto rest m kp g t3 Q (bs ++ more ++ [zs])) := fun zs ρ h Q => idx_box (n := rest.length + 1) (w_var h) (w_neg ev_ci) sto_tr ix_lastT
      have hcs : kd = 0 ∨ kd = 1 ∨ kd = 2 ∨ kd = 3 := by omega
      have stT : ∀ Q, (sto rest m kp g t3 (bs ++ more) Q)[m + 1]? = some (.tun (some (tv (pre ++ [xs]))) kp g) := fun Q => by rw [sto_tun hm, hpx]
      have stS : ∀ zs Q, (sto rest m kp g t3 (bs ++ more) Q).set (m + 1) (.tun (some (tv (pre ++ [xs] ++ [zs]))) kp g) = sto rest m kp g t3 (bs ++ more ++ [zs]) Q := fun zs Q => by rw [sto_setT hm, hpx]
      have fl : ∀ (c j : Nat) (ρ : Env) (s : Store), ρ[7]? = some (some (.int (c : Nat))) → ev (callN T (k + 9)) (.cmp .eq (.var 7) (.ci (j : Nat))) ρ s = .ok (.bl (((c : Nat) : Int) == (j : Nat))) s := fun c j ρ s h => x_cmp (w_var h) ev_ci xd_eqI
      rcases hcs with rfl | rfl | rfl | rfl
      · -- flip
        have hz := isF_flip hx hpx'
        have hzl : (flipL xs p).length = L := by rw [flip_len hpx', hxl]
        refine g_if (J := fun ρ s => (∃ a10, ρ = [some (sc ns), some (.box 0), some (.box (m + 1)), some (.lst (tv bs)), some (.box (rest.length + 1)), some (.int (L : Nat)), some (.int (j : Nat)), some (.int (0 : Nat)), some (.tup (iv xs)), some (.int (p : Nat)), a10, none, none]) ∧ s = sto rest m kp g t3 (bs ++ more ++ [flipL xs p]) (bs ++ more ++ [flipL xs p])) (b := true) (fl 0 0 _ _ rfl) (fun _ => ?_) (fun h => by cases h) ?_
        · have hs1 : opSl none (some (p : Int)) (.tup (iv xs)) = some (.tup (iv (xs.take p))) := o_takeT hpx'
          have hs2 : opSl (some ((p : Int) + 1)) none (.tup (iv xs)) = some (.tup (iv (xs.drop (p + 1)))) := by
            have := o_dropT (xs := xs) (h := p + 1) (by omega) (by omega)
            simpa using this
          refine g_app (n := rest.length + 1) (v := .tup (iv (flipL xs p))) (w_var rfl) sto_tr ?_ rfl hlx (apx _) ?_
          · unfold flipL
            exact x_bin (x_bin (w_sl (w_var rfl) w_on (w_os (w_var rfl)) hs1) (w_tup (w_cons (x_bin ev_ci (x_idx (w_var rfl) (w_var rfl) (xd_ixT hpx')) xd_sub) w_nil) rfl cv_t1) (xd_addT (by simp; omega))) (w_sl (w_var rfl) (w_os (x_bin (w_var rfl) ev_ci xd_add)) w_on hs2) (xd_addT (by simp; omega))
          have hwl := waveL_len hz.1
          refine g_set (v := .int (gapL (flipL xs p))) (st1 := sto rest m kp g t3 (bs ++ more) (bs ++ more ++ [flipL xs p])) ?_ (by bv_omega) ?_
          · rw [← least_gap hz, hzl]
            refine x_bin (x_b1 (x_lc (l := waveL (flipL xs p)) (gg := fun w => .int ((L : Int) - absI w)) (x_over (w_call (w_cons (last _ _ rfl _) w_nil) (c_likes hz)) x_overT) (by omega) (fun _ => by bv_omega) ?_ (fun _ _ => rfl) cv_int) (xd_min ?_)) ev_ci (xd_div (by omega))
            · intro w hw s
              exact x_bin (w_var rfl) (w_b2 (w_var rfl) (x_bin ev_ci (w_var rfl) xd_sub) rfl) xd_sub
            · intro e
              have := congrArg List.length e
              rw [List.length_map, hwl, hzl, List.length_nil] at this
              omega
          refine g_pass (st1 := sto rest m kp g t3 (bs ++ more ++ [flipL xs p]) (bs ++ more ++ [flipL xs p])) ?_ (g_nil ⟨⟨_, rfl⟩, rfl⟩)
          have hc := c_flip (T := T) (k := k + 1) (stT (bs ++ more ++ [flipL xs p])) hprl hx hpx'
          rw [stS] at hc
          refine w_cmp (w_meth (w_var rfl) (stT _) (w_cons (w_var rfl) w_nil) hc) (w_var rfl) ?_
          have := x_neI (i := gapL (flipL xs p)) (j := gapL (flipL xs p))
          rw [co_eq] at this
          simpa using this
        rintro ρ s ⟨⟨a10, rfl⟩, rfl⟩
        refine g_pass (st1 := sto rest m kp g t3 (bs ++ more ++ [flipL xs p]) (bs ++ more ++ [flipL xs p])) (w_orF (w_andF (fl 0 1 _ _ rfl)) (w_andF (fl 0 2 _ _ rfl))) ?_
        refine g_pass (st1 := sto rest m kp g t3 (bs ++ more ++ [flipL xs p]) (bs ++ more ++ [flipL xs p])) (w_andF (fl 0 3 _ _ rfl)) (g_nil ⟨more ++ [flipL xs p], t3, hM _ hz hzl, ⟨_, _, _, _, _, rfl⟩, by rw [List.append_assoc]⟩)
      · -- shift
        have hz := isF_moved hx hpx'
        have hzl : (movedL xs p).length = L := by rw [movedL_len, hxl]
        refine g_if (J := fun ρ s => ρ = [some (sc ns), some (.box 0), some (.box (m + 1)), some (.lst (tv bs)), some (.box (rest.length + 1)), some (.int (L : Nat)), some (.int (j : Nat)), some (.int (1 : Nat)), some (.tup (iv xs)), some (.int (p : Nat)), a10, none, none] ∧ s = sto rest m kp g t3 (bs ++ more) (bs ++ more ++ [movedL xs p])) (b := false) (fl 1 0 _ _ rfl) (fun h => by cases h) (fun _ => ?_) ?_
        · refine g_if (b := true) (fl 1 1 _ _ rfl) (fun _ => ?_) (fun h => by cases h) (fun _ _ h => g_nil h)
          refine g_app (n := rest.length + 1) (v := .tup (iv (movedL xs p))) (w_var rfl) sto_tr ?_ rfl hlx (apx _) (g_nil ⟨rfl, rfl⟩)
          unfold movedL
          rw [hxl]
          refine x_b1 (x_lc (l := List.range L) (gg := fun i => .int (xs.getD (i ^^^ p) 0)) (w_range (w_var rfl) rfl (by omega)) (b_range (by omega)) (fun _ => by bv_omega) ?_ (fun _ _ => rfl) cv_int) xd_tuple
          intro i hi s
          have hi := List.mem_range.mp hi
          exact x_idx (w_var rfl) (w_call (w_cons (w_var rfl) (w_cons (w_var rfl) w_nil)) (c_cross (by omega) (by omega))) (xd_ixT (xor_lt hx.1 (by omega) hpx'))
        rintro ρ s ⟨rfl, rfl⟩
        have hc := c_tshift (T := T) (k := k + 1) (stT (bs ++ more ++ [movedL xs p])) hprl hx hpx'
        rw [stS] at hc
        refine g_pass (st1 := sto rest m kp g t3 (bs ++ more ++ [movedL xs p]) (bs ++ more ++ [movedL xs p])) (w_orF (w_andT (fl 1 1 _ _ rfl) (w_cmp (w_meth (w_var rfl) (stT _) (w_cons (w_var rfl) w_nil) hc) (last _ _ rfl _) (co_neT rfl))) (w_andF (fl 1 2 _ _ rfl))) ?_
        refine g_pass (st1 := sto rest m kp g t3 (bs ++ more ++ [movedL xs p]) (bs ++ more ++ [movedL xs p])) (w_andF (fl 1 3 _ _ rfl)) (g_nil ⟨more ++ [movedL xs p], t3, hM _ hz hzl, ⟨_, _, _, _, _, rfl⟩, by rw [List.append_assoc]⟩)
      · -- tilt
        have hz := isF_lean hx (m := p)
        have hzl : (leanL xs p).length = L := by rw [lean_len, hxl]
        refine g_if (J := fun ρ s => ρ = [some (sc ns), some (.box 0), some (.box (m + 1)), some (.lst (tv bs)), some (.box (rest.length + 1)), some (.int (L : Nat)), some (.int (j : Nat)), some (.int (2 : Nat)), some (.tup (iv xs)), some (.int (p : Nat)), a10, none, none] ∧ s = sto rest m kp g t3 (bs ++ more) (bs ++ more ++ [leanL xs p])) (b := false) (fl 2 0 _ _ rfl) (fun h => by cases h) (fun _ => ?_) ?_
        · refine g_if (b := false) (fl 2 1 _ _ rfl) (fun h => by cases h) (fun _ => ?_) (fun _ _ h => g_nil h)
          refine g_if (b := true) (fl 2 2 _ _ rfl) (fun _ => ?_) (fun h => by cases h) (fun _ _ h => g_nil h)
          refine g_app (n := rest.length + 1) (v := .tup (iv (leanL xs p))) (w_var rfl) sto_tr ?_ rfl hlx (apx _) (g_nil ⟨rfl, rfl⟩)
          unfold leanL
          refine x_b1 (x_lc (l := List.range xs.length) (gg := fun i => .int ((xs.getD i 0 + (oddN p i : Nat)) % 2)) (x_enum (w_var rfl) x_enumT) (b_range (by omega)) (fun _ => by bv_omega) ?_ (fun _ _ => rfl) cv_int) xd_tuple
          intro i hi s
          have hi := List.mem_range.mp hi
          exact x_bin (x_bin (w_var rfl) (w_call (w_cons (w_var rfl) (w_cons (w_var rfl) w_nil)) (c_odd (by omega) (by omega))) xd_add) ev_ci (xd_mod (by omega))
        rintro ρ s ⟨rfl, rfl⟩
        have hc := c_ttilt (T := T) (k := k + 1) (stT (bs ++ more ++ [leanL xs p])) hprl hx hpx'
        rw [stS] at hc
        refine g_pass (st1 := sto rest m kp g t3 (bs ++ more ++ [leanL xs p]) (bs ++ more ++ [leanL xs p])) (w_orF (w_andF (fl 2 1 _ _ rfl)) (w_andT (fl 2 2 _ _ rfl) (w_cmp (w_meth (w_var rfl) (stT _) (w_cons (w_var rfl) w_nil) hc) (last _ _ rfl _) (co_neT rfl)))) ?_
        refine g_pass (st1 := sto rest m kp g t3 (bs ++ more ++ [leanL xs p]) (bs ++ more ++ [leanL xs p])) (w_andF (fl 2 3 _ _ rfl)) (g_nil ⟨more ++ [leanL xs p], t3, hM _ hz hzl, ⟨_, _, _, _, _, rfl⟩, by rw [List.append_assoc]⟩)
      · -- turn
        have hz := isF_opp hx
        have hzl : (oppL xs).length = L := by rw [oppL_len, hxl]
        refine g_if (J := fun ρ s => ρ = [some (sc ns), some (.box 0), some (.box (m + 1)), some (.lst (tv bs)), some (.box (rest.length + 1)), some (.int (L : Nat)), some (.int (j : Nat)), some (.int (3 : Nat)), some (.tup (iv xs)), some (.int (p : Nat)), a10, none, none] ∧ s = sto rest m kp g t3 (bs ++ more) (bs ++ more ++ [oppL xs])) (b := false) (fl 3 0 _ _ rfl) (fun h => by cases h) (fun _ => ?_) ?_
        · refine g_if (b := false) (fl 3 1 _ _ rfl) (fun h => by cases h) (fun _ => ?_) (fun _ _ h => g_nil h)
          refine g_if (b := false) (fl 3 2 _ _ rfl) (fun h => by cases h) (fun _ => ?_) (fun _ _ h => g_nil h)
          refine g_app (n := rest.length + 1) (v := .tup (iv (oppL xs))) (w_var rfl) sto_tr ?_ rfl hlx (apx _) (g_nil ⟨rfl, rfl⟩)
          unfold oppL
          refine x_b1 (x_lc (l := xs) (gg := fun x => .int (1 - x)) (x_over (w_var rfl) x_overT) (by omega) (fun _ => by bv_omega) ?_ (fun _ _ => rfl) cv_int) xd_tuple
          intro i hi s
          exact x_bin ev_ci (w_var rfl) xd_sub
        rintro ρ s ⟨rfl, rfl⟩
        have hc := c_tturn (T := T) (k := k + 1) (stT (bs ++ more ++ [oppL xs])) hprl hx
        rw [stS] at hc
        refine g_pass (st1 := sto rest m kp g t3 (bs ++ more) (bs ++ more ++ [oppL xs])) (w_orF (w_andF (fl 3 1 _ _ rfl)) (w_andF (fl 3 2 _ _ rfl))) ?_
        refine g_pass (st1 := sto rest m kp g t3 (bs ++ more ++ [oppL xs]) (bs ++ more ++ [oppL xs])) (w_andT (fl 3 3 _ _ rfl) (w_cmp (w_meth (w_var rfl) (stT _) w_nil hc) (last _ _ rfl _) (co_neT rfl))) (g_nil ⟨more ++ [oppL xs], t3, hM _ hz hzl, ⟨_, _, _, _, _, rfl⟩, by rw [List.append_assoc]⟩)
    · rintro ρ s ⟨more, t', M, ⟨a6, a7, a8, a9, a10, rfl⟩, rfl⟩
      exact g_ret (s := sto rest m kp g t' (bs ++ more) (bs ++ more)) (w_var rfl) ⟨more, t', More.mk M.f (by have := M.l; omega) (by have := M.tl; omega), rfl⟩
  obtain ⟨more, t', M, e⟩ := key
  refine ⟨more, t', M, ?_⟩
  rw [callN_succ h_l_tuned, callD_eq rfl]
  have e' : execs (callN T (k + 9)) D.law_tuned.body ([sc ns, .box 0, .box (m + 1), .lst (tv bs)].map some ++ List.replicate (D.law_tuned.ns - D.law_tuned.np) none) (.list t :: rest) = .ret (.box (rest.length + 1)) (sto rest m kp g t' (bs ++ more) (bs ++ more)) := e
  rw [e', endC_ret]
  show fin false (rest.length + 1) (.box (rest.length + 1)) (sto rest m kp g t' (bs ++ more) (bs ++ more)) = _
  have hg : (sto rest m kp g t' (bs ++ more) (bs ++ more))[rest.length + 1]? = some (.list (tv (bs ++ more))) := sto_tr
  simp only [fin, hg]
  rw [if_neg (by simp), if_neg (by omega)]
  simp [sto]
end
end Sw
end

section
namespace K12
open PySem (Str)
open Sw
def d_law_back : FDef := ⟨1, 2, false, (.cons (.tryw 1 (.cons (.ret (.meth (.var 0) .t_undo .nil)) .nil)) .nil)⟩
def d_law : FDef := ⟨1, 8, false, (.cons (.boxset 1 (.lst .nil)) (.cons (.set 2 (.call .l_some_values (.cons (.var 0) (.cons (.var 1) (.cons (.ci 1) (.cons (.ci 4) .nil)))))) (.cons (.set 3 (.mk (.var 2))) (.cons (.set 4 (.call .l_tuned (.cons (.var 0) (.cons (.var 1) (.cons (.var 3) (.cons (.lst (.cons (.var 2) .nil)) .nil)))))) (.cons (.set 5 (.meth (.var 3) .t_duplicate .nil)) (.cons (.ife (.or (.cmp .is (.var 4) .cn) (.or (.not (.teq (.var 5) (.var 3))) (.or (.cmp .ne (.meth (.var 5) .t_path .nil) (.var 4)) (.cmp .ne (.call (.own 0) (.cons (.var 5) .nil)) (.tup (.cons (.cs "raised") (.cons (.ci 7) .nil))))))) (.cons (.ret (.cb false)) .nil) .nil) (.cons (.set 6 (.call .l_tuned (.cons (.var 0) (.cons (.var 1) (.cons (.var 5) (.cons (.var 4) .nil)))))) (.cons (.ife (.or (.cmp .is (.var 6) .cn) (.or (.cmp .ne (.meth (.var 5) .t_path .nil) (.var 6)) (.or (.cmp .ne (.meth (.var 3) .t_path .nil) (.var 4)) (.cmp .ne (.tlen (.var 5)) (.bin .sub (.b1 .len (.var 6)) (.ci 1)))))) (.cons (.ret (.cb false)) .nil) .nil) (.cons (.for_ [7] (.over (.rev (.sl (.var 6) (.some (.bin .sub (.b1 .len (.var 4)) (.ci 1))) (.some (.neg (.ci 1)))))) (.cons (.ife (.cmp .ne (.call (.own 0) (.cons (.var 5) .nil)) (.var 7)) (.cons (.ret (.cb false)) .nil) .nil) .nil)) (.cons (.ife (.or (.cmp .ne (.call (.own 0) (.cons (.var 5) .nil)) (.tup (.cons (.cs "raised") (.cons (.ci 7) .nil)))) (.cmp .ne (.meth (.var 5) .t_path .nil) (.var 4))) (.cons (.ret (.cb false)) .nil) .nil) (.cons (.for_ [7] (.over (.rev (.sl (.var 4) .none (.some (.neg (.ci 1)))))) (.cons (.ife (.or (.cmp .ne (.call (.own 0) (.cons (.var 3) .nil)) (.var 7)) (.cmp .ne (.meth (.var 3) .t_function .nil) (.var 7))) (.cons (.ret (.cb false)) .nil) .nil) .nil)) (.cons (.ret (.and (.cmp .eq (.call (.own 0) (.cons (.var 3) .nil)) (.tup (.cons (.cs "raised") (.cons (.ci 7) .nil)))) (.and (.cmp .eq (.meth (.var 3) .t_path .nil) (.lst (.cons (.var 2) .nil))) (.cmp .eq (.meth (.var 5) .t_path .nil) (.var 4))))) .nil))))))))))))⟩
def T : Fn → Option FDef
  | .is_integer => some D.is_integer
  | .is_function => some D.is_function
  | .check_function => some D.check_function
  | .check_mask => some D.check_mask
  | .bit_count => some D.bit_count
  | .common => some D.common
  | .exclusive => some D.exclusive
  | .straight => some D.straight
  | .moved => some D.moved
  | .leaned => some D.leaned
  | .opposite => some D.opposite
  | .text_of => some D.text_of
  | .spread => some D.spread
  | .wave_of => some D.wave_of
  | .height => some D.height
  | .gap_of => some D.gap_of
  | .l_cell_at => some D.law_cell_at
  | .l_mixed => some D.law_mixed
  | .l_draw => some D.law_draw
  | .l_bits_in => some D.law_bits_in
  | .l_odd => some D.law_odd
  | .l_some_values => some D.law_some_values
  | .l_cross => some D.law_cross
  | .l_like => some D.law_like
  | .l_likes => some D.law_likes
  | .l_tuned => some D.law_tuned
  | .own 0 => some d_law_back
  | .own 1 => some d_law
  | .t_init => some D.t_init
  | .t_flip => some D.t_flip
  | .t_shift => some D.t_shift
  | .t_tilt => some D.t_tilt
  | .t_turn => some D.t_turn
  | .t_function => some D.t_function
  | .t_path => some D.t_path
  | .t_undo => some D.t_undo
  | .t_duplicate => some D.t_duplicate
  | .t_eq => some D.t_eq
  | .t_len => some D.t_len
  | _ => none
end K12
end

section
namespace K12
open Sw
local macro_rules | `(tactic| bv_omega) => `(tactic| first | (simp only [setAll, wipeAll, List.set_cons_succ, List.set_cons_zero]; exact rfl) | exact rfl)
local macro_rules | `(tactic| array_mem_dec) => `(tactic| first
  | exact idp (by assumption)
  | omega
  | (refine ⟨?_, ?_⟩ <;> omega)
  | exact b_range (by omega)
  | exact b_map (b_range (by omega))
  | exact b_map (by omega)
  | exact b_filter (by omega)
  | exact b_filter (b_range (by omega))
  | exact isF_size (by assumption)
  | exact isF_ne (by assumption)
  | exact wave_ne (by assumption)
  | exact wave_ne (isF_size (by assumption))
  | (simp only [List.length_map, List.length_range, List.length_cons, List.length_nil, List.length_append, rep_len]; omega)
  | (simp only [List.length_cons, List.length_nil, rep_len]; decide)
  | (refine ⟨?_, ?_⟩ <;> (simp only [List.length_cons, List.length_nil, rep_len]; decide))
  | fail)
local macro_rules | `(tactic| array_get_dec) => `(tactic| repeat' first
  | (guard_target = ev _ _ _ _ = _; first
    | ((with_reducible apply w_var); exact rfl)
    | with_reducible exact ev_ci
    | with_reducible apply w_call
    | with_reducible apply x_bin
    | with_reducible apply x_idx
    | with_reducible apply x_b1
    | with_reducible apply x_lc
    | with_reducible apply x_lcf
    | with_reducible apply x_cmp
    | with_reducible exact ev_cb
    | with_reducible exact ev_cn
    | with_reducible exact ev_cs
    | with_reducible exact ev_sizes
    | with_reducible exact ev_fv
    | with_reducible apply x_chain
    | with_reducible apply w_neg
    | with_reducible apply w_not
    | with_reducible apply w_and
    | with_reducible apply w_or
    | with_reducible apply w_ife
    | with_reducible apply w_b2
    | with_reducible apply w_m1
    | with_reducible apply w_isi
    | with_reducible apply w_tup
    | with_reducible apply w_lst
    | with_reducible apply w_sl)
  | (guard_target = TF _ _ _ _; first | with_reducible apply tf_or | with_reducible apply tf_not | with_reducible apply tf_neW | with_reducible apply tf_isnotW | with_reducible apply tf_ofW)
  | (guard_target = TT _ _ _ _; first | with_reducible apply tt_and | with_reducible apply tt_not | with_reducible apply tt_eqW | with_reducible apply tt_isW | with_reducible apply tt_ofW)
  | (guard_target = SameV _ _; first | with_reducible apply sv_int | with_reducible apply sv_tup | with_reducible apply sv_lst | with_reducible apply sv_tv | with_reducible apply sv_bl | with_reducible apply sv_blv | apply sv_lst | apply sv_tv | apply sv_tup)
  | (guard_target = callN _ _ _ _ _ = _; sizeOf_list_dec)
  | (guard_target = evs _ _ _ _ = _; first | with_reducible exact w_nil | with_reducible apply w_cons)
  | (guard_target = evi _ _ _ _ = _; first | with_reducible apply w_range | with_reducible apply x_over | with_reducible apply x_zip | with_reducible apply x_enum)
  | (guard_target = evo _ _ _ _ = _; first | with_reducible exact w_on | with_reducible apply w_os)
  | (guard_target = bo _ _ _ = _; first
    | with_reducible exact xd_add | with_reducible exact xd_sub
    | with_reducible exact xd_modN (by omega) | with_reducible exact xd_divN (by omega) | with_reducible exact xd_mod (by omega) | with_reducible exact xd_div (by omega)
    | with_reducible exact xd_mulL (by unfold Small; omega) | with_reducible exact xd_mulR (by unfold Small; omega)
    | with_reducible exact xd_addL (by array_mem_dec) | with_reducible exact xd_addT (by array_mem_dec) | with_reducible exact xd_addLT (by array_mem_dec) | with_reducible apply xd_mulT | with_reducible apply xd_mulT'
    | with_reducible apply xd_mulL
    | exact x_modN (by omega) | exact x_divN (by omega) | exact x_div (by omega) | exact x_mod (by omega) | exact x_add | exact x_sub | exact x_addL (by array_mem_dec) | exact x_addT (by array_mem_dec) | exact x_addLT (by array_mem_dec) | apply x_mulT)
  | (guard_target = co _ _ _ = _; first
    | with_reducible exact xd_eqI | with_reducible exact xd_neI | with_reducible exact xd_lt | with_reducible exact xd_le | with_reducible exact xd_gt | with_reducible exact xd_ge
    | with_reducible exact xd_in | with_reducible exact xd_notin | with_reducible exact xd_inT | with_reducible exact xd_notinT
    | with_reducible exact xd_eqT | with_reducible exact xd_neT | with_reducible exact xd_eqL | with_reducible exact xd_neL | with_reducible exact xd_eqB | with_reducible exact xd_neB | with_reducible exact xd_isB | with_reducible exact xd_isnotB
    | exact x_in | exact x_notin | exact x_inT | exact x_notinT | exact x_eqT | exact x_neT | exact x_eqL | exact x_neL)
  | (guard_target = oix _ _ = _; first | apply x_sgn | with_reducible apply xd_ixT | with_reducible apply xd_ixL | with_reducible apply xd_ixTv | apply x_ixT | apply x_ixL | apply x_ixTv | with_reducible refine xd_ixT' ?_ | with_reducible refine xd_ixL' ?_)
  | (guard_target = o1 _ _ = _; first
    | with_reducible exact xd_lenM | with_reducible exact xd_len | with_reducible exact xd_lenT | with_reducible exact xd_lenTv | with_reducible exact xd_tuple | with_reducible exact xd_list | with_reducible exact xd_sum | with_reducible exact xd_sumT | with_reducible exact xd_all
    | with_reducible apply xd_max | with_reducible apply xd_maxT | with_reducible apply xd_min | with_reducible apply xd_minT | with_reducible apply xd_sorted | with_reducible exact xd_lenV | with_reducible exact xd_listL | with_reducible exact xd_tupleT
    | exact x_tuple | exact x_len | exact x_lenTv | exact x_sum | apply x_max | apply x_min | apply x_sorted)
  | (guard_target = ovr _ _ = _; first | with_reducible exact x_overL | with_reducible exact x_overT | with_reducible exact x_overTv | with_reducible exact x_overV | with_reducible exact x_overVT)
  | (guard_target = zpo _ _ = _; first | with_reducible apply x_zipTT | with_reducible apply x_zipLL | with_reducible apply x_zipTL)
  | (guard_target = eno _ _ = _; first | with_reducible exact x_enumT | with_reducible exact x_enumL)
  | (guard_target = Val.lst _ = _; first
    | with_reducible exact cv_id | with_reducible exact cv_int | with_reducible exact cv_bl | with_reducible exact cv_tid | with_reducible exact cv_tup
    | with_reducible exact cv_l0 | with_reducible exact cv_l1 | with_reducible exact cv_l2 | with_reducible exact cv_l3 | with_reducible exact cv_l4 | with_reducible exact cv_l5 | with_reducible exact cv_lt1 | with_reducible exact cv_lt2 | exact cv_int | exact rfl)
  | (guard_target = Val.tup _ = _; first | with_reducible exact cv_t0 | with_reducible exact cv_t1 | with_reducible exact cv_t2 | with_reducible exact cv_t3 | with_reducible exact cv_t4 | with_reducible exact cv_t8 | exact rfl)
  | (guard_target = ∀ _, setAll _ _ _ = _; intro a; bv_omega)
  | (intro a ha; guard_target = Val.pure _ = _; exact rfl)
  | with_reducible exact cv_iteI | with_reducible exact cv_iteT | with_reducible exact cv_iteL | with_reducible exact cv_iteB
  | ((fail_if_success (guard_target = ev _ _ _ _ = _)); exact rfl)
  | exact castS
  | exact idp (by assumption)
  | exact isF_size (by assumption)
  | exact isF_ne (by assumption)
  | exact wave_ne (by assumption)
  | exact wave_ne (isF_size (by assumption))
  | (intro a ha; (with_reducible replace ha := List.mem_range.mp ha); intro s)
  | intro _
  | array_mem_dec)
local macro_rules | `(tactic| sizeOf_list_dec) => `(tactic| first | apply c_odd | apply c_cross | apply c_bits | apply c_bit_count | apply c_common | apply c_exclusive | apply c_straight | apply c_is_integer | apply c_is_function | apply c_check | apply c_check_mask | apply c_apart | apply c_alike | apply c_distance | apply c_likeness | apply c_wave_of | apply c_wave | apply c_height | apply c_gap_of | apply c_gap | apply c_straight_functions | apply c_nearest | apply c_even | apply c_is_even | apply c_moved | apply c_echo | apply c_term_list | apply c_terms | apply c_degree | apply c_bits_of | apply c_quiet_for | apply c_keeps_quiet | apply c_quiet | apply c_fixed | apply c_leaned | apply c_opposite | apply c_shifted | apply c_tilted | apply c_turned | apply c_like | apply c_likes | apply c_inside | apply c_same_number | apply c_same_truth)
theorem step {β : Type} {Z q e d r : List β} {lo : Nat} {a : β} (hlo : lo + 1 ≤ Z.length) (h : ((Z.drop lo).take (Z.length - 1 - lo)).reverse = d ++ a :: r) (hz : Z = q ++ e) (he : e.length = d.length) : ∃ pre x, q = pre ++ [a] ++ [x] ∧ lo ≤ pre.length ∧ Z = (pre ++ [a]) ++ (x :: e) := by
  have h1 : (Z.drop lo).take (Z.length - 1 - lo) = r.reverse ++ a :: d.reverse := by
    have := congrArg List.reverse h
    simpa using this
  obtain ⟨y, hy⟩ : ∃ y, (Z.drop lo).drop (Z.length - 1 - lo) = [y] := by
    have : ((Z.drop lo).drop (Z.length - 1 - lo)).length = 1 := by simp; omega
    exact List.length_eq_one_iff.mp this
  have h2 : Z = (Z.take lo ++ r.reverse) ++ [a] ++ (d.reverse ++ [y]) := by
    conv => lhs; rw [← List.take_append_drop lo Z, ← List.take_append_drop (Z.length - 1 - lo) (Z.drop lo), h1, hy]
    simp
  obtain ⟨x, e', hx⟩ : ∃ x e', d.reverse ++ [y] = x :: e' := by
    cases hd : d.reverse with
    | nil => exact ⟨y, [], rfl⟩
    | cons u v => exact ⟨u, v ++ [y], rfl⟩
  have hl : e'.length = e.length := by
    have := congrArg List.length hx
    simp at this
    omega
  have h3 : q ++ e = ((Z.take lo ++ r.reverse) ++ [a] ++ [x]) ++ e' := by rw [← hz]; conv => lhs; rw [h2, hx]
                                                                          simp
  obtain ⟨h4, h5⟩ := List.append_inj' h3 hl.symm
  refine ⟨Z.take lo ++ r.reverse, x, h4, by simp; omega, ?_⟩
  conv => lhs; rw [h2, hx, ← h5]
theorem cut_tv {Z : List (List Int)} {lo : Nat} (h : lo + 1 ≤ Z.length) : cut (tv Z) (some (lo : Nat)) (some (-1)) = tv ((Z.drop lo).take (Z.length - 1 - lo)) := by
  unfold cut
  rw [sIx_nat (by rw [tv_len]; omega)]
  have : sIx (tv Z).length (tv Z).length (some (-1)) = Z.length - 1 := by
    simp only [sIx, tv_len]
    rw [if_pos (by omega)]
    omega
  rw [this]
  simp [tv]
theorem cut_tv0 {Z : List (List Int)} (h : 1 ≤ Z.length) : cut (tv Z) none (some (-1)) = tv ((Z.drop 0).take (Z.length - 1 - 0)) := by
  have := cut_init (P := tv Z) (by rw [tv_len]; omega)
  rw [this, tv_len]
  simp [tv]
theorem rev_tv {Z : List (List Int)} : (tv Z).reverse = tv Z.reverse := by simp [tv]
section
variable {T : Fn → Option FDef} {k : Nat} {st : Store} {n : Nat} {pre : List (List Int)} {xs ys : List Int} {kp : Option Int} {g : Nat}
theorem c_back {kk : Int} (h_own : T (.own 0) = some d_law_back) (h_t_undo : T .t_undo = some D.t_undo) (hs : st[n]? = some (.tun (some (tv (pre ++ [ys] ++ [xs]))) (some kk) g)) (hk : ((pre.length + 2 : Nat) : Int) ≠ kk) : callN T (k + 2) (.own 0) [.box n] st = .ok (.tup (iv ys)) (st.set n (.tun (some (tv (pre ++ [ys]))) (some kk) (g + 1))) :=
  end_st (d := d_law_back) h_own rfl rfl (q_try (q_ret (w_meth (w_var rfl) hs w_nil (c_undo hs hk)))) (by simp) (fun _ z => by cases z)
theorem c_back_bad {P : List Val} (h_own : T (.own 0) = some d_law_back) (h_t_undo : T .t_undo = some D.t_undo) (hs : st[n]? = some (.tun (some P) (some (P.length : Nat)) g)) : callN T (k + 2) (.own 0) [.box n] st = .ok (raised 7) st :=
  call_ret (d := d_law_back) h_own rfl rfl (q_tryE (st1 := st) (q_retE (w_methE (w_var rfl) hs w_nil (c_undo_bad hs))) (by omega)) fin_raised
end
theorem sv_raised {st : Store} {c : Nat} : SameV (deref st (raised c)) (deref st (raised c)) := ⟨k_dat (by show dat 8 (raised c) = true; rfl), rfl⟩
abbrev S3 (t : List Val) (A : List (List Int)) (g1 : Nat) (B : List (List Int)) (n : Nat) (g2 : Nat) : Store := [.list t, .tun (some (tv A)) (some 1) g1, .tun (some (tv B)) (some (n : Nat)) g2]
theorem law_gen {T : Fn → Option FDef} (ns : List Int) (h_law : T (.own 1) = some d_law) (h_own0 : T (.own 0) = some d_law_back) (h_t_init : T .t_init = some D.t_init) (h_t_flip : T .t_flip = some D.t_flip) (h_t_shift : T .t_shift = some D.t_shift) (h_t_tilt : T .t_tilt = some D.t_tilt) (h_t_turn : T .t_turn = some D.t_turn) (h_t_undo : T .t_undo = some D.t_undo) (h_t_path : T .t_path = some D.t_path) (h_t_function : T .t_function = some D.t_function) (h_t_len : T .t_len = some D.t_len) (h_t_eq : T .t_eq = some D.t_eq) (h_t_duplicate : T .t_duplicate = some D.t_duplicate) (h_l_tuned : T .l_tuned = some D.law_tuned) (h_leaned : T .leaned = some D.leaned := by first | assumption | rfl) (h_opposite : T .opposite = some D.opposite := by first | assumption | rfl) (h_moved : T .moved = some D.moved := by first | assumption | rfl) (h_is_integer : T .is_integer = some D.is_integer := by first | assumption | rfl) (h_is_function : T .is_function = some D.is_function := by first | assumption | rfl) (h_check_function : T .check_function = some D.check_function := by first | assumption | rfl) (h_check_mask : T .check_mask = some D.check_mask := by first | assumption | rfl) (h_bit_count : T .bit_count = some D.bit_count := by first | assumption | rfl) (h_common : T .common = some D.common := by first | assumption | rfl) (h_exclusive : T .exclusive = some D.exclusive := by first | assumption | rfl) (h_straight : T .straight = some D.straight := by first | assumption | rfl) (h_spread : T .spread = some D.spread := by first | assumption | rfl) (h_wave_of : T .wave_of = some D.wave_of := by first | assumption | rfl) (h_height : T .height = some D.height := by first | assumption | rfl) (h_gap_of : T .gap_of = some D.gap_of := by first | assumption | rfl) (h_l_cell_at : T .l_cell_at = some D.law_cell_at := by first | assumption | rfl) (h_l_mixed : T .l_mixed = some D.law_mixed := by first | assumption | rfl) (h_l_draw : T .l_draw = some D.law_draw := by first | assumption | rfl) (h_l_bits_in : T .l_bits_in = some D.law_bits_in := by first | assumption | rfl) (h_l_odd : T .l_odd = some D.law_odd := by first | assumption | rfl) (h_l_some_values : T .l_some_values = some D.law_some_values := by first | assumption | rfl) (h_l_like : T .l_like = some D.law_like := by first | assumption | rfl) (h_l_likes : T .l_likes = some D.law_likes := by first | assumption | rfl) (h_l_cross : T .l_cross = some D.law_cross := by first | assumption | rfl) : callN T 20 (.own 1) [.slst (ns.map .int)] [] = .ok (.bl true) [] := by
  refine law_start (d := d_law) (ρ := [some (sc ns), none, none, none, none, none, none, none]) h_law rfl rfl rfl ?_
  refine d_box (xs := []) (st1 := []) (ρ' := [some (sc ns), some (.box 0), none, none, none, none, none, none]) (w_lst w_nil rfl rfl) rfl rfl ?_
  refine d_some (least := 1) (most := 4) rfl rfl ev_ci ev_ci (by simp) (by omega) (by omega) (by omega) (fun _ => by bv_omega) ?_
  intro xs t1 hx _ ht1
  refine d_set (v := .box 1) (st1 := [.list t1, .tun (some (tv [xs])) (some 1) 1]) (made (C := callN T 19) (st1 := [.list t1]) (w_var rfl) hx) (by bv_omega) ?_
  obtain ⟨m1, t2, M1, e1⟩ := c_tuned (T := T) (k := 9) (rest := [.tun (some (tv [xs])) (some 1) 1]) (m := 0) (L := xs.length) (t := t1) (bs := [xs]) ns rfl (by simp) (fun b hb => by rw [List.mem_singleton] at hb; subst hb; exact ⟨hx, rfl⟩) (by simp) (by simp at ht1; omega)
  obtain ⟨A, hA⟩ : ∃ A, A = [xs] ++ m1 := ⟨_, rfl⟩
  rw [← hA] at e1
  have hA' : A = xs :: m1 := hA
  refine d_set (v := .lst (tv A)) (st1 := [.list t2, .tun (some (tv A)) (some 1) 1]) (w_call (w_cons (w_var rfl) (w_cons (w_var rfl) (w_cons (w_var rfl) (w_cons (w_lst (w_cons (w_var rfl) w_nil) rfl rfl) w_nil)))) e1) (by bv_omega) ?_
  have hdup := c_duplicate (T := T) (k := 14) (st := [.list t2, .tun (some (tv A)) (some 1) 1]) (n := 1) (xs := xs) (pre := m1) (by rw [hA']; rfl) hx
  rw [← hA'] at hdup
  refine d_set (v := .box 2) (st1 := S3 t2 A 1 A A.length 2) (w_meth (w_var rfl) rfl w_nil hdup) (by bv_omega) ?_
  have hfA : ∀ b ∈ A, IsF b ∧ b.length = xs.length := fun b hb => by
    rw [hA'] at hb
    rcases List.mem_cons.mp hb with rfl | h
    · exact ⟨hx, rfl⟩
    · exact M1.f b h
  have hAl : 1 ≤ A.length ∧ A.length ≤ 6 := by have := M1.l; rw [hA']; simp; omega
  have hveq : veqs (tv A) (tv A) = true := veqs_of (n := 7) (veq_refl 7) _ (by simp [tv, dat, dat_iv])
  have bad : ∀ (t : List Val) (B : List (List Int)) (g1 g2 : Nat) (ρ : Env), ρ[5]? = some (some (.box 2)) → ev (callN T 19) (.call (.own 0) (.cons (.var 5) .nil)) ρ (S3 t B g1 A A.length g2) = .ok (raised 7) (S3 t B g1 A A.length g2) := fun t B g1 g2 ρ h => w_call (w_cons (w_var h) w_nil) (c_back_bad (n := 2) (P := tv A) (g := g2) h_own0 h_t_undo (by rw [tv_len]; rfl))
  refine d_skip (tf_or (tf_of (w_cmp (w_var rfl) ev_cn rfl) rfl) (tf_or (tf_of (w_not (w_teq (w_var rfl) (w_var rfl) rfl rfl (c_teq (n := 2) (m := 1) (p := A) (p' := A) rfl rfl))) (by rw [hveq]; rfl)) (tf_or (tf_neW (x := .lst (tv A)) (y := .lst (tv A)) (w_meth (w_var rfl) rfl w_nil (c_tpath rfl)) (w_var rfl) (sv_tv ⟨rfl⟩)) (tf_neW (bad _ _ _ _ _ rfl) w_raised sv_raised)))) ?_
  obtain ⟨m2, t3, M2, e2⟩ := c_tuned (T := T) (k := 9) (rest := [.tun (some (tv A)) (some 1) 1, .tun (some (tv A)) (some (A.length : Nat)) 2]) (m := 1) (L := xs.length) (t := t2) (bs := A) ns rfl (by rw [hA']; simp) hfA (by omega) (by have := M1.tl; simp at ht1; omega)
  obtain ⟨B, hB⟩ : ∃ B, B = A ++ m2 := ⟨_, rfl⟩
  rw [← hB] at e2
  have hBl : B.length = A.length + m2.length := by rw [hB, List.length_append]
  have hm2 := M2.l
  refine d_set (v := .lst (tv B)) (st1 := S3 t3 A 1 B A.length 2) (w_call (w_cons (w_var rfl) (w_cons (w_var rfl) (w_cons (w_var rfl) (w_cons (w_var rfl) w_nil)))) e2) (by bv_omega) ?_
  refine d_skip (tf_or (tf_of (w_cmp (w_var rfl) ev_cn rfl) rfl) (tf_or (tf_neW (x := .lst (tv B)) (y := .lst (tv B)) (w_meth (w_var rfl) rfl w_nil (c_tpath rfl)) (w_var rfl) (sv_tv ⟨rfl⟩)) (tf_or (tf_neW (x := .lst (tv A)) (y := .lst (tv A)) (w_meth (w_var rfl) rfl w_nil (c_tpath rfl)) (w_var rfl) (sv_tv ⟨rfl⟩)) (tf_neW (x := .int ((B.length - 1 : Nat) : Int)) (y := .int ((B.length : Nat) - 1)) (w_tlen (k := B.length - 1) (w_var rfl) rfl (by have := c_tlen (T := T) (k := 18) (st := S3 t3 A 1 B A.length 2) (n := 2) (P := tv B) rfl; rw [tv_len] at this; exact this) (by omega)) (x_bin (w_b1 (w_var rfl) (by show op1 .len (.lst (tv B)) = some (.int (B.length : Nat)); simp [op1, seqOf, tv])) ev_ci xd_sub) (sv_int ⟨by omega⟩))))) ?_
  have hc1 : cut (tv B) (some (((A.length : Nat) : Int) - 1)) (some (-1)) = tv ((B.drop (A.length - 1)).take (B.length - 1 - (A.length - 1))) := by
    have := cut_tv (Z := B) (lo := A.length - 1) (by omega)
    rw [← this]
    congr 2
    omega
  refine g_forI (l := ((B.drop (A.length - 1)).take (B.length - 1 - (A.length - 1))).reverse) (en := fun x => [.tup (iv x)]) (st1 := S3 t3 A 1 B A.length 2) (fun d ρ s => ∃ q e g, B = q ++ e ∧ e.length = d.length ∧ (∃ a7, ρ = [some (sc ns), some (.box 0), some (.tup (iv xs)), some (.box 1), some (.lst (tv A)), some (.box 2), some (.lst (tv B)), a7]) ∧ s = S3 t3 A 1 q A.length g) ?_ ?_ ?_ ?_
  · refine x_over (w_rev (xs := tv ((B.drop (A.length - 1)).take (B.length - 1 - (A.length - 1)))) (w_sl (w_var rfl) (w_os (x_bin (w_b1 (w_var rfl) (by show op1 .len (.lst (tv A)) = some (.int (A.length : Nat)); simp [op1, seqOf, tv])) ev_ci xd_sub)) (w_os (w_neg ev_ci)) (by show some (Val.lst (cut (tv B) (some (((A.length : Nat) : Int) - 1)) (some (-1)))) = _; rw [hc1])) rfl) ?_
    rw [rev_tv]
    exact x_overTv
  · exact ⟨B, [], 2, by simp, rfl, ⟨_, rfl⟩, rfl⟩
  · rintro d a r ρ s hl ⟨q, e, g, hq, he, ⟨a7, rfl⟩, rfl⟩
    refine g_env (by bv_omega) ?_
    obtain ⟨pre, x, hq', hlo, hZ⟩ := step (by omega) hl hq he
    subst hq'
    refine g_pass (st1 := S3 t3 A 1 (pre ++ [a]) A.length (g + 1)) ?_ (g_nil ⟨pre ++ [a], x :: e, g + 1, hZ, by simp [he], ⟨_, rfl⟩, rfl⟩)
    exact w_cmp (w_call (w_cons (w_var rfl) w_nil) (c_back (n := 2) (k := 17) h_own0 h_t_undo rfl (by omega))) (w_var rfl) (co_neT rfl)
  rintro ρ s ⟨q, e, g, hq, he, ⟨a7, rfl⟩, rfl⟩
  have hqA : q = A := by
    have hel : e.length = m2.length := by rw [he]; simp; omega
    have := hq.symm.trans hB
    exact (List.append_inj' this hel).1
  subst hqA
  refine d_skip (tf_or (tf_neW (bad _ _ _ _ _ rfl) w_raised sv_raised) (tf_neW (x := .lst (tv q)) (y := .lst (tv q)) (w_meth (w_var rfl) rfl w_nil (c_tpath rfl)) (w_var rfl) (sv_tv ⟨rfl⟩))) ?_
  have hc2 := cut_tv0 (Z := q) (by omega)
  refine g_forI (l := ((q.drop 0).take (q.length - 1 - 0)).reverse) (en := fun x => [.tup (iv x)]) (st1 := S3 t3 q 1 q q.length g) (fun d ρ s => ∃ q' e' g', q = q' ++ e' ∧ e'.length = d.length ∧ (∃ a7, ρ = [some (sc ns), some (.box 0), some (.tup (iv xs)), some (.box 1), some (.lst (tv q)), some (.box 2), some (.lst (tv B)), a7]) ∧ s = S3 t3 q' g' q q.length g) ?_ ?_ ?_ ?_
  · refine x_over (w_rev (xs := tv ((q.drop 0).take (q.length - 1 - 0))) (w_sl (w_var rfl) w_on (w_os (w_neg ev_ci)) (by show some (Val.lst (cut (tv q) none (some (-1)))) = _; rw [hc2])) rfl) ?_
    rw [rev_tv]
    exact x_overTv
  · exact ⟨q, [], 1, by simp, rfl, ⟨_, rfl⟩, rfl⟩
  · rintro d a r ρ s hl ⟨q', e', g', hq', he', ⟨a7, rfl⟩, rfl⟩
    refine g_env (by bv_omega) ?_
    obtain ⟨pre, x, hq2, hlo, hZ⟩ := step (by omega) hl hq' he'
    subst hq2
    refine g_pass (st1 := S3 t3 (pre ++ [a]) (g' + 1) q q.length g) ?_ (g_nil ⟨pre ++ [a], x :: e', g' + 1, hZ, by simp [he'], ⟨_, rfl⟩, rfl⟩)
    exact w_orF (w_cmp (w_call (w_cons (w_var rfl) w_nil) (c_back (n := 1) (k := 17) h_own0 h_t_undo rfl (by omega))) (w_var rfl) (co_neT rfl)) (w_cmp (w_meth (w_var rfl) rfl w_nil (c_tfunction rfl)) (w_var rfl) (co_neT rfl))
  rintro ρ s ⟨q', e', g', hq', he', ⟨a7, rfl⟩, rfl⟩
  have hq2 : q' = [xs] := by
    have hel : e'.length = m1.length := by
      have := congrArg List.length hA'
      rw [he']
      simp at this ⊢
      omega
    have := hq'.symm.trans hA
    exact (List.append_inj' this hel).1
  subst hq2
  refine d_ret (tt_and (tt_eqW (x := raised 7) (w_call (w_cons (w_var rfl) w_nil) (c_back_bad (n := 1) (k := 17) (P := tv [xs]) h_own0 h_t_undo rfl)) w_raised sv_raised) (tt_and (tt_eqW (x := .lst (tv [xs])) (y := .lst (tv [xs])) (w_meth (w_var rfl) rfl w_nil (c_tpath rfl)) (w_lst (w_cons (w_var rfl) w_nil) rfl rfl) (sv_tv ⟨rfl⟩)) (tt_eqW (x := .lst (tv q)) (y := .lst (tv q)) (w_meth (w_var rfl) rfl w_nil (c_tpath rfl)) (w_var rfl) (sv_tv ⟨rfl⟩))))
theorem law_ok (ns : List Int) : callN T 20 (.own 1) [.slst (ns.map .int)] [] = .ok (.bl true) [] := law_gen ns rfl rfl rfl rfl rfl rfl rfl rfl rfl rfl rfl rfl rfl rfl
end K12
end

section
namespace K12
open PySem PySem.Spec PyProof.Rows L2 Sw
def own : List Str := ["_law_back", "law"]
def tbl : List Ent := [⟨.is_integer, D.is_integer, 13, ["value", "low", "high"]⟩,
  ⟨.is_function, D.is_function, 14, ["value", "one"]⟩,
  ⟨.check_function, D.check_function, 15, ["function"]⟩,
  ⟨.check_mask, D.check_mask, 16, ["mask", "size"]⟩,
  ⟨.bit_count, D.bit_count, 17, ["place", "count"]⟩,
  ⟨.common, D.common, 18, ["one", "other", "result", "power"]⟩,
  ⟨.exclusive, D.exclusive, 19, ["one", "other"]⟩,
  ⟨.straight, D.straight, 20, ["size", "mask", "place"]⟩,
  ⟨.moved, D.moved, 22, ["function", "place", "at"]⟩,
  ⟨.leaned, D.leaned, 24, ["function", "mask", "one", "other"]⟩,
  ⟨.opposite, D.opposite, 25, ["function", "one"]⟩,
  ⟨.text_of, D.text_of, 27, ["function", "one"]⟩,
  ⟨.spread, D.spread, 29, ["numbers", "half", "plus", "low", "high", "one", "other"]⟩,
  ⟨.wave_of, D.wave_of, 30, ["function", "one"]⟩,
  ⟨.height, D.height, 31, ["numbers"]⟩,
  ⟨.gap_of, D.gap_of, 32, ["function"]⟩,
  ⟨.l_cell_at, D.law_cell_at, 36, ["script", "k", "spare", "again"]⟩,
  ⟨.l_mixed, D.law_mixed, 37, ["script", "k", "many", "spun"]⟩,
  ⟨.l_draw, D.law_draw, 38, ["script", "town", "many"]⟩,
  ⟨.l_bits_in, D.law_bits_in, 39, ["place", "number"]⟩,
  ⟨.l_odd, D.law_odd, 40, ["mask", "place", "mine", "number"]⟩,
  ⟨.l_some_values, D.law_some_values, 41, ["script", "town", "least", "most", "size", "kind", "masks", "made", "place", "mask", "again", "here", "inside", "number"]⟩,
  ⟨.l_cross, D.law_cross, 43, ["one", "other", "first", "second", "number"]⟩,
  ⟨.l_like, D.law_like, 44, ["one", "other", "first", "second"]⟩,
  ⟨.l_likes, D.law_likes, 45, ["own", "size", "mask", "place"]⟩,
  ⟨.l_tuned, D.law_tuned, 46, ["script", "town", "tuner", "begun", "trail", "size", "again", "kind", "own", "at", "least", "one", "place"]⟩,
  ⟨(.own 0), d_law_back, 47, ["t", "e"]⟩,
  ⟨(.own 1), d_law, 48, ["script", "town", "own", "t", "trail", "twin", "more", "one"]⟩,
  ⟨.t_init, D.t_init, 1034, ["self", "function"]⟩,
  ⟨.t_flip, D.t_flip, 2034, ["self", "place", "here"]⟩,
  ⟨.t_shift, D.t_shift, 3034, ["self", "place"]⟩,
  ⟨.t_tilt, D.t_tilt, 4034, ["self", "mask"]⟩,
  ⟨.t_turn, D.t_turn, 5034, ["self"]⟩,
  ⟨.t_function, D.t_function, 6034, ["self"]⟩,
  ⟨.t_path, D.t_path, 7034, ["self"]⟩,
  ⟨.t_undo, D.t_undo, 8034, ["self"]⟩,
  ⟨.t_duplicate, D.t_duplicate, 9034, ["self", "other"]⟩,
  ⟨.t_eq, D.t_eq, 10034, ["self", "other"]⟩,
  ⟨.t_len, D.t_len, 11034, ["self"]⟩]
def xs : Nat → Bool := fun c => [0, 1, 2, 3, 4, 5, 6, 7, 8].contains c
abbrev prog : Program := PySem.Challenge.pw_signwaves_k12_whole_tuners_undone
def xl : List Nat := [0, 1, 2, 3, 4, 5, 6, 7, 8]
def wi : Option Nat := some 42
theorem tbl_ok : tblOk prog own xl wi tbl = true := by decide +kernel
abbrev R : PySem.W.OpenRow := PySem.W.OpenLaw.row PySem.Challenge.rw_signwaves_k12_whole_tuners_undone
abbrev hk : PySem.W.Hook := He.hookX 4 (faOf own tbl xl wi) (fnOfT prog own tbl wi) [] [] (szW tbl wi)
def ob (s : PySem.W.SharedT) : He.AlX := He.obsX 4 (faOf own tbl xl wi) (fnOfT prog own tbl wi) [] [] (szW tbl wi) (HandSHeadRun.getT s)
theorem ob_eq (s : PySem.W.SharedT) : ob s = hk.obs s.abs := He.obsX_eq (HandSHeadRun.getT_eq s)
@[reducible] def loose : List Str := (["__name__", "WaveError", "InvalidFunction", "InvalidWave", "InvalidNumber", "InvalidMask", "InvalidTerms", "NotEven", "TooLarge", "NothingToUndo", "ParseError", "SIZES", "is_integer", "is_function", "check_function", "check_mask", "bit_count", "common", "exclusive", "straight", "moved", "leaned", "opposite", "text_of", "spread", "wave_of", "height", "gap_of", "Tuner", "_law_cell_at"] : List Str) ++ (["_law_mixed", "_law_draw", "_law_bits_in", "_law_odd", "_law_some_values", "_law_which", "_law_cross", "_law_like", "_law_likes", "_law_tuned", "_law_back"] : List Str)
theorem run (w : World) : HandSHeadRun.RunEq R (PySem.W.view R.prog [48]) hk ob 6000 loose w := by
  intro os
  kernel_rfl
def eLaw : Ent := ⟨(.own 1), d_law, 48, ["script", "town", "own", "t", "trail", "twin", "more", "one"]⟩
theorem tab_T : ∀ f, tabT tbl f = T f := by
  intro f
  cases f <;> first
    | rfl
    | (rename_i j
       (rcases j with _ | j; · rfl); (rcases j with _ | j; · rfl)
       rfl)
theorem law_t (ns : List Int) (_ : ns.length ≤ 63) : callN (tabT tbl) 20 (.own 1) [.slst (ns.map .int)] [] = .ok (.bl true) [] := by
  rw [show tabT tbl = T from funext tab_T]
  exact law_ok ns
end K12
open PySem PySem.W PySem.Calls PyProof.Rows
theorem PySem.Challenge.cw_signwaves_k12_whole_tuners_undone_holds : PySem.Challenge.rw_signwaves_k12_whole_tuners_undone.Holds := by
  w_on; o_law
  refine HandSHeadRun.head_any (r := OpenLaw.row PySem.Challenge.rw_signwaves_k12_whole_tuners_undone) (q := view (OpenLaw.row PySem.Challenge.rw_signwaves_k12_whole_tuners_undone).prog [48]) (H := K12.hk) (ob := K12.ob) (M := 6000) (loose := K12.loose) (d := HandSHeadRun.topDef (OpenLaw.row PySem.Challenge.rw_signwaves_k12_whole_tuners_undone).prog 48) (kwd := []) K12.ob_eq
    (by kernel_rfl) (fun s => by kernel_rfl) K12.run (by kernel_rfl) (by kernel_rfl) (by kernel_rfl) (by rfl) (by first | assumption | decide +kernel) (by decide +kernel) ⟨rfl, rfl, rfl, rfl, rfl, by decide +kernel⟩ ?hw ?hc
  case hw => w_witness2
  case hc =>
    refine Sw.walk_w (l := PySem.Challenge.rw_signwaves_k12_whole_tuners_undone) (n := 63) (k := 80) (x := "script") rfl (by decide) (by kernel_rfl) ⟨rfl, by decide, by decide⟩ ?F
    intro w mg fa h Y G hmg0
    obtain ⟨K, KX, c⟩ := Y
    have hmg : mg ("law" : PySem.Str) = some (.ref fa) := by
      have e : (HandSHeadRun.topDef (OpenLaw.row PySem.Challenge.rw_signwaves_k12_whole_tuners_undone).prog 48).name = ("law" : PySem.Str) := by kernel_rfl
      rw [← e]
      exact hmg0
    exact Sw.law_facts (e := K12.eLaw) KX G hmg c K12.tbl_ok (by simp [K12.tbl, K12.eLaw]) rfl rfl rfl K12.law_t
end
