import PyProof.Rows.All
import Wide.All
import OpenK.AllK
import Wide.FinOn
import HandS.ForSpec
import HandS.Lambda
import HandS.ForMost
import HandS.IsInst
import HandS.Wide
import HandS.TupAny
import HandS.Style
import HandS.Conv
import HandS.TupLe
import HandS.Deep
import KE.KRevSl
import KE.SortData
import KE.KDictSum
import HandS.More
import KE.KExcIs
import HandS.ExcIs
import HandS.Zip
import KE.GoesEnum
import HandS.Walk
import HandS.DictComp
import HandS.Small
import HandS.EndBits
import PyProof.ExcBaseAll.ValueError
import PySem.Challenge.RW_seenagreed_k05_disks_roads_and_letters
set_option Elab.async false
/-! The code language, its values and its evaluator (no Python in sight). -/
namespace Sa
open PySem (Str)

/-- values: tuples, lists and dicts by value (nobody changes them any more); loc: a thing of the store -/
inductive D where
  | non | bl (b : Bool) | int (i : Int) | str (x : Str)
  | tup (xs : List D) | lst (xs : List D) | dct (ks vs : List D)
  | ro (xs : List D) | loc (a : Nat) | fn (f : Nat) | cls (c : Nat) | exc (c : Nat) (fs : List D)
deriving Inhabited
/-- things that change -/
inductive Ob where
  | lst (xs : List D) | dct (kvs : List (D × D)) (lk : Bool) | ins (c : Nat) (fs : List (Nat × D))
deriving Inhabited
abbrev Sto := List Ob
abbrev Env := List (Option D)

mutual
def D.beq : D → D → Bool
  | .non, .non => true
  | .bl a, .bl b => a == b
  | .int a, .int b => decide (a = b)
  | .str a, .str b => decide (a = b)
  | .tup a, .tup b => D.beqs a b
  | .lst a, .lst b => D.beqs a b
  | .dct a b, .dct c d => D.beqs a c && D.beqs b d
  | .ro a, .ro b => D.beqs a b
  | .loc a, .loc b => decide (a = b)
  | .fn a, .fn b => decide (a = b)
  | .cls a, .cls b => decide (a = b)
  | .exc a b, .exc c d => decide (a = c) && D.beqs b d
  | _, _ => false
def D.beqs : List D → List D → Bool
  | [], [] => true
  | a :: r, b :: s => D.beq a b && D.beqs r s
  | _, _ => false
end
mutual
theorem D.beq_eq : ∀ {a b : D}, D.beq a b = true → a = b
  | .non, b, h => by cases b <;> simp_all [D.beq]
  | .bl _, b, h => by cases b <;> simp_all [D.beq]
  | .int _, b, h => by cases b <;> simp_all [D.beq]
  | .str _, b, h => by cases b <;> simp_all [D.beq]
  | .tup xs, b, h => by
    cases b with
    | tup ys => rw [D.beqs_eq (a := xs) (b := ys) (by simpa [D.beq] using h)]
    | _ => simp [D.beq] at h
  | .lst xs, b, h => by
    cases b with
    | lst ys => rw [D.beqs_eq (a := xs) (b := ys) (by simpa [D.beq] using h)]
    | _ => simp [D.beq] at h
  | .ro xs, b, h => by
    cases b with
    | ro ys => rw [D.beqs_eq (a := xs) (b := ys) (by simpa [D.beq] using h)]
    | _ => simp [D.beq] at h
  | .dct ks vs, b, h => by
    cases b with
    | dct js ws =>
      have h' : D.beqs ks js = true ∧ D.beqs vs ws = true := by simpa [D.beq] using h
      rw [D.beqs_eq h'.1, D.beqs_eq h'.2]
    | _ => simp [D.beq] at h
  | .loc _, b, h => by cases b <;> simp_all [D.beq]
  | .fn _, b, h => by cases b <;> simp_all [D.beq]
  | .cls _, b, h => by cases b <;> simp_all [D.beq]
  | .exc c fs, b, h => by
    cases b with
    | exc c' gs =>
      have h' : c = c' ∧ D.beqs fs gs = true := by simpa [D.beq] using h
      rw [h'.1, D.beqs_eq h'.2]
    | _ => simp [D.beq] at h
theorem D.beqs_eq : ∀ {a b : List D}, D.beqs a b = true → a = b
  | [], [], _ => rfl
  | [], _ :: _, h => by simp [D.beqs] at h
  | _ :: _, [], h => by simp [D.beqs] at h
  | x :: r, y :: s, h => by
    have h' : D.beq x y = true ∧ D.beqs r s = true := by simpa [D.beqs] using h
    rw [D.beq_eq h'.1, D.beqs_eq h'.2]
end
mutual
theorem D.beq_rfl : ∀ a : D, D.beq a a = true
  | .non => rfl
  | .bl _ => by simp [D.beq]
  | .int _ => by simp [D.beq]
  | .str _ => by simp [D.beq]
  | .tup xs => by simp [D.beq, D.beqs_rfl xs]
  | .lst xs => by simp [D.beq, D.beqs_rfl xs]
  | .dct ks vs => by simp [D.beq, D.beqs_rfl ks, D.beqs_rfl vs]
  | .ro xs => by simp [D.beq, D.beqs_rfl xs]
  | .loc _ => by simp [D.beq]
  | .fn _ => by simp [D.beq]
  | .cls _ => by simp [D.beq]
  | .exc _ fs => by simp [D.beq, D.beqs_rfl fs]
theorem D.beqs_rfl : ∀ a : List D, D.beqs a a = true
  | [] => rfl
  | x :: r => by simp [D.beqs, D.beq_rfl x, D.beqs_rfl r]
end
instance : DecidableEq D := fun a b => if h : D.beq a b = true then isTrue (D.beq_eq h) else isFalse fun e => h (e ▸ D.beq_rfl a)
instance : DecidableEq Ob := fun a b => match a, b with
  | .lst xs, .lst ys => if h : xs = ys then isTrue (h ▸ rfl) else isFalse fun e => h (by cases e; rfl)
  | .dct xs l, .dct ys m => if h : xs = ys ∧ l = m then isTrue (by rw [h.1, h.2]) else isFalse fun e => h (by cases e; exact ⟨rfl, rfl⟩)
  | .ins c fs, .ins d gs => if h : c = d ∧ fs = gs then isTrue (by rw [h.1, h.2]) else isFalse fun e => h (by cases e; exact ⟨rfl, rfl⟩)
  | .lst _, .dct _ _ => isFalse nofun
  | .lst _, .ins _ _ => isFalse nofun
  | .dct _ _, .lst _ => isFalse nofun
  | .dct _ _, .ins _ _ => isFalse nofun
  | .ins _ _, .lst _ => isFalse nofun
  | .ins _ _, .dct _ _ => isFalse nofun

/-! ### places -/
mutual
/-- all places within are below n -/
def D.und (n : Nat) : D → Bool
  | .tup xs => unds n xs
  | .lst xs => unds n xs
  | .ro xs => unds n xs
  | .dct ks vs => unds n ks && unds n vs
  | .loc a => decide (a < n)
  | .exc _ fs => unds n fs
  | _ => true
def unds (n : Nat) : List D → Bool
  | [] => true
  | x :: r => D.und n x && unds n r
end
def Ob.und (n : Nat) : Ob → Bool
  | .lst xs => unds n xs
  | .dct kvs _ => unds n (kvs.map (·.1)) && unds n (kvs.map (·.2))
  | .ins _ fs => unds n (fs.map (·.2))
/-- what a def hands back: its own lists and dicts, which nobody else knows, by value -/
def frz (n : Nat) (S : Sto) : Nat → D → Option D
  | 0, d => if d.und n then some d else none
  | k + 1, d => if d.und n then some d else match d with
    | .loc a => match S[a]? with
      | some (.lst xs) => (xs.mapM (frz n S k)).map .lst
      | some (.dct kvs false) => match (kvs.map (·.1)).mapM (frz n S k), (kvs.map (·.2)).mapM (frz n S k) with
        | some ks, some vs => some (.dct ks vs)
        | _, _ => none
      | _ => none
    | .tup xs => (xs.mapM (frz n S k)).map .tup
    | .lst xs => (xs.mapM (frz n S k)).map .lst
    | _ => none
/-- the first n things of S' are those of S, or speak of the first n alone -/
def oldOk (n : Nat) (S S' : Sto) : Bool :=
  decide (n ≤ S'.length) && (List.range n).all fun i => decide (S'[i]? = S[i]?) || match S'[i]? with | some o => o.und n | none => false

/-! ### ends -/
inductive R (α : Type) where
  | ok (a : α) (S : Sto)
  | err (e : D) (S : Sto)
  | bad
def R.bind {α β : Type} (r : R α) (k : α → Sto → R β) : R β := match r with
  | .ok a S => k a S
  | .err e S => .err e S
  | .bad => .bad
@[simp] theorem R.bind_ok {α β : Type} (a : α) (S : Sto) (k : α → Sto → R β) : (R.ok a S).bind k = k a S := rfl
@[simp] theorem R.bind_err {α β : Type} (e : D) (S : Sto) (k : α → Sto → R β) : (R.err e S).bind k = .err e S := rfl
@[simp] theorem R.bind_bad {α β : Type} (k : α → Sto → R β) : (R.bad : R α).bind k = .bad := rfl
inductive Fl where
  | nx | rt (d : D) | bk | ct

/-! ### the code -/
inductive Kd where
  | int | bool | str | tuple | list | dict | seq | own (c : Nat)
deriving DecidableEq
inductive Op where
  | add | sub | mul | fdiv | mod | pow | neg
  | eq | ne | lt | le | gt | ge | is_ | isnot | in_ | notin
  | idx | slc (lo hi : Bool) | rev
  | len | abs | int | all | any | sum | min2 | max2 | minL | maxL | tuple | list (al : Bool) | sorted (al : Bool) | dict (al : Bool) | set | repr
  | isin (k : Kd)
  | get | get2 | pop | popAt | append | extend
deriving DecidableEq
mutual
inductive E where
  | var (i : Nat)
  | cst (d : D)
  | tup (es : Es)
  | lst (al : Bool) (es : Es)
  | dct (al : Bool) (es : Es)
  | op (o : Op) (es : Es)
  | and (a b : E)
  | or (a b : E)
  | not (a : E)
  | ite (c a b : E)
  | chain (p q : Op) (a b c : E)
  | call (f : Nat) (es : Es)
  | new (c : Nat) (es : Es)
  | meth (m : Nat) (o : E) (es : Es)
  | attr (f : Nat) (o : E)
  | comp (al : Bool) (own : List Nat) (t : Tg) (it : It) (c : Es) (e : E)
  | dcomp (al : Bool) (own : List Nat) (t : Tg) (it : It) (k v : E)
  | comp2 (al : Bool) (own own2 : List Nat) (t : Tg) (it : It) (t2 : Tg) (it2 : It) (e : E)
  | callv (g : E) (es : Es)
  | mth (o : Op) (r : E) (es : Es)
  | callK (f : Nat) (es ks : Es)
  | newK (c : Nat) (es ks : Es)
  | caught (e : E)
inductive Es where
  | nil
  | cons (e : E) (r : Es)
inductive It where
  | of (e : E)
  | keys (i : Nat)
  | rng (e : E)
  | rng2 (a b : E)
  | zip (a b : E)
  | enum (e : E)
inductive Tg where
  | nm (i : Nat)
  | tp (ts : Tgs)
  | sub (o i : E)
  | fld (f : Nat) (o : E)
inductive Tgs where
  | nil
  | cons (t : Tg) (r : Tgs)
end
mutual
inductive Sm where
  | asg (t : Tg) (e : E)
  | aug (i : Nat) (o : Op) (e : E)
  | expr (e : E)
  | ret (e : E)
  | retN
  | ite (c : E) (a b : Sms)
  | forS (t : Tg) (it : It) (b : Sms)
  | whl (c : E) (b : Sms)
  | raise (c : Nat) (es : Es)
  | brk
  | cnt
  | pass
inductive Sms where
  | nil
  | cons (s : Sm) (r : Sms)
end
def Es.len : Es → Nat
  | .nil => 0
  | .cons _ r => r.len + 1
def Tgs.len : Tgs → Nat
  | .nil => 0
  | .cons _ r => r.len + 1
structure Fn where
  np : Nat
  ns : Nat
  keep : Bool
  body : Sms
structure Cl where
  init : Nat
  meths : List (Nat × Nat)
  /-- the fields of its instances -/
  flds : List Nat
  /-- an error's class -/
  exc : Bool
  /-- itself and the classes above it, of the program -/
  up : List Nat
structure Prog where
  fns : List Fn
  cls : List Cl
  /-- the class whose errors the law catches -/
  top : Nat

/-! ### what operations give -/
def big : Nat := 16000000
/-- a list's items: by value, or of the store -/
def items (S : Sto) : D → Option (List D)
  | .lst xs => some xs
  | .loc a => match S[a]? with
    | some (.lst xs) => some xs
    | _ => none
  | _ => none
/- data that == may be asked of -/
mutual
def D.pl : D → Bool
  | .non => true
  | .bl _ => true
  | .int _ => true
  | .str x => (PySem.PyData.str x).canLay0
  | .tup xs => pls xs
  | .lst xs => pls xs
  | _ => false
def pls : List D → Bool
  | [] => true
  | x :: r => D.pl x && pls r
end
mutual
def D.dp : D → Nat
  | .tup xs => dps xs + 1
  | .lst xs => dps xs + 1
  | _ => 0
def dps : List D → Nat
  | [] => 0
  | x :: r => max (D.dp x) (dps r)
end
/-- data that == is asked of: not too deep -/
def D.sh (d : D) : Bool := d.pl && decide (d.dp ≤ 60)
def b2i (b : Bool) : Int := if b then 1 else 0
mutual
/-- Python's == of data -/
def D.eqv : D → D → Bool
  | .non, .non => true
  | .bl a, .bl b => a == b
  | .bl a, .int b => decide (b2i a = b)
  | .int a, .bl b => decide (a = b2i b)
  | .int a, .int b => decide (a = b)
  | .str a, .str b => decide (a = b)
  | .tup a, .tup b => eqvs a b
  | .lst a, .lst b => eqvs a b
  | _, _ => false
def eqvs : List D → List D → Bool
  | [], [] => true
  | a :: r, b :: s => D.eqv a b && eqvs r s
  | _, _ => false
end
/-- a list of the store by value, at the top alone -/
def top (S : Sto) (d : D) : D := match d with
  | .loc a => match S[a]? with
    | some (.lst xs) => .lst xs
    | _ => d
  | _ => d
def unlike : D → D → Bool
  | .lst xs, .lst ys => decide (xs.length ≠ ys.length)
  | .tup [], .tup (_ :: _) => true
  | .tup (_ :: _), .tup [] => true
  | _, _ => false
def eqq (S : Sto) (x y : D) : Option Bool :=
  let x := top S x
  let y := top S y
  if unlike x y then some false else if x.sh && y.sh then some (D.eqv x y) else none
def isKey : D → Bool
  | .int _ => true
  | .str _ => true
  | _ => false
/-- a dict's pairs: by value, or of the store -/
def pairs (S : Sto) : D → Option (List (D × D))
  | .dct ks vs => if ks.length = vs.length then some (ks.zip vs) else none
  | .loc a => match S[a]? with
    | some (.dct kvs _) => some kvs
    | _ => none
  | _ => none
def look (kvs : List (D × D)) (k : D) : Option D := match kvs with
  | [] => none
  | (j, v) :: r => if j = k then some v else look r k
def put (kvs : List (D × D)) (k v : D) : List (D × D) :=
  if (kvs.any fun q => decide (q.1 = k)) = true then kvs.map (fun q => if q.1 = k then (q.1, v) else q) else kvs ++ [(k, v)]
def getF (fs : List (Nat × D)) (f : Nat) : Option D := match fs with
  | [] => none
  | (g, v) :: r => if g = f then some v else getF r f
def putFd (f : Nat) (v : D) : List (Nat × D) → List (Nat × D)
  | [] => [(f, v)]
  | (g, w) :: r => if g = f then (g, v) :: r else (g, w) :: putFd f v r
def ix (n : Nat) (i : Int) : Option Nat := if 0 ≤ i then (if i < n then some i.toNat else none) else if -(n : Int) ≤ i then some (i + n).toNat else none
/-- a slice's end -/
def cutAt (n d : Nat) : Option Int → Nat
  | none => d
  | some v => if v < 0 then (v + (n : Int)).toNat else min v.toNat n
def cut (xs : List D) (lo hi : Option Int) : List D := (xs.drop (cutAt xs.length 0 lo)).take (cutAt xs.length xs.length hi - cutAt xs.length 0 lo)
def bls : List D → Option (List Bool)
  | [] => some []
  | .bl b :: r => match bls r with
    | some t => some (b :: t)
    | none => none
  | _ => none
def intsOf : List D → Option (List Int)
  | [] => some []
  | .int i :: r => match intsOf r with
    | some t => some (i :: t)
    | none => none
  | _ => none
/-- the kind of a value: none where it is not told -/
def kindOf (P : Prog) (S : Sto) (k : Kd) : D → Option Bool
  | .non => some false
  | .bl _ => some (k = .bool || k = .int)
  | .int _ => some (decide (k = .int))
  | .str _ => some (decide (k = .str))
  | .tup _ => some (k = .tuple || k = .seq)
  | .lst _ => some (k = .list || k = .seq)
  | .dct _ _ => some (decide (k = .dict))
  | .loc a => match S[a]? with
    | some (.lst _) => some (k = .list || k = .seq)
    | some (.dct _ _) => some (decide (k = .dict))
    | some (.ins c _) => match P.cls[c]? with
      | some cl => if cl.exc then none else match k with
        | .own d => some (cl.up.contains d)
        | _ => some false
      | none => none
    | none => none
  | .exc c _ => match P.cls[c]? with
    | some cl => if cl.exc then match k with
        | .own d => some (cl.up.contains d)
        | _ => none
      else none
    | none => none
  | _ => none
def isSub (P : Prog) (c d : Nat) : Bool := match P.cls[c]? with
  | some cl => cl.up.contains d
  | none => false
def R.calm {α : Type} (r : R α) : R α := match r with
  | .ok a S => .ok a S
  | _ => .bad
@[simp] theorem R.calm_ok {α : Type} (a : α) (S : Sto) : (R.ok a S).calm = .ok a S := rfl
@[simp] theorem R.calm_bad {α : Type} : (R.bad : R α).calm = .bad := rfl
def R.lift {α : Type} (S : Sto) : Option α → R α
  | some a => .ok a S
  | none => .bad
@[simp] theorem R.lift_some {α : Type} (S : Sto) (a : α) : R.lift S (some a) = .ok a S := rfl
@[simp] theorem R.lift_none {α : Type} (S : Sto) : R.lift S (none : Option α) = .bad := rfl
/-- a new list -/
def newL (al : Bool) (xs : List D) (S : Sto) : R D := if xs.length ≤ big then (if al then .ok (.loc S.length) (S ++ [.lst xs]) else .ok (.lst xs) S) else .bad
def newD (al : Bool) (kvs : List (D × D)) (S : Sto) : R D := if kvs.length ≤ big then (if al then .ok (.loc S.length) (S ++ [.dct kvs false]) else .ok (.dct (kvs.map (·.1)) (kvs.map (·.2))) S) else .bad
def bigI (i : Int) : Bool := decide (-(2 ^ 64) < i ∧ i < 2 ^ 64)

/-! ### what is shown, what is sorted -/
open PySem in
mutual
def toP : D → Option PyData
  | .non => some .none
  | .bl b => some (.bool b)
  | .int i => some (.int i)
  | .str x => some (.str x)
  | .tup xs => (toPs xs).map .tuple
  | .lst xs => (toPs xs).map .list
  | .dct ks vs => match toPs ks, toPs vs with
    | some a, some b => some (.dict (a.zip b))
    | _, _ => none
  | _ => none
def toPs : List D → Option (List PyData)
  | [] => some []
  | x :: r => match toP x, toPs r with
    | some a, some b => some (a :: b)
    | _, _ => none
end
mutual
/-- no list within -/
def noL : D → Bool
  | .tup xs => noLs xs
  | .lst _ => false
  | .dct _ vs => noLs vs
  | _ => true
def noLs : List D → Bool
  | [] => true
  | x :: r => noL x && noLs r
end
/-- the text of repr -/
def shown (d : D) : Option Str := match toP d with
  | some p => if p.showable && (noL d || !p.hasDict) && decide (p.shown.length ≤ PySem.sizeLine) && decide (p.depth ≤ 60) then some p.shown else none
  | none => none
mutual
/-- below, by Python's order of ints, texts and tuples of these -/
def D.lt : D → D → Bool
  | .int a, .int b => decide (a < b)
  | .str a, .str b => decide (a.cps.toList < b.cps.toList)
  | .tup a, .tup b => lts a b
  | _, _ => false
def lts : List D → List D → Bool
  | _, [] => false
  | [], _ :: _ => true
  | a :: r, b :: s => if D.eqv a b then lts r s else D.lt a b
end
/-- sorted, equal ones as they stood -/
def isort (xs : List D) : List D := xs.mergeSort fun a b => !(D.lt b a)
mutual
/-- of one make: ints, texts, tuples of these, place by place -/
def mate : D → D → Bool
  | .int _, .int _ => true
  | .str _, .str _ => true
  | .tup a, .tup b => mates a b
  | _, _ => false
def mates : List D → List D → Bool
  | [], [] => true
  | a :: r, b :: s => mate a b && mates r s
  | _, _ => false
end
def allMate : List D → Bool
  | [] => true
  | x :: r => mate x x && r.all (mate x) && allMate r
/-- all of them tuples with something in them, or none of them a tuple -/
def sortable (xs : List D) : Bool := (xs.all fun d => match d with
  | .tup (_ :: _) => true
  | _ => false) || xs.all fun d => match d with
  | .tup _ => false
  | _ => true
def minD : List D → Option D
  | [] => none
  | x :: r => some (r.foldl (fun m y => if D.lt y m then y else m) x)
def maxD : List D → Option D
  | [] => none
  | x :: r => some (r.foldl (fun m y => if D.lt m y then y else m) x)
/-- what tuple(..), list(..), sorted(..), all(..) go over -/
def walked (S : Sto) : D → Option (List D)
  | .ro xs => some xs
  | .tup xs => some xs
  | .lst xs => some xs
  | .loc a => match S[a]? with
    | some (.lst xs) => some xs
    | _ => none
  | _ => none
/-- a list, read-only or not -/
def listed (S : Sto) : D → Option (List D)
  | .ro xs => some xs
  | .lst xs => some xs
  | .loc a => match S[a]? with
    | some (.lst xs) => some xs
    | _ => none
  | _ => none
def keysOf (S : Sto) (d : D) : Option (List D) := (pairs S d).map fun kvs => kvs.map (·.1)
def pairOf : D → Option (D × D)
  | .tup [k, v] => if isKey k then some (k, v) else none
  | _ => none
def bl (S : Sto) (o : Option Bool) : R D := match o with
  | some b => .ok (.bl b) S
  | none => .bad
def inn (S : Sto) (x c : D) : Option Bool := match walked S c with
  | some xs => if x.sh && xs.all D.sh then some (xs.any fun y => D.eqv y x) else none
  | none => match pairs S c with
    | some kvs => if isKey x then some (look kvs x).isSome else none
    | none => none

def int2 (x y : D) (f : Int → Int → R D) : R D := match x, y with
  | .int i, .int j => f i j
  | _, _ => .bad
def int1 (x : D) (f : Int → R D) : R D := match x with
  | .int i => f i
  | _ => .bad
def catS (S : Sto) (x y : D) : R D := match items S x, items S y with
  | some a, some b => if a.length + b.length ≤ big then .ok (.lst (a ++ b)) S else .bad
  | _, _ => .bad
def addS (S : Sto) (x y : D) : R D := match x, y with
  | .int i, .int j => .ok (.int (i + j)) S
  | .tup a, .tup b => if a.length + b.length ≤ big then .ok (.tup (a ++ b)) S else .bad
  | _, _ => catS S x y
def mulS (S : Sto) (x y : D) : R D := match x, y with
  | .int i, .int j => if bigI i || bigI j then .ok (.int (i * j)) S else .bad
  | _, _ => .bad
def isS (x y : D) : Option Bool := match y with
  | .non => some (decide (x = .non))
  | .bl b => match x with
    | .bl a => some (decide (a = b))
    | _ => none
  | _ => none
def atS (S : Sto) (xs : List D) (k : D) : R D := match k with
  | .int i => R.lift S ((ix xs.length i).bind fun j => xs[j]?)
  | _ => .bad
def lookS (S : Sto) (c k : D) : R D := match pairs S c with
  | some kvs => if isKey k then R.lift S (look kvs k) else .bad
  | none => .bad
def idxS (S : Sto) (c k : D) : R D := match c with
  | .tup xs => atS S xs k
  | c => match items S c with
    | some xs => atS S xs k
    | none => lookS S c k
def cutS (S : Sto) (x : D) (lo hi : Option Int) : R D := match x with
  | .tup xs => .ok (.tup (cut xs lo hi)) S
  | x => R.lift S ((items S x).map fun xs => .lst (cut xs lo hi))
def revS (S : Sto) (x : D) : R D := match x with
  | .tup xs => .ok (.tup xs.reverse) S
  | x => R.lift S ((items S x).map fun xs => .lst xs.reverse)
def lenS (S : Sto) (x : D) : R D := match x with
  | .str x => if x.length ≤ big then .ok (.int x.length) S else .bad
  | x => match walked S x with
    | some xs => .ok (.int xs.length) S
    | none => R.lift S ((pairs S x).map fun kvs => .int kvs.length)
def bestS (S : Sto) (f : List D → Option D) (x : D) : R D := match listed S x with
  | some xs => if allMate xs && xs.all D.sh then R.lift S (f xs) else .bad
  | none => .bad
def listS (al : Bool) (S : Sto) (x : D) : R D := match walked S x with
  | some xs => newL al xs S
  | none => .bad
def sortS (al : Bool) (S : Sto) (x : D) : R D := match listed S x with
  | some xs => if allMate xs && xs.all D.sh && sortable xs then newL al (isort xs) S else .bad
  | none => match keysOf S x with
    | some xs => if allMate xs && xs.all D.sh && sortable xs then newL al (isort xs) S else .bad
    | none => .bad
def dictS (al : Bool) (S : Sto) (x : D) : R D := match items S x with
  | some xs => match xs.mapM pairOf with
    | some kvs => newD al (kvs.foldl (fun m p => put m p.1 p.2) []) S
    | none => .bad
  | none => match pairs S x with
    | some kvs => newD al kvs S
    | none => .bad
def getS (S : Sto) (d k z : D) : R D := match pairs S d with
  | some kvs => if isKey k then .ok ((look kvs k).getD z) S else .bad
  | none => .bad
/-- a list of the store changes -/
def withL (S : Sto) (x : D) (f : Nat → List D → R D) : R D := match x with
  | .loc a => match S[a]? with
    | some (.lst xs) => f a xs
    | _ => .bad
  | _ => .bad
def popS (S : Sto) (a : Nat) (xs : List D) : R D := match xs.getLast? with
  | some y => .ok y (S.set a (.lst xs.dropLast))
  | none => .bad
def popAtS (S : Sto) (k : D) (a : Nat) (xs : List D) : R D := int1 k fun i => match ix xs.length i with
  | some j => match xs[j]? with
    | some y => .ok y (S.set a (.lst (xs.eraseIdx j)))
    | none => .bad
  | none => .bad
def appS (S : Sto) (y : D) (a : Nat) (xs : List D) : R D := if xs.length < big then .ok .non (S.set a (.lst (xs ++ [y]))) else .bad
def extS (S : Sto) (y : D) (a : Nat) (xs : List D) : R D := match y with
  | .tup ys => if xs.length + ys.length ≤ big then .ok .non (S.set a (.lst (xs ++ ys))) else .bad
  | _ => .bad

def opSem (P : Prog) (o : Op) (ds : List D) (S : Sto) : R D := match o, ds with
  | .add, [x, y] => addS S x y
  | .sub, [x, y] => int2 x y fun i j => .ok (.int (i - j)) S
  | .mul, [x, y] => mulS S x y
  | .fdiv, [x, y] => int2 x y fun i j => if 0 < j ∧ j < 1073741824 then .ok (.int (i / j)) S else .bad
  | .mod, [x, y] => int2 x y fun i j => if 0 < j then .ok (.int (i % j)) S else .bad
  | .pow, [x, y] => int2 x y fun i j => if 0 ≤ j ∧ j ≤ 1000000 ∧ i.natAbs < 2 ^ 64 then .ok (.int (i ^ j.toNat)) S else .bad
  | .neg, [x] => int1 x fun i => .ok (.int (-i)) S
  | .eq, [x, y] => bl S (eqq S x y)
  | .ne, [x, y] => bl S ((eqq S x y).map (!·))
  | .lt, [x, y] => int2 x y fun i j => .ok (.bl (decide (i < j))) S
  | .le, [x, y] => int2 x y fun i j => .ok (.bl (decide (i ≤ j))) S
  | .gt, [x, y] => int2 x y fun i j => .ok (.bl (decide (j < i))) S
  | .ge, [x, y] => int2 x y fun i j => .ok (.bl (decide (j ≤ i))) S
  | .is_, [x, y] => bl S (isS x y)
  | .isnot, [x, y] => bl S ((isS x y).map (!·))
  | .in_, [x, c] => bl S (inn S x c)
  | .notin, [x, c] => bl S ((inn S x c).map (!·))
  | .idx, [c, k] => idxS S c k
  | .slc false false, [x] => cutS S x none none
  | .slc true false, [x, i] => int1 i fun i => cutS S x (some i) none
  | .slc false true, [x, j] => int1 j fun j => cutS S x none (some j)
  | .slc true true, [x, i, j] => int2 i j fun i j => cutS S x (some i) (some j)
  | .rev, [x] => revS S x
  | .len, [x] => lenS S x
  | .abs, [x] => int1 x fun i => .ok (.int (if i < 0 then -i else i)) S
  | .int, [x] => int1 x fun i => .ok (.int i) S
  | .all, [x] => bl S (((items S x).bind bls).map fun bs => bs.all id)
  | .any, [x] => bl S (((items S x).bind bls).map fun bs => bs.any id)
  | .sum, [x] => R.lift S (((items S x).bind intsOf).map fun ns => .int ns.sum)
  | .min2, [x, y] => int2 x y fun i j => .ok (.int (if j < i then j else i)) S
  | .max2, [x, y] => int2 x y fun i j => .ok (.int (if i < j then j else i)) S
  | .minL, [x] => bestS S minD x
  | .maxL, [x] => bestS S maxD x
  | .tuple, [x] => R.lift S ((walked S x).map .tup)
  | .list al, [x] => listS al S x
  | .sorted al, [x] => sortS al S x
  | .dict al, [x] => dictS al S x
  | .repr, [x] => R.lift S ((shown (top S x)).map .str)
  | .isin k, [x] => bl S (kindOf P S k x)
  | .get, [d, k] => getS S d k .non
  | .get2, [d, k, z] => getS S d k z
  | .pop, [x] => withL S x (popS S)
  | .popAt, [x, k] => withL S x (popAtS S k)
  | .append, [x, y] => withL S x (appS S y)
  | .extend, [x, y] => withL S x (extS S y)
  | _, _ => .bad

/-- the receiver of a method is of its type -/
def mthOk (o : Op) (S : Sto) (x : D) : Bool := match o with
  | .get => (pairs S x).isSome
  | .get2 => (pairs S x).isSome
  | _ => match x with
    | .loc a => match S[a]? with
      | some (.lst _) => true
      | _ => false
    | _ => false
/-! ### the evaluator -/
inductive Ck where
  | no
  | lst (a : Nat) (xs : List D)
  | dct (a : Nat) (kvs : List (D × D))
def Ck.ok (c : Ck) (S : Sto) : Bool := match c with
  | .no => true
  | .lst a xs => decide (S[a]? = some (.lst xs))
  | .dct a kvs => decide (S[a]? = some (.dct kvs true))
def Ck.lock (c : Ck) (S : Sto) : Sto := match c with
  | .dct a kvs => S.set a (.dct kvs true)
  | _ => S
def Ck.free (c : Ck) (S : Sto) : Sto := match c with
  | .dct a kvs => S.set a (.dct kvs false)
  | _ => S
def wipeE (env : Env) : List Nat → Env
  | [] => env
  | v :: vs => (wipeE env vs).set v none
/-- a comprehension's turns: none where a test says no -/
def loopC (ck : Ck) (turn : D → Sto → R (Option D)) : List D → List D → Sto → R (List D)
  | [], acc, S => if ck.ok S then .ok acc S else .bad
  | x :: r, acc, S => if ck.ok S then match turn x S with
      | .ok (some v) S' => if acc.length < big then loopC ck turn r (acc ++ [v]) S' else .bad
      | .ok none S' => loopC ck turn r acc S'
      | _ => .bad
    else .bad
def loopC2 (ck : Ck) (turn : D → List D → Sto → R (List D)) : List D → List D → Sto → R (List D)
  | [], acc, S => if ck.ok S then .ok acc S else .bad
  | x :: r, acc, S => if ck.ok S then match turn x acc S with
      | .ok acc' S' => loopC2 ck turn r acc' S'
      | _ => .bad
    else .bad
def loopF (ck : Ck) (body : D → Env → Sto → R (Fl × Env)) : List D → Env → Sto → R (Fl × Env)
  | [], env, S => if ck.ok S then .ok (.nx, env) S else .bad
  | x :: r, env, S => if ck.ok S then (body x env S).bind fun p S' => match p.1 with
      | .nx => loopF ck body r p.2 S'
      | .ct => loopF ck body r p.2 S'
      | .bk => .ok (.nx, p.2) S'
      | .rt d => .ok (.rt d, p.2) S'
    else .bad
def loopW (test : Env → Sto → R D) (body : Env → Sto → R (Fl × Env)) : Nat → Env → Sto → R (Fl × Env)
  | 0, _, _ => .bad
  | n + 1, env, S => (test env S).bind fun t S1 => match t with
    | .bl true => (body env S1).bind fun p S' => match p.1 with
      | .nx => loopW test body n p.2 S'
      | .ct => loopW test body n p.2 S'
      | .bk => .ok (.nx, p.2) S'
      | .rt d => .ok (.rt d, p.2) S'
    | .bl false => .ok (.nx, env) S1
    | _ => .bad
/-- what is gone over -/
def spans (S : Sto) : D → Option (List D × Ck)
  | .ro xs => some (xs, .no)
  | .tup xs => some (xs, .no)
  | .lst xs => some (xs, .no)
  | .loc a => match S[a]? with
    | some (.lst xs) => some (xs, .lst a xs)
    | _ => none
  | _ => none
def keysAt (S : Sto) : D → Option (List D × Ck)
  | .loc a => match S[a]? with
    | some (.dct kvs false) => some (kvs.map (·.1), .dct a kvs)
    | _ => none
  | _ => none
def putP (m : List (D × D)) (d : D) : List (D × D) := match d with
  | .tup [k, v] => put m k v
  | _ => m
def pairsOf (ds : List D) : List (D × D) := ds.foldl putP []
def upto (a : Int) (n : Nat) : List D := (List.range n).map fun (i : Nat) => D.int (a + (i : Int))
def pairUp : List D → List D → List D
  | x :: r, y :: s => .tup [x, y] :: pairUp r s
  | _, _ => []
def numbered (k : Nat) : List D → List D
  | [] => []
  | x :: r => .tup [.int (k : Int), x] :: numbered (k + 1) r

structure Rt where
  P : Prog
  W : Nat
  call : Nat → List D → Sto → R D
def getN (ms : List (Nat × Nat)) (m : Nat) : Option Nat := match ms with
  | [] => none
  | (g, v) :: r => if g = m then some v else getN r m
/-- a dict display, pair by pair -/
def evD (al : Bool) (ds : List D) (kvs : List (D × D)) (S : Sto) : R D := match ds with
  | [] => newD al kvs S
  | k :: v :: r => if isKey k then evD al r (put kvs k v) S else .bad
  | _ => .bad
variable (C : Rt)
mutual
def evE : E → Env → Sto → R D
  | .var i, env, S => match env[i]? with
    | some (some d) => .ok d S
    | _ => .bad
  | .cst d, _, S => .ok d S
  | .tup es, env, S => (evEs es env S).bind fun ds S' => .ok (.tup ds) S'
  | .lst al es, env, S => (evEs es env S).bind fun ds S' => newL al ds S'
  | .dct al es, env, S => (evEs es env S).bind fun ds S' => evD al ds [] S'
  | .op o es, env, S => (evEs es env S).bind fun ds S' => (opSem C.P o ds S').calm
  | .and a b, env, S => (evE a env S).bind fun x S' => match x with
    | .bl true => evE b env S'
    | .bl false => .ok (.bl false) S'
    | _ => .bad
  | .or a b, env, S => (evE a env S).bind fun x S' => match x with
    | .bl true => .ok (.bl true) S'
    | .bl false => evE b env S'
    | _ => .bad
  | .not a, env, S => (evE a env S).bind fun x S' => match x with
    | .bl b => .ok (.bl (!b)) S'
    | _ => .bad
  | .ite c a b, env, S => (evE c env S).bind fun x S' => match x with
    | .bl true => evE a env S'
    | .bl false => evE b env S'
    | _ => .bad
  | .chain p q a b c, env, S => (evE a env S).bind fun x S1 => (evE b env S1).bind fun y S2 => (opSem C.P p [x, y] S2).calm.bind fun t S3 => match t with
    | .bl true => (evE c env S3).bind fun z S4 => (opSem C.P q [y, z] S4).calm
    | .bl false => .ok (.bl false) S3
    | _ => .bad
  | .call f es, env, S => (evEs es env S).bind fun ds S' => C.call f ds S'
  | .new c es, env, S => (evEs es env S).bind fun ds S' => match C.P.cls[c]? with
    | some cl => (C.call cl.init (.loc S'.length :: ds) (S' ++ [.ins c []])).bind fun d S2 => match d with
      | .non => .ok (.loc S'.length) S2
      | _ => .bad
    | none => .bad
  | .meth m o es, env, S => (evE o env S).bind fun x S1 => match x with
    | .loc a => match S1[a]? with
      | some (.ins c fs) => match C.P.cls[c]? with
        | some cl => match getN cl.meths m, getF fs m with
          | some f, none => (evEs es env S1).bind fun ds S2 => C.call f (.loc a :: ds) S2
          | _, _ => .bad
        | none => .bad
      | _ => .bad
    | _ => .bad
  | .attr f o, env, S => (evE o env S).bind fun x S1 => match x with
    | .loc a => match S1[a]? with
      | some (.ins c fs) => match C.P.cls[c]? with
        | some cl => if cl.flds.contains f then R.lift S1 (getF fs f) else .bad
        | none => .bad
      | _ => .bad
    | _ => .bad
  | .comp al own t it c e, env, S => (evIt it env S).bind fun p S1 =>
    (loopC p.2 (fun x S2 => (evTg t x (wipeE env own) S2).bind fun env' S3 => (evEs c env' S3).bind fun bs S4 => match bs with
      | [] => (evE e env' S4).bind fun v S5 => .ok (some v) S5
      | [.bl true] => (evE e env' S4).bind fun v S5 => .ok (some v) S5
      | [.bl false] => .ok none S4
      | _ => .bad) p.1 [] (p.2.lock S1)).bind fun ys S6 => newL al ys (p.2.free S6)
  | .dcomp al own t it k v, env, S => (evIt it env S).bind fun p S1 =>
    (loopC p.2 (fun x S2 => (evTg t x (wipeE env own) S2).bind fun env' S3 => (evE k env' S3).bind fun y S4 => (evE v env' S4).bind fun z S5 =>
      if isKey y then .ok (some (.tup [y, z])) S5 else .bad) p.1 [] (p.2.lock S1)).bind fun ys S6 => newD al (pairsOf ys) (p.2.free S6)
  | .comp2 al own own2 t it t2 it2 e, env, S => (evIt it env S).bind fun p S1 =>
    (loopC2 p.2 (fun x acc S2 => (evTg t x (wipeE env own) S2).bind fun env' S3 => (evIt it2 env' S3).bind fun q S4 =>
      loopC q.2 (fun y S5 => (evTg t2 y (wipeE env' own2) S5).bind fun env2 S6 => (evE e env2 S6).bind fun v S7 => .ok (some v) S7) q.1 acc S4) p.1 [] S1).bind fun ys S6 => newL al ys S6
  | .callK f es ks, env, S => (evEs es env S).bind fun ds S1 => (evEs ks env S1).bind fun es S2 => C.call f (ds ++ es) S2
  | .newK c es ks, env, S => (evEs es env S).bind fun ds S1 => (evEs ks env S1).bind fun es S' => match C.P.cls[c]? with
    | some cl => (C.call cl.init (.loc S'.length :: (ds ++ es)) (S' ++ [.ins c []])).bind fun d S2 => match d with
      | .non => .ok (.loc S'.length) S2
      | _ => .bad
    | none => .bad
  | .mth o r es, env, S => (evE r env S).bind fun x S1 => if mthOk o S1 x then (evEs es env S1).bind fun ds S2 => (opSem C.P o (x :: ds) S2).calm else .bad
  | .callv g es, env, S => (evE g env S).bind fun x S1 => match x with
    | .fn f => (evEs es env S1).bind fun ds S' => C.call f ds S'
    | _ => .bad
  | .caught e, env, S => match evE e env S with
    | .ok _ S' => .ok .non S'
    | .err x S' => match x with
      | .exc c _ => if isSub C.P c C.P.top then .ok x S' else .bad
      | _ => .bad
    | .bad => .bad
def evEs : Es → Env → Sto → R (List D)
  | .nil, _, S => .ok [] S
  | .cons e r, env, S => (evE e env S).bind fun d S1 => (evEs r env S1).bind fun ds S2 => .ok (d :: ds) S2
def evIt : It → Env → Sto → R (List D × Ck)
  | .of e, env, S => (evE e env S).bind fun d S1 => R.lift S1 (spans S1 d)
  | .keys i, env, S => match env[i]? with
    | some (some d) => R.lift S (keysAt S d)
    | _ => .bad
  | .rng e, env, S => (evE e env S).bind fun d S1 => match d with
    | .int n => if -(big : Int) ≤ n ∧ n ≤ big then .ok (upto 0 n.toNat, .no) S1 else .bad
    | _ => .bad
  | .rng2 a b, env, S => (evE a env S).bind fun x S1 => (evE b env S1).bind fun y S2 => match x, y with
    | .int i, .int j => if -(big : Int) ≤ i ∧ i ≤ big ∧ -(big : Int) ≤ j ∧ j ≤ big then .ok (upto i (j - i).toNat, .no) S2 else .bad
    | _, _ => .bad
  | .zip a b, env, S => (evE a env S).bind fun x S1 => (evE b env S1).bind fun y S2 => match x, y with
    | .tup xs, .tup ys => .ok (pairUp xs ys, .no) S2
    | .lst xs, .lst ys => .ok (pairUp xs ys, .no) S2
    | _, _ => .bad
  | .enum e, env, S => (evE e env S).bind fun d S1 => match spans S1 d with
    | some (xs, .no) => .ok (numbered 0 xs, .no) S1
    | some (xs, .lst a _) => .ok (numbered 0 xs, .lst a xs) S1
    | _ => .bad
def evTg : Tg → D → Env → Sto → R Env
  | .nm i, d, env, S => .ok (env.set i (some d)) S
  | .tp ts, d, env, S => match d with
    | .tup xs => if xs.length = ts.len then evTgs ts xs env S else .bad
    | _ => .bad
  | .sub o i, d, env, S => (evE o env S).bind fun x S1 => (evE i env S1).bind fun k S2 => match x with
    | .loc a => match S2[a]? with
      | some (.lst xs) => match k with
        | .int j => match ix xs.length j with
          | some n => .ok env (S2.set a (.lst (xs.set n d)))
          | none => .bad
        | _ => .bad
      | some (.dct kvs false) => if isKey k && decide (kvs.length < big) then .ok env (S2.set a (.dct (put kvs k d) false)) else .bad
      | _ => .bad
    | _ => .bad
  | .fld f o, d, env, S => (evE o env S).bind fun x S1 => match x with
    | .loc a => match S1[a]? with
      | some (.ins c fs) => match C.P.cls[c]? with
        | some cl => if cl.flds.contains f && decide (fs.length < 900) then .ok env (S1.set a (.ins c (putFd f d fs))) else .bad
        | none => .bad
      | _ => .bad
    | _ => .bad
def evTgs : Tgs → List D → Env → Sto → R Env
  | .nil, ds, env, S => match ds with
    | [] => .ok env S
    | _ => .bad
  | .cons t r, ds, env, S => match ds with
    | d :: rest => (evTg t d env S).bind fun env' S' => evTgs r rest env' S'
    | [] => .bad
end
mutual
def evS : Sm → Env → Sto → R (Fl × Env)
  | .asg t e, env, S => (evE C e env S).bind fun d S1 => (evTg C t d env S1).bind fun env' S2 => .ok (.nx, env') S2
  | .aug i o e, env, S => match env[i]? with
    | some (some x) => (evE C e env S).bind fun y S1 => match x, y with
      | .int _, .int _ => (opSem C.P o [x, y] S1).calm.bind fun z S2 => .ok (.nx, env.set i (some z)) S2
      | _, _ => .bad
    | _ => .bad
  | .expr e, env, S => (evE C e env S).bind fun _ S1 => .ok (.nx, env) S1
  | .ret e, env, S => (evE C e env S).bind fun d S1 => .ok (.rt d, env) S1
  | .retN, env, S => .ok (.rt .non, env) S
  | .ite c a b, env, S => (evE C c env S).bind fun x S1 => match x with
    | .bl true => evSs a env S1
    | .bl false => evSs b env S1
    | _ => .bad
  | .forS t it b, env, S => (evIt C it env S).bind fun p S1 =>
    (loopF p.2 (fun x env1 S2 => (evTg C t x env1 S2).bind fun env2 S3 => evSs b env2 S3) p.1 env (p.2.lock S1)).bind fun q S3 => .ok q (p.2.free S3)
  | .whl c b, env, S => loopW (evE C c) (evSs b) C.W env S
  | .raise c es, env, S => (evEs C es env S).bind fun ds S1 => match C.P.cls[c]? with
    | some cl => if cl.flds.isEmpty then .err (.exc c []) S1 else .bad
    | none => .bad
  | .brk, env, S => .ok (.bk, env) S
  | .cnt, env, S => .ok (.ct, env) S
  | .pass, env, S => .ok (.nx, env) S
def evSs : Sms → Env → Sto → R (Fl × Env)
  | .nil, env, S => .ok (.nx, env) S
  | .cons s r, env, S => (evS s env S).bind fun p S1 => match p.1 with
    | .nx => evSs r p.2 S1
    | _ => .ok p S1
end
def fin (keep : Bool) (S : Sto) (r : R (Fl × Env)) : R D := match r with
  | .ok p S' =>
    let d := match p.1 with
      | .rt d => d
      | _ => .non
    match p.1 with
    | .bk => .bad
    | .ct => .bad
    | _ => if keep then .ok d S' else if oldOk S.length S S' then (match frz S.length S' 8 d with
      | some d' => .ok d' (S'.take S.length)
      | none => .ok d S') else .ok d S'
  | .err e S' => if !keep && oldOk S.length S S' && e.und S.length then .err e (S'.take S.length) else .err e S'
  | .bad => .bad
/-- a def called: n calls deep at most -/
def callF (P : Prog) (W : Nat) : Nat → Nat → List D → Sto → R D
  | 0, _, _, _ => .bad
  | n + 1, f, ds, S => match P.fns[f]? with
    | some fn => if ds.length = fn.np then fin fn.keep S (evSs ⟨P, W, callF P W n⟩ fn.body (ds.map some ++ List.replicate (fn.ns - fn.np) none) S) else .bad
    | none => .bad
end Sa
set_option maxHeartbeats 1000000
/-! How the code's values and store stand in HandS's abstract heap. -/
namespace Sa
open PySem L2

/-- where the text's things stand: defs, classes, the names of fields and methods -/
structure Nm where
  fA : Nat → Addr
  cA : Nat → Addr
  fl : Nat → Str
  /-- the tables of code objects -/
  tb : List (Addr × Str)
  /-- things that a comprehension under way changes: the store does not tell them -/
  pv : List (Addr × HO) := []
/-- the same names, this hidden -/
abbrev Nm.at (N : Nm) (pv : List (Addr × HO)) : Nm := { N with pv := pv }
/-- known to nobody who might change it -/
def Fr (N : Nm) (ρ : List Addr) (p : Addr) : Prop := p ∉ ρ ∧ p ∉ N.pv.map Prod.fst
def keyD : Key → D
  | .inl i => .int i
  | .inr x => .str x
/-- an error that was caught, at p -/
def ExV (cls : Value) (d : Option Addr) (p : Addr) : HO := .ext fun h => ∃ (oe : Obj) (vs : Array Value), h.get? p = some oe ∧ oe.cls = cls ∧ oe.dict = d ∧ oe.data = .fields vs
variable (K : PySem.W.Frag) (N : Nm)
def TupAt (ρ : List Addr) (H : Hp) (p : Addr) (vs : List V) : Prop := SqT K H p vs ∧ (Rd H p (.tup vs) ∧ Fr N ρ p ∨ SqT K (fun _ => none) p vs)
def RoAt (ρ : List Addr) (H : Hp) (p : Addr) (vs : List V) : Prop := SqL K H p vs ∧ (Rd H p (.lst vs) ∧ Fr N ρ p ∨ SqL K (fun _ => none) p vs)
mutual
def Rep (ρ : List Addr) (H : Hp) : D → V → Prop
  | .non, v => v = .non
  | .bl b, v => v = .bl b
  | .int i, v => v = .int i
  | .str x, v => v = .str x
  | .tup xs, v => ∃ p vs, v = .ref p ∧ TupAt K N ρ H p vs ∧ Reps ρ H xs vs
  | .lst xs, v => ∃ p vs, v = .ref p ∧ (H p = some (.lst vs) ∧ Fr N ρ p) ∧ Reps ρ H xs vs
  | .ro xs, v => ∃ p vs, v = .ref p ∧ RoAt K N ρ H p vs ∧ Reps ρ H xs vs
  | .dct ks ws, v => ∃ p kvs, v = .ref p ∧ Rd H p (.dK kvs) ∧ Fr N ρ p ∧ ks = kvs.map (fun q => keyD q.1) ∧ Reps ρ H ws (kvs.map (·.2))
  | .loc a, v => ∃ p, v = .ref p ∧ ρ[a]? = some p
  | .fn f, v => v = .ref (N.fA f)
  | .cls c, v => v = .ref (N.cA c)
  | .exc c fs, v => ∃ p, v = .ref p ∧ Fr N ρ p ∧ ∃ d, H p = some (ExV (.ref (N.cA c)) d p) ∧ match d with
    | none => fs = []
    | some dx => Fr N ρ dx ∧ ∃ us, H dx = some (.xd us) ∧ Reps ρ H fs (us.map (·.2))
def Reps (ρ : List Addr) (H : Hp) : List D → List V → Prop
  | [], vs => vs = []
  | x :: r, vs => ∃ v w, vs = v :: w ∧ Rep ρ H x v ∧ Reps ρ H r w
end
/-- the kind of a thing: list, dict, instance -/
def kho : HO → Nat
  | .lst _ => 1
  | .dK _ => 2
  | .frz _ (.dK _) => 2
  | .ins _ _ _ => 3
  | _ => 0
def khoA (H : Hp) (p : Addr) : Nat := match H p with
  | some u => kho u
  | none => 0
theorem khoA_eq {H : Hp} {p : Addr} {u : HO} (h : H p = some u) : khoA H p = kho u := by unfold khoA; rw [h]
theorem khoA_upd {H : Hp} {p q : Addr} {u : HO} (h : q ≠ p) : khoA (upd H p u) q = khoA H q := by unfold khoA; rw [upd_ne h]
/-- a thing that is no table -/
def Sol (H : Hp) (p : Addr) : Prop := ∃ o, H p = some o ∧ ∀ ps, o ≠ .tbl ps
theorem Sol.nope {H : Hp} {p : Addr} (h : H p = none) : ¬ Sol H p := fun ⟨o, e, _⟩ => by rw [h] at e; cases e
theorem Sol.upd_ne {H : Hp} {p q : Addr} {u : HO} (h : q ≠ p) : Sol (upd H p u) q ↔ Sol H q := by unfold Sol; rw [L2.upd_ne h]
theorem Sol.upd_same {H : Hp} {p : Addr} {u : HO} (h : ∀ ps, u ≠ .tbl ps) : Sol (upd H p u) p := ⟨u, L2.upd_same, h⟩
theorem Sol.ne {H : Hp} {p q : Addr} (h : Sol H q) (h' : H p = Option.none) : q ≠ p := fun e => Sol.nope h' (by rw [← e]; exact h)
/-- what grows: the map of places, the heap but for what the store tells -/
structure Ext (N : Nm) (ρ : List Addr) (H : Hp) (ρ' : List Addr) (H' : Hp) : Prop where
  pre : ∃ new, ρ' = ρ ++ new ∧ ∀ p ∈ new, ¬ Sol H p
  keep : ∀ p o, H p = some o → (∀ ps, o ≠ .tbl ps) → Fr N ρ p → H' p = some o
  stay : ∀ p, Sol H p → Sol H' p
  frz : ∀ p od u, H p = some (.frz od u) → H' p = some (.frz od u)
  knd : ∀ p, p ∈ ρ → khoA H' p = khoA H p
variable {K N} {ρ ρ' ρ1 ρ2 : List Addr} {H H' H1 H2 : Hp}
theorem Ext.refl : Ext N ρ H ρ H := ⟨⟨[], by simp, by simp⟩, fun _ _ h _ _ => h, fun _ h => h, fun _ _ _ h => h, fun _ _ => rfl⟩
theorem Ext.trans (a : Ext N ρ H ρ1 H1) (b : Ext N ρ1 H1 ρ2 H2) : Ext N ρ H ρ2 H2 := by
  obtain ⟨n1, e1, f1⟩ := a.pre
  obtain ⟨n2, e2, f2⟩ := b.pre
  refine ⟨⟨n1 ++ n2, by rw [e2, e1, List.append_assoc], fun p hp => ?_⟩, fun p o h t hn => ?_, fun p h => b.stay p (a.stay p h), fun p od u h => b.frz p od u (a.frz p od u h), fun p h => (b.knd p (by rw [e1]; exact List.mem_append_left _ h)).trans (a.knd p h)⟩
  · rcases List.mem_append.mp hp with h | h
    · exact f1 p h
    · exact fun z => f2 p h (a.stay p z)
  · refine b.keep p o (a.keep p o h t hn) t ⟨?_, hn.2⟩
    rw [e1]
    intro hm
    rcases List.mem_append.mp hm with h' | h'
    · exact hn.1 h'
    · exact f1 p h' ⟨o, h, t⟩
theorem Ext.sub (e : Ext N ρ H ρ' H') {p : Addr} (h : p ∈ ρ) : p ∈ ρ' := by
  obtain ⟨n, e1, _⟩ := e.pre
  rw [e1]; exact List.mem_append_left _ h
theorem Ext.get (e : Ext N ρ H ρ' H') {i : Nat} {p : Addr} (h : ρ[i]? = some p) : ρ'[i]? = some p := by
  obtain ⟨n, e1, _⟩ := e.pre
  rw [e1, List.getElem?_append_left (List.getElem?_eq_some_iff.mp h).1]; exact h
theorem Ext.out (e : Ext N ρ H ρ' H') {p : Addr} (h : Fr N ρ p) (ho : Sol H p) : Fr N ρ' p := by
  obtain ⟨n, e1, f⟩ := e.pre
  refine ⟨?_, h.2⟩
  rw [e1]
  intro hm
  rcases List.mem_append.mp hm with h' | h'
  · exact h.1 h'
  · exact f p h' ho
theorem Ext.len (e : Ext N ρ H ρ' H') : ρ.length ≤ ρ'.length := by
  obtain ⟨n, e1, _⟩ := e.pre
  rw [e1, List.length_append]; omega
theorem Ext.take (e : Ext N ρ H ρ' H') : ρ'.take ρ.length = ρ := by
  obtain ⟨n, e1, _⟩ := e.pre
  rw [e1]; simp
/-- a new thing that the store does not tell -/
theorem Ext.junk {p : Addr} {o : HO} (h : H p = none) (hn : p ∉ ρ) : Ext N ρ H ρ (upd H p o) := by
  refine ⟨⟨[], by simp, by simp⟩, fun q u e _ _ => ?_, fun q e => (Sol.upd_ne (e.ne h)).mpr e, fun q od u e => ?_, fun q hq => khoA_upd (fun z => hn (by rw [← z]; exact hq))⟩
  · rw [upd_ne (ne_of_none e h)]; exact e
  · rw [upd_ne (ne_of_none e h)]; exact e
/-- a new thing of the store -/
theorem Ext.new {p : Addr} {o : HO} (h : H p = none) (hn : p ∉ ρ) : Ext N ρ H (ρ ++ [p]) (upd H p o) :=
  ⟨⟨[p], rfl, by intro q hq; simp at hq; rw [hq]; exact Sol.nope h⟩, (Ext.junk (N := N) (ρ := ρ) h hn).keep, (Ext.junk (N := N) (ρ := ρ) h hn).stay, (Ext.junk (N := N) (ρ := ρ) h hn).frz, (Ext.junk (N := N) (ρ := ρ) h hn).knd⟩
/-- a thing of the store changes -/
theorem Ext.write {p : Addr} {o : HO} (h : p ∈ ρ) (hs : ∀ ps, o ≠ .tbl ps) (hz : ∀ od u, H p ≠ some (.frz od u)) (hk : kho o = khoA H p) : Ext N ρ H ρ (upd H p o) := by
  refine ⟨⟨[], by simp, by simp⟩, fun q u e _ n => ?_, fun q e => ?_, fun q od u e => ?_, fun q hq => ?_⟩
  · rw [upd_ne (fun z => n.1 (by rw [z]; exact h))]; exact e
  · by_cases z : q = p
    · rw [z]; exact Sol.upd_same hs
    · exact (Sol.upd_ne z).mpr e
  · rw [upd_ne (fun z => hz od u (by rw [← z]; exact e))]; exact e
  · by_cases z : q = p
    · rw [z, khoA_eq upd_same]; exact hk
    · exact khoA_upd z
/-- all but the tables stay -/
theorem Ext.tabs (e : LamX.ExtN H H') (hk : ∀ p ∈ ρ, Sol H p) : Ext N ρ H ρ H' := by
  refine ⟨⟨[], by simp, by simp⟩, fun q u h t n => e q u h t, fun q ⟨o, h, t⟩ => ⟨o, e q o h t, t⟩, fun q od u h => e q _ h (fun ps z => by cases z), fun q hq => ?_⟩
  obtain ⟨o, h, t⟩ := hk q hq
  rw [khoA_eq h, khoA_eq (e q o h t)]

/-! ### growing keeps what values stand for -/
theorem rd_mono {p : Addr} {u : HO} (e : Ext N ρ H ρ' H') (hn : Fr N ρ p) (ht : ∀ ps, u ≠ .tbl ps) (h : Rd H p u) : Rd H' p u := by
  rcases h with h | ⟨o, h⟩
  · exact .inl (e.keep p u h ht hn)
  · exact .inr ⟨o, e.keep p _ h (fun ps z => by cases z) hn⟩
theorem rd_sol {p : Addr} {u : HO} (ht : ∀ ps, u ≠ .tbl ps) (h : Rd H p u) : Sol H p := by
  rcases h with h | ⟨o, h⟩
  · exact ⟨_, h, ht⟩
  · exact ⟨_, h, fun ps z => by cases z⟩
theorem rd_some {p : Addr} {u : HO} (h : Rd H p u) : ∃ o, H p = some o := by
  rcases h with h | ⟨o, h⟩
  · exact ⟨_, h⟩
  · exact ⟨_, h⟩
theorem sqt_k {K : PySem.W.Frag} {p : Addr} {vs : List V} (h : SqT K (fun _ => none) p vs) (H : Hp) : SqT K H p vs := by
  rcases h with (h | ⟨o, h⟩) | h
  · cases h
  · cases h
  · exact .inr h
theorem sql_k {K : PySem.W.Frag} {p : Addr} {vs : List V} (h : SqL K (fun _ => none) p vs) (H : Hp) : SqL K H p vs := by
  rcases h with (h | ⟨o, h⟩) | h
  · cases h
  · cases h
  · exact .inr h
theorem TupAt.mono {p : Addr} {vs : List V} (e : Ext N ρ H ρ' H') (h : TupAt K N ρ H p vs) : TupAt K N ρ' H' p vs := by
  obtain ⟨h1, h2 | h2⟩ := h
  · obtain ⟨r, n⟩ := h2
    obtain ⟨o, ho⟩ := rd_some r
    have r' := rd_mono e n (fun ps z => by cases z) r
    exact ⟨.inl r', .inl ⟨r', e.out n (rd_sol (fun ps z => by cases z) r)⟩⟩
  · exact ⟨sqt_k h2 _, .inr h2⟩
theorem RoAt.mono {p : Addr} {vs : List V} (e : Ext N ρ H ρ' H') (h : RoAt K N ρ H p vs) : RoAt K N ρ' H' p vs := by
  obtain ⟨h1, h2 | h2⟩ := h
  · obtain ⟨r, n⟩ := h2
    obtain ⟨o, ho⟩ := rd_some r
    have r' := rd_mono e n (fun ps z => by cases z) r
    exact ⟨.inl r', .inl ⟨r', e.out n (rd_sol (fun ps z => by cases z) r)⟩⟩
  · exact ⟨sql_k h2 _, .inr h2⟩
mutual
theorem Rep.mono (e : Ext N ρ H ρ' H') : ∀ {d : D} {v : V}, Rep K N ρ H d v → Rep K N ρ' H' d v
  | .non, _, h => h
  | .bl _, _, h => h
  | .int _, _, h => h
  | .str _, _, h => h
  | .tup xs, v, h => by
    obtain ⟨p, vs, e1, t, r⟩ := h
    exact ⟨p, vs, e1, t.mono e, Reps.mono e r⟩
  | .lst xs, v, h => by
    obtain ⟨p, vs, e1, ⟨t, n⟩, r⟩ := h
    exact ⟨p, vs, e1, ⟨e.keep p _ t (fun ps z => by cases z) n, e.out n ⟨_, t, fun ps z => by cases z⟩⟩, Reps.mono e r⟩
  | .ro xs, v, h => by
    obtain ⟨p, vs, e1, t, r⟩ := h
    exact ⟨p, vs, e1, t.mono e, Reps.mono e r⟩
  | .dct ks ws, v, h => by
    obtain ⟨p, kvs, e1, t, n, ek, r⟩ := h
    obtain ⟨o, ho⟩ := rd_some t
    exact ⟨p, kvs, e1, rd_mono e n (fun ps z => by cases z) t, e.out n (rd_sol (fun ps z => by cases z) t), ek, Reps.mono e r⟩
  | .loc a, v, h => by
    obtain ⟨p, e1, g⟩ := h
    exact ⟨p, e1, e.get g⟩
  | .fn _, _, h => h
  | .cls _, _, h => h
  | .exc c fs, v, h => by
    obtain ⟨p, e1, n, d, hp, hd⟩ := h
    refine ⟨p, e1, e.out n ⟨_, hp, fun ps z => by cases z⟩, d, e.keep p _ hp (fun ps z => by cases z) n, ?_⟩
    cases d with
    | none => exact hd
    | some dx =>
      obtain ⟨n2, us, h2, r⟩ := hd
      exact ⟨e.out n2 ⟨_, h2, fun ps z => by cases z⟩, us, e.keep dx _ h2 (fun ps z => by cases z) n2, Reps.mono e r⟩
theorem Reps.mono (e : Ext N ρ H ρ' H') : ∀ {xs : List D} {vs : List V}, Reps K N ρ H xs vs → Reps K N ρ' H' xs vs
  | [], _, h => h
  | x :: r, vs, h => by
    obtain ⟨v, w, e1, a, b⟩ := h
    exact ⟨v, w, e1, Rep.mono e a, Reps.mono e b⟩
end
theorem Reps.length : ∀ {xs : List D} {vs : List V}, Reps K N ρ H xs vs → vs.length = xs.length
  | [], _, h => by rw [show _ = [] from h]; rfl
  | x :: r, vs, h => by
    obtain ⟨v, w, rfl, _, b⟩ := h
    simp [Reps.length b]
theorem Reps.get : ∀ {xs : List D} {vs : List V} {i : Nat} {d : D}, Reps K N ρ H xs vs → xs[i]? = some d → ∃ v, vs[i]? = some v ∧ Rep K N ρ H d v
  | [], _, i, d, _, g => by simp at g
  | x :: r, vs, 0, d, h, g => by
    obtain ⟨v, w, rfl, a, _⟩ := h
    simp at g; subst g
    exact ⟨v, rfl, a⟩
  | x :: r, vs, i + 1, d, h, g => by
    obtain ⟨v, w, rfl, _, b⟩ := h
    obtain ⟨u, h1, h2⟩ := Reps.get (i := i) b (by simpa using g)
    exact ⟨u, by simpa using h1, h2⟩
theorem Reps.getV : ∀ {xs : List D} {vs : List V} {i : Nat} {v : V}, Reps K N ρ H xs vs → vs[i]? = some v → ∃ d, xs[i]? = some d ∧ Rep K N ρ H d v := by
  intro xs vs i v h g
  have hl := h.length
  have hi := (List.getElem?_eq_some_iff.mp g).1
  have hx : i < xs.length := by omega
  obtain ⟨u, h1, h2⟩ := h.get (i := i) (d := xs[i]) (by simp [hx])
  rw [g] at h1; cases h1
  exact ⟨xs[i], by simp [hx], h2⟩
theorem Reps.append : ∀ {xs ys : List D} {vs ws : List V}, Reps K N ρ H xs vs → Reps K N ρ H ys ws → Reps K N ρ H (xs ++ ys) (vs ++ ws)
  | [], ys, _, ws, h, h' => by rw [show _ = [] from h]; exact h'
  | x :: r, ys, vs, ws, h, h' => by
    obtain ⟨v, w, rfl, a, b⟩ := h
    exact ⟨v, w ++ ws, rfl, a, Reps.append b h'⟩
theorem Reps.take : ∀ {xs : List D} {vs : List V} (n : Nat), Reps K N ρ H xs vs → Reps K N ρ H (xs.take n) (vs.take n)
  | [], _, n, h => by rw [show _ = [] from h]; simp [Reps]
  | x :: r, vs, 0, h => by simp [Reps]
  | x :: r, vs, n + 1, h => by
    obtain ⟨v, w, rfl, a, b⟩ := h
    exact ⟨v, w.take n, by simp, a, Reps.take n b⟩
theorem Reps.drop : ∀ {xs : List D} {vs : List V} (n : Nat), Reps K N ρ H xs vs → Reps K N ρ H (xs.drop n) (vs.drop n)
  | [], _, n, h => by rw [show _ = [] from h]; simp [Reps]
  | x :: r, vs, 0, h => by simpa using h
  | x :: r, vs, n + 1, h => by
    obtain ⟨v, w, rfl, a, b⟩ := h
    simpa using Reps.drop n b
theorem Reps.set : ∀ {xs : List D} {vs : List V} (n : Nat) {d : D} {v : V}, Reps K N ρ H xs vs → Rep K N ρ H d v → Reps K N ρ H (xs.set n d) (vs.set n v)
  | [], _, n, d, v, h, _ => by rw [show _ = [] from h]; simp [Reps]
  | x :: r, vs, 0, d, v, h, q => by
    obtain ⟨u, w, rfl, a, b⟩ := h
    exact ⟨v, w, by simp, q, b⟩
  | x :: r, vs, n + 1, d, v, h, q => by
    obtain ⟨u, w, rfl, a, b⟩ := h
    exact ⟨u, w.set n v, by simp, a, Reps.set n b q⟩
theorem Reps.one {d : D} {v : V} (h : Rep K N ρ H d v) : Reps K N ρ H [d] [v] := ⟨v, [], rfl, h, rfl⟩
theorem Reps.reverse : ∀ {xs : List D} {vs : List V}, Reps K N ρ H xs vs → Reps K N ρ H xs.reverse vs.reverse
  | [], _, h => by rw [show _ = [] from h]; simp [Reps]
  | x :: r, vs, h => by
    obtain ⟨v, w, rfl, a, b⟩ := h
    rw [List.reverse_cons, List.reverse_cons]
    exact (Reps.reverse b).append (Reps.one a)
theorem Reps.dropLast {xs : List D} {vs : List V} (h : Reps K N ρ H xs vs) : Reps K N ρ H xs.dropLast vs.dropLast := by
  rw [List.dropLast_eq_take, List.dropLast_eq_take, h.length]
  exact h.take _
theorem Reps.eraseIdx : ∀ {xs : List D} {vs : List V} (n : Nat), Reps K N ρ H xs vs → Reps K N ρ H (xs.eraseIdx n) (vs.eraseIdx n)
  | [], _, n, h => by rw [show _ = [] from h]; simp [Reps]
  | x :: r, vs, 0, h => by
    obtain ⟨v, w, rfl, a, b⟩ := h
    simpa using b
  | x :: r, vs, n + 1, h => by
    obtain ⟨v, w, rfl, a, b⟩ := h
    exact ⟨v, w.eraseIdx n, by simp, a, Reps.eraseIdx n b⟩
/-- all of one list -/
theorem reps_map {α : Type} {f : α → D} {g : α → V} (h : ∀ a, Rep K N ρ H (f a) (g a)) : ∀ xs : List α, Reps K N ρ H (xs.map f) (xs.map g)
  | [] => by simp [Reps]
  | a :: r => ⟨g a, r.map g, rfl, h a, reps_map h r⟩

/-! ### the store -/
def RepKv (K : PySem.W.Frag) (N : Nm) (ρ : List Addr) (H : Hp) (kvs : List (D × D)) (kws : List (Key × V)) : Prop :=
  kvs.map (·.1) = kws.map (fun q => keyD q.1) ∧ Reps K N ρ H (kvs.map (·.2)) (kws.map (·.2))
def RepFs (K : PySem.W.Frag) (N : Nm) (ρ : List Addr) (H : Hp) (fs : List (Nat × D)) (us : List (Str × V)) : Prop :=
  us.map (·.1) = fs.map (fun q => N.fl q.1) ∧ Reps K N ρ H (fs.map (·.2)) (us.map (·.2))
def RepO (K : PySem.W.Frag) (N : Nm) (ρ : List Addr) (H : Hp) (p : Addr) : Ob → Prop
  | .lst xs => ∃ vs, H p = some (.lst vs) ∧ Reps K N ρ H xs vs
  | .dct kvs lk => ∃ kws, (if lk then ∃ od, H p = some (.frz od (.dK kws)) else H p = some (.dK kws)) ∧ RepKv K N ρ H kvs kws
  | .ins c fs => ∃ dx us, H p = some (.ins (N.cA c) dx us) ∧ RepFs K N ρ H fs us
structure Sim (K : PySem.W.Frag) (N : Nm) (ρ : List Addr) (S : Sto) (H : Hp) : Prop where
  len : ρ.length = S.length
  nd : ρ.Nodup
  obs : ∀ (i : Nat) (o : Ob) (p : Addr), S[i]? = some o → ρ[i]? = some p → RepO K N ρ H p o
  tabs : LamX.Tabs N.tb H
  pv : ∀ q ∈ N.pv, q.1 ∉ ρ ∧ H q.1 = some q.2 ∧ ∀ ps, q.2 ≠ .tbl ps
section
variable {S S' : Sto} {p : Addr} {o : Ob} {u : HO}
theorem RepO.some_ (h : RepO K N ρ H p o) : ∃ u, H p = some u ∧ (∀ ps, u ≠ .tbl ps) ∧ (∀ vs, u ≠ .tup vs) ∧ (∀ z, u ≠ .own z) := by
  cases o with
  | lst xs =>
    obtain ⟨vs, h1, _⟩ := h
    refine ⟨_, h1, ?_, ?_, ?_⟩
    all_goals intro a e
    all_goals cases e
  | dct kvs lk =>
    obtain ⟨kws, h1, _⟩ := h
    cases lk with
    | true =>
      obtain ⟨od, h1⟩ := h1
      refine ⟨_, h1, ?_, ?_, ?_⟩
      all_goals intro a e
      all_goals cases e
    | false =>
      refine ⟨_, h1, ?_, ?_, ?_⟩
      all_goals intro a e
      all_goals cases e
  | ins c fs =>
    obtain ⟨dx, us, h1, _⟩ := h
    refine ⟨_, h1, ?_, ?_, ?_⟩
    all_goals intro a e
    all_goals cases e
theorem RepO.noTblA (h : RepO K N ρ H p o) (hu : H p = some u) : ∀ ps, u ≠ .tbl ps := by
  obtain ⟨v, e, n, _⟩ := h.some_
  rw [hu] at e; cases e; exact n
theorem Sim.there (s : Sim K N ρ S H) (h : p ∈ ρ) : ∃ u, H p = some u ∧ (∀ ps, u ≠ .tbl ps) ∧ (∀ vs, u ≠ .tup vs) ∧ (∀ z, u ≠ .own z) := by
  obtain ⟨i, hi, e⟩ := List.getElem_of_mem h
  have hS : i < S.length := by rw [← s.len]; exact hi
  exact (s.obs i S[i] p (by simp [hS]) (by rw [List.getElem?_eq_getElem hi, e])).some_
theorem Sim.fresh (s : Sim K N ρ S H) (h : H p = none) : Fr N ρ p := ⟨fun hm => (by
  obtain ⟨u, e, _⟩ := s.there hm
  rw [h] at e; cases e), fun hm => by
  obtain ⟨q, hq, e⟩ := List.mem_map.mp hm
  have z := (s.pv q hq).2.1
  rw [e, h] at z; cases z⟩
theorem Sim.noTbl (s : Sim K N ρ S H) (h : p ∈ ρ) : ∀ ps, H p ≠ some (.tbl ps) := fun ps e => by
  obtain ⟨u, e', n, _⟩ := s.there h
  rw [e] at e'; cases e'; exact n ps rfl
theorem RepO.mono (e : Ext N ρ H ρ' H') (hp : H' p = H p) (h : RepO K N ρ H p o) : RepO K N ρ' H' p o := by
  cases o with
  | lst xs =>
    obtain ⟨vs, h1, r⟩ := h
    exact ⟨vs, by rw [hp]; exact h1, r.mono e⟩
  | dct kvs lk =>
    obtain ⟨kws, h1, r1, r2⟩ := h
    refine ⟨kws, ?_, r1, r2.mono e⟩
    rw [hp]; exact h1
  | ins c fs =>
    obtain ⟨dx, us, h1, r1, r2⟩ := h
    exact ⟨dx, us, by rw [hp]; exact h1, r1, r2.mono e⟩
theorem tabs_upd {T : List (Addr × Str)} (h : LamX.Tabs T H) (hn : H p = none) : LamX.Tabs T (upd H p u) :=
  h.ext fun b o e => by rw [upd_ne (ne_of_none e hn)]; exact e
theorem tabS_of {P : Addr} {q : Str} (h : LamX.TabS H P q) (keep : ∀ b o, H b = some o → ((∃ ps, o = .tbl ps) ∨ (∃ c q, o = LamX.CodeO c q)) → H' b = some o) : LamX.TabS H' P q := by
  obtain ⟨ps, h1, h2, h3⟩ := h
  refine ⟨ps, keep _ _ h1 (.inl ⟨_, rfl⟩), h2, fun pos cv hc => ?_⟩
  obtain ⟨c, e1, e2⟩ := h3 pos cv hc
  exact ⟨c, e1, keep _ _ e2 (.inr ⟨_, _, rfl⟩)⟩
theorem RepO.noExt (h : RepO K N ρ H p o) : ∀ φ, H p ≠ some (.ext φ) := fun φ e => by
  cases o with
  | lst xs => obtain ⟨vs, h1, _⟩ := h; rw [e] at h1; cases h1
  | dct kvs lk =>
    obtain ⟨kws, h1, _⟩ := h
    cases lk with
    | true => obtain ⟨od, h1⟩ := h1; rw [e] at h1; cases h1
    | false => rw [if_neg (by simp), e] at h1; cases h1
  | ins c fs => obtain ⟨dx, us, h1, _⟩ := h; rw [e] at h1; cases h1
theorem Sim.noExt (s : Sim K N ρ S H) (h : p ∈ ρ) : ∀ φ, H p ≠ some (.ext φ) := by
  obtain ⟨i, hi, e⟩ := List.getElem_of_mem h
  have hS : i < S.length := by rw [← s.len]; exact hi
  exact (s.obs i S[i] p (by simp [hS]) (by rw [List.getElem?_eq_getElem hi, e])).noExt
/-- a thing that the store does not tell is laid -/
theorem Sim.junk (s : Sim K N ρ S H) (h : H p = none) : Sim K N ρ S (upd H p u) := by
  refine ⟨s.len, s.nd, fun i o q h1 h2 => ?_, tabs_upd s.tabs h, fun q hq => ⟨(s.pv q hq).1, by rw [upd_ne (ne_of_none (s.pv q hq).2.1 h)]; exact (s.pv q hq).2⟩⟩
  have hq : q ≠ p := fun z => (s.fresh h).1 (by rw [← z]; exact List.mem_of_getElem? h2)
  exact (s.obs i o q h1 h2).mono (Ext.junk h (s.fresh h).1) (upd_ne hq)
/-- a thing of the store is laid -/
theorem Sim.new (s : Sim K N ρ S H) (h : H p = none) (r : RepO K N (ρ ++ [p]) (upd H p u) p o) : Sim K N (ρ ++ [p]) (S ++ [o]) (upd H p u) := by
  have hp := s.fresh h
  refine ⟨by simp [s.len], ?_, fun i o' q h1 h2 => ?_, tabs_upd s.tabs h, fun q hq => ⟨?_, by rw [upd_ne (ne_of_none (s.pv q hq).2.1 h)]; exact (s.pv q hq).2⟩⟩
  · rw [List.nodup_append]
    refine ⟨s.nd, by simp, fun a ha b hb e => ?_⟩
    simp at hb
    rw [e, hb] at ha
    exact hp.1 ha
  · by_cases hi : i < S.length
    · rw [List.getElem?_append_left hi] at h1
      rw [List.getElem?_append_left (by rw [s.len]; exact hi)] at h2
      have hq : q ≠ p := fun z => hp.1 (by rw [← z]; exact List.mem_of_getElem? h2)
      exact (s.obs i o' q h1 h2).mono (Ext.new h (s.fresh h).1) (upd_ne hq)
    · have hi' : i = S.length := by
        have := (List.getElem?_eq_some_iff.mp h1).1
        simp at this; omega
      subst hi'
      rw [← s.len] at h2
      simp at h1 h2
      rw [← h1, ← h2]
      exact r
  · intro hm
    rcases List.mem_append.mp hm with z | z
    · exact (s.pv q hq).1 z
    · simp at z
      have w := (s.pv q hq).2.1
      rw [z, h] at w; cases w
/-- a thing of the store changes -/
theorem Sim.write (s : Sim K N ρ S H) {a : Nat} (h : ρ[a]? = some p) (hz : ∀ od u, H p ≠ some (.frz od u)) (hk : kho u = khoA H p) (r : RepO K N ρ (upd H p u) p o) : Sim K N ρ (S.set a o) (upd H p u) := by
  have hm : p ∈ ρ := List.mem_of_getElem? h
  refine ⟨by simp [s.len], s.nd, fun i o' q h1 h2 => ?_, fun t ht => tabS_of (s.tabs t ht) fun b x e hx => ?_, fun q hq => ⟨(s.pv q hq).1, by rw [upd_ne (fun z => (s.pv q hq).1 (by rw [z]; exact hm))]; exact (s.pv q hq).2⟩⟩
  · by_cases hi : i = a
    · subst hi
      rw [h] at h2; cases h2
      have hlt : i < S.length := by rw [← s.len]; exact (List.getElem?_eq_some_iff.mp h).1
      rw [List.getElem?_set_self hlt] at h1; cases h1
      exact r
    · rw [List.getElem?_set_ne (Ne.symm hi)] at h1
      have hq : q ≠ p := fun z => by
        subst z
        obtain ⟨h3, e3⟩ := List.getElem?_eq_some_iff.mp h
        obtain ⟨h4, e4⟩ := List.getElem?_eq_some_iff.mp h2
        exact hi ((List.getElem_inj s.nd).mp (e4.trans e3.symm))
      exact (s.obs i o' q h1 h2).mono (Ext.write hm (r.noTblA upd_same) hz hk) (upd_ne hq)
  · have : b ≠ p := fun z => by
      subst z
      rcases hx with ⟨ps, rfl⟩ | ⟨c, q, rfl⟩
      · exact s.noTbl hm ps e
      · exact s.noExt hm _ e
    rw [upd_ne this]; exact e
end
end Sa

/-! ### what a comprehension under way changes -/
namespace Sa
open PySem L2
variable {K : PySem.W.Frag} {N N' : Nm} {ρ ρ' ρ1 : List Addr} {H H' H1 : Hp} {S S' : Sto} {L : Addr} {o o' : HO}
/-- the same names, more that is hidden, what is new of it unknown to H -/
structure Sub (N N' : Nm) (H : Hp) : Prop where
  fA : N'.fA = N.fA
  cA : N'.cA = N.cA
  fl : N'.fl = N.fl
  tb : N'.tb = N.tb
  up : ∀ p, p ∈ N.pv.map Prod.fst → p ∈ N'.pv.map Prod.fst
  new : ∀ p, p ∈ N'.pv.map Prod.fst → p ∈ N.pv.map Prod.fst ∨ H p = none
theorem Sub.refl : Sub N N H := ⟨rfl, rfl, rfl, rfl, fun _ h => h, fun _ h => .inl h⟩
abbrev Nm.hide (N : Nm) (L : Addr) (o : HO) : Nm := { N with pv := (L, o) :: N.pv }
theorem Sub.hide (h : H L = none) : Sub N (N.hide L o) H := ⟨rfl, rfl, rfl, rfl, fun _ h => List.mem_cons_of_mem _ h, fun p hp => by
  rcases List.mem_cons.mp hp with e | e
  · rw [e]; exact .inr h
  · exact .inl e⟩
mutual
theorem Rep.chg (hf : N'.fA = N.fA) (hc : N'.cA = N.cA) (fr : ∀ p, H p ≠ none → Fr N ρ p → Fr N' ρ' p) (hx : ∀ (a : Nat) (p : Addr), ρ[a]? = some p → ρ'[a]? = some p) : ∀ {d : D} {v : V}, Rep K N ρ H d v → Rep K N' ρ' H d v
  | .non, _, h => h
  | .bl _, _, h => h
  | .int _, _, h => h
  | .str _, _, h => h
  | .tup xs, v, h => by
    obtain ⟨p, vs, e1, ⟨t, t2⟩, r⟩ := h
    refine ⟨p, vs, e1, ⟨t, ?_⟩, Reps.chg hf hc fr hx r⟩
    rcases t2 with ⟨t2, n⟩ | t2
    · obtain ⟨o, ho⟩ := rd_some t2
      exact .inl ⟨t2, fr p (by rw [ho]; simp) n⟩
    · exact .inr t2
  | .lst xs, v, h => by
    obtain ⟨p, vs, e1, ⟨t, n⟩, r⟩ := h
    exact ⟨p, vs, e1, ⟨t, fr p (by rw [t]; simp) n⟩, Reps.chg hf hc fr hx r⟩
  | .ro xs, v, h => by
    obtain ⟨p, vs, e1, ⟨t, t2⟩, r⟩ := h
    refine ⟨p, vs, e1, ⟨t, ?_⟩, Reps.chg hf hc fr hx r⟩
    rcases t2 with ⟨t2, n⟩ | t2
    · obtain ⟨o, ho⟩ := rd_some t2
      exact .inl ⟨t2, fr p (by rw [ho]; simp) n⟩
    · exact .inr t2
  | .dct ks ws, v, h => by
    obtain ⟨p, kvs, e1, t, n, ek, r⟩ := h
    obtain ⟨o, ho⟩ := rd_some t
    exact ⟨p, kvs, e1, t, fr p (by rw [ho]; simp) n, ek, Reps.chg hf hc fr hx r⟩
  | .loc a, v, h => by
    obtain ⟨p, e1, g⟩ := h
    exact ⟨p, e1, hx a p g⟩
  | .fn f, _, h => by
    show _ = V.ref (N'.fA f)
    rw [hf]; exact h
  | .cls c, _, h => by
    show _ = V.ref (N'.cA c)
    rw [hc]; exact h
  | .exc c fs, v, h => by
    obtain ⟨p, e1, n, d, hp, hd⟩ := h
    refine ⟨p, e1, fr p (by rw [hp]; simp) n, d, by rw [hc]; exact hp, ?_⟩
    cases d with
    | none => exact hd
    | some dx =>
      obtain ⟨n2, us, h2, r⟩ := hd
      exact ⟨fr dx (by rw [h2]; simp) n2, us, h2, Reps.chg hf hc fr hx r⟩
theorem Reps.chg (hf : N'.fA = N.fA) (hc : N'.cA = N.cA) (fr : ∀ p, H p ≠ none → Fr N ρ p → Fr N' ρ' p) (hx : ∀ (a : Nat) (p : Addr), ρ[a]? = some p → ρ'[a]? = some p) : ∀ {xs : List D} {vs : List V}, Reps K N ρ H xs vs → Reps K N' ρ' H xs vs
  | [], _, h => h
  | x :: r, vs, h => by
    obtain ⟨v, w, e1, a, b⟩ := h
    exact ⟨v, w, e1, Rep.chg hf hc fr hx a, Reps.chg hf hc fr hx b⟩
end
theorem RepO.chg {p : Addr} {o : Ob} (hf : N'.fA = N.fA) (hc : N'.cA = N.cA) (hl : N'.fl = N.fl) (fr : ∀ p, H p ≠ none → Fr N ρ p → Fr N' ρ' p) (hx : ∀ (a : Nat) (p : Addr), ρ[a]? = some p → ρ'[a]? = some p) (h : RepO K N ρ H p o) : RepO K N' ρ' H p o := by
  cases o with
  | lst xs =>
    obtain ⟨vs, h1, r⟩ := h
    exact ⟨vs, h1, r.chg hf hc fr hx⟩
  | dct kvs lk =>
    obtain ⟨kws, h1, r1, r2⟩ := h
    exact ⟨kws, h1, r1, r2.chg hf hc fr hx⟩
  | ins c fs =>
    obtain ⟨dx, us, h1, r1, r2⟩ := h
    exact ⟨dx, us, by rw [hc]; exact h1, by rw [hl]; exact r1, r2.chg hf hc fr hx⟩
theorem Sub.fr (s : Sub N N' H) : ∀ p, H p ≠ none → Fr N ρ p → Fr N' ρ p := fun p hp h => ⟨h.1, fun hm => by
  rcases s.new p hm with e | e
  · exact h.2 e
  · exact hp e⟩
theorem Sub.back (s : Sub N N' H) : ∀ p, Fr N' ρ p → Fr N ρ p := fun p h => ⟨h.1, fun hm => h.2 (s.up p hm)⟩
theorem Reps.sub {xs : List D} {vs : List V} (s : Sub N N' H) (h : Reps K N ρ H xs vs) : Reps K N' ρ H xs vs := h.chg s.fA s.cA s.fr (fun _ _ h => h)
theorem Rep.sub {x : D} {v : V} (s : Sub N N' H) (h : Rep K N ρ H x v) : Rep K N' ρ H x v := h.chg s.fA s.cA s.fr (fun _ _ h => h)
theorem Ext.sub' (s : Sub N N' H1) (e : Ext N ρ H ρ' H') : Ext N' ρ H ρ' H' := ⟨e.pre, fun p o h t n => e.keep p o h t (s.back p n), e.stay, e.frz, e.knd⟩
theorem Ext.unhide (e : Ext (N.hide L o') ρ (upd H L o) ρ' H') (h : H L = none) (hn : L ∉ ρ) : Ext N ρ H ρ' H' := by
  obtain ⟨n, e1, f⟩ := e.pre
  refine ⟨⟨n, e1, fun p hp z => f p hp ((Sol.upd_ne (z.ne h)).mpr z)⟩, fun p u hu t fr => ?_, fun p hp => e.stay p ((Sol.upd_ne (hp.ne h)).mpr hp), fun p od u hp => ?_, fun p hp => (e.knd p hp).trans (khoA_upd fun z => hn (by rw [← z]; exact hp))⟩
  · have hd : p ≠ L := ne_of_none hu h
    refine e.keep p u (by rw [upd_ne hd]; exact hu) t ⟨fr.1, fun hm => ?_⟩
    rcases List.mem_cons.mp hm with z | z
    · exact hd z
    · exact fr.2 z
  · exact e.frz p od u (by rw [upd_ne (ne_of_none hp h)]; exact hp)
theorem Ext.adopt (e : Ext (N.hide L o') ρ (upd H L o) ρ' H') (h : H L = none) (hn : L ∉ ρ) : Ext N ρ H (ρ' ++ [L]) H' := by
  have u := e.unhide h hn
  obtain ⟨n, e1, f⟩ := u.pre
  refine ⟨⟨n ++ [L], by rw [e1, List.append_assoc], fun p hp => ?_⟩, u.keep, u.stay, u.frz, u.knd⟩
  rcases List.mem_append.mp hp with z | z
  · exact f p z
  · simp at z; rw [z]; exact Sol.nope h
theorem Sim.chg (s : Sim K N ρ S H) (hs : Sub N N' H) (hp : ∀ q ∈ N'.pv, q.1 ∉ ρ ∧ H q.1 = some q.2 ∧ ∀ ps, q.2 ≠ .tbl ps) : Sim K N' ρ S H :=
  ⟨s.len, s.nd, fun i o p h1 h2 => (s.obs i o p h1 h2).chg hs.fA hs.cA hs.fl hs.fr (fun _ _ h => h), by rw [hs.tb]; exact s.tabs, hp⟩
/-- a thing of one's own is laid -/
theorem Sim.hide (s : Sim K N ρ S H) (h : H L = none) (ho : ∀ ps, o ≠ .tbl ps) : Sim K (N.hide L o) ρ S (upd H L o) := by
  have hd := s.fresh h
  refine ⟨s.len, s.nd, fun i x q h1 h2 => ?_, tabs_upd s.tabs h, fun p hp => ?_⟩
  · have hq : q ≠ L := fun z => hd.1 (by rw [← z]; exact List.mem_of_getElem? h2)
    exact (RepO.chg (N := N) (N' := N.hide L o) rfl rfl rfl (Sub.hide h).fr (fun _ _ h => h) (s.obs i x q h1 h2)).mono (Ext.junk h (s.fresh h).1) (upd_ne hq)
  · rcases List.mem_cons.mp hp with z | z
    · rw [z]; exact ⟨hd.1, upd_same, ho⟩
    · exact ⟨(s.pv p z).1, by rw [upd_ne (ne_of_none (s.pv p z).2.1 h)]; exact (s.pv p z).2⟩
theorem Fr.unhide {p : Addr} (h : Fr (N.hide L o) ρ p) : Fr N ρ p := ⟨h.1, fun hm => h.2 (List.mem_cons_of_mem _ hm)⟩
theorem Rep.unhide {x : D} {v : V} (h : Rep K (N.hide L o) ρ H x v) : Rep K N ρ H x v := h.chg (N := N.hide L o) (N' := N) rfl rfl (fun _ _ h => h.unhide) (fun _ _ h => h)
theorem Reps.unhide {x : List D} {v : List V} (h : Reps K (N.hide L o) ρ H x v) : Reps K N ρ H x v := h.chg (N := N.hide L o) (N' := N) rfl rfl (fun _ _ h => h.unhide) (fun _ _ h => h)
theorem Sim.unhide (s : Sim K (N.hide L o) ρ S H) : Sim K N ρ S H :=
  ⟨s.len, s.nd, fun i x p h1 h2 => (s.obs i x p h1 h2).chg (N := N.hide L o) (N' := N) rfl rfl rfl (fun _ _ h => h.unhide) (fun _ _ h => h), s.tabs, fun p hp => s.pv p (List.mem_cons_of_mem _ hp)⟩
theorem Fr.adopt {p : Addr} (h : Fr (N.hide L o) ρ p) : Fr N (ρ ++ [L]) p := ⟨fun hm => by
  rcases List.mem_append.mp hm with z | z
  · exact h.1 z
  · simp at z; exact h.2 (by rw [z]; exact List.mem_cons_self), fun hm => h.2 (List.mem_cons_of_mem _ hm)⟩
theorem get_adopt {a : Nat} {p : Addr} (h : ρ[a]? = some p) : (ρ ++ [L])[a]? = some p := by
  rw [List.getElem?_append_left (List.getElem?_eq_some_iff.mp h).1]; exact h
theorem Reps.adopt {x : List D} {v : List V} (h : Reps K (N.hide L o) ρ H x v) : Reps K N (ρ ++ [L]) H x v := h.chg (N := N.hide L o) (N' := N) rfl rfl (fun _ _ h => h.adopt) (fun _ _ h => get_adopt h)
theorem Sim.adopt {x : Ob} (hn : L ∉ N.pv.map Prod.fst) (s : Sim K (N.hide L o) ρ S H) (r : RepO K (N.hide L o) ρ H L x) : Sim K N (ρ ++ [L]) (S ++ [x]) H := by
  have hd : L ∉ ρ := (s.pv (L, o) List.mem_cons_self).1
  refine ⟨by simp [s.len], ?_, fun i o' q h1 h2 => ?_, s.tabs, fun q hq => ?_⟩
  · rw [List.nodup_append]
    refine ⟨s.nd, by simp, fun a ha b hb e => ?_⟩
    simp at hb
    rw [e, hb] at ha
    exact hd ha
  · by_cases hi : i < S.length
    · rw [List.getElem?_append_left hi] at h1
      rw [List.getElem?_append_left (by rw [s.len]; exact hi)] at h2
      exact (s.obs i o' q h1 h2).chg (N := N.hide L o) (N' := N) rfl rfl rfl (fun _ _ h => h.adopt) (fun _ _ h => get_adopt h)
    · have hi' : i = S.length := by
        have := (List.getElem?_eq_some_iff.mp h1).1
        simp at this; omega
      subst hi'
      rw [← s.len] at h2
      simp at h1 h2
      rw [← h1, ← h2]
      exact r.chg (N := N.hide L o) (N' := N) rfl rfl rfl (fun _ _ h => h.adopt) (fun _ _ h => get_adopt h)
  · have z := s.pv q (List.mem_cons_of_mem _ hq)
    refine ⟨fun hm => ?_, z.2⟩
    rcases List.mem_append.mp hm with w | w
    · exact z.1 w
    · simp at w
      exact hn (List.mem_map.mpr ⟨q, hq, w⟩)
/-- one's own thing changes -/
theorem Ext.pvw (hn : L ∉ ρ) (hm : L ∈ N.pv.map Prod.fst) (hs : ∀ ps, o ≠ .tbl ps) (hz : ∀ od u, H L ≠ some (.frz od u)) : Ext N ρ H ρ (upd H L o) := by
  refine ⟨⟨[], by simp, by simp⟩, fun q u e _ n => ?_, fun q e => ?_, fun q od u e => ?_, fun q hq => khoA_upd fun z => hn (by rw [← z]; exact hq)⟩
  · rw [upd_ne (fun z => n.2 (by rw [z]; exact hm))]; exact e
  · by_cases z : q = L
    · rw [z]; exact Sol.upd_same hs
    · exact (Sol.upd_ne z).mpr e
  · rw [upd_ne (fun z => hz od u (by rw [← z]; exact e))]; exact e
theorem Fr.pvc {p : Addr} (h : Fr (N.hide L o) ρ p) : Fr (N.hide L o') ρ p := h
theorem Ext.pvc (e : Ext (N.hide L o) ρ H ρ' H') : Ext (N.hide L o') ρ H ρ' H' := ⟨e.pre, fun p u h t n => e.keep p u h t n, e.stay, e.frz, e.knd⟩
theorem Reps.pvc {x : List D} {v : List V} (h : Reps K (N.hide L o) ρ H x v) : Reps K (N.hide L o') ρ H x v := h.chg (N := N.hide L o) (N' := N.hide L o') rfl rfl (fun _ _ h => h) (fun _ _ h => h)
theorem Rep.pvc {x : D} {v : V} (h : Rep K (N.hide L o) ρ H x v) : Rep K (N.hide L o') ρ H x v := h.chg (N := N.hide L o) (N' := N.hide L o') rfl rfl (fun _ _ h => h) (fun _ _ h => h)
theorem Sim.pvw (hn : L ∉ N.pv.map Prod.fst) (s : Sim K (N.hide L o) ρ S H) (ht : ∀ ps, o ≠ .tbl ps) (hz : ∀ od u, o ≠ .frz od u) (hx : ∀ φ, o ≠ .ext φ) (ht' : ∀ ps, o' ≠ .tbl ps) : Sim K (N.hide L o') ρ S (upd H L o') := by
  have hL := s.pv (L, o) List.mem_cons_self
  have e : Ext (N.hide L o') ρ H ρ (upd H L o') := Ext.pvw hL.1 (by simp) ht' (fun od u z => hz od u (by rw [hL.2.1] at z; exact Option.some.inj z))
  refine ⟨s.len, s.nd, fun i x q h1 h2 => ?_, fun t ht' => tabS_of (s.tabs t ht') fun b x e' hx' => ?_, fun p hp => ?_⟩
  · have hq : q ≠ L := fun z => hL.1 (by rw [← z]; exact List.mem_of_getElem? h2)
    exact (RepO.chg (N := N.hide L o) (N' := N.hide L o') rfl rfl rfl (fun _ _ h => h) (fun _ _ h => h) (s.obs i x q h1 h2)).mono e (upd_ne hq)
  · have : b ≠ L := fun z => by
      subst z
      rw [hL.2.1] at e'
      cases e'
      rcases hx' with ⟨ps, rfl⟩ | ⟨c, q, rfl⟩
      · exact ht ps rfl
      · exact hx _ rfl
    rw [upd_ne this]; exact e'
  · rcases List.mem_cons.mp hp with z | z
    · rw [z]; exact ⟨hL.1, upd_same, ht'⟩
    · have w := s.pv p (List.mem_cons_of_mem _ z)
      exact ⟨w.1, by rw [upd_ne (fun y => hn (List.mem_map.mpr ⟨p, z, y⟩))]; exact w.2⟩
mutual
theorem Rep.heap (kp : ∀ p o, H p = some o → (∀ ps, o ≠ .tbl ps) → Fr N ρ p → H' p = some o) : ∀ {d : D} {v : V}, Rep K N ρ H d v → Rep K N ρ H' d v
  | .non, _, h => h
  | .bl _, _, h => h
  | .int _, _, h => h
  | .str _, _, h => h
  | .tup xs, v, h => by
    obtain ⟨p, vs, e1, ⟨t, t2⟩, r⟩ := h
    rcases t2 with ⟨t2, n⟩ | t2
    · have t' : Rd H' p (.tup vs) := by
        rcases t2 with t2 | ⟨o, t2⟩
        · exact .inl (kp p _ t2 (fun ps z => by cases z) n)
        · exact .inr ⟨o, kp p _ t2 (fun ps z => by cases z) n⟩
      exact ⟨p, vs, e1, ⟨.inl t', .inl ⟨t', n⟩⟩, Reps.heap kp r⟩
    · exact ⟨p, vs, e1, ⟨sqt_k t2 _, .inr t2⟩, Reps.heap kp r⟩
  | .lst xs, v, h => by
    obtain ⟨p, vs, e1, ⟨t, n⟩, r⟩ := h
    exact ⟨p, vs, e1, ⟨kp p _ t (fun ps z => by cases z) n, n⟩, Reps.heap kp r⟩
  | .ro xs, v, h => by
    obtain ⟨p, vs, e1, ⟨t, t2⟩, r⟩ := h
    rcases t2 with ⟨t2, n⟩ | t2
    · have t' : Rd H' p (.lst vs) := by
        rcases t2 with t2 | ⟨o, t2⟩
        · exact .inl (kp p _ t2 (fun ps z => by cases z) n)
        · exact .inr ⟨o, kp p _ t2 (fun ps z => by cases z) n⟩
      exact ⟨p, vs, e1, ⟨.inl t', .inl ⟨t', n⟩⟩, Reps.heap kp r⟩
    · exact ⟨p, vs, e1, ⟨sql_k t2 _, .inr t2⟩, Reps.heap kp r⟩
  | .dct ks ws, v, h => by
    obtain ⟨p, kvs, e1, t2, n, ek, r⟩ := h
    have t' : Rd H' p (.dK kvs) := by
      rcases t2 with t2 | ⟨o, t2⟩
      · exact .inl (kp p _ t2 (fun ps z => by cases z) n)
      · exact .inr ⟨o, kp p _ t2 (fun ps z => by cases z) n⟩
    exact ⟨p, kvs, e1, t', n, ek, Reps.heap kp r⟩
  | .loc a, v, h => h
  | .fn f, _, h => h
  | .cls c, _, h => h
  | .exc c fs, v, h => by
    obtain ⟨p, e1, n, d, hp, hd⟩ := h
    refine ⟨p, e1, n, d, kp p _ hp (fun ps z => by cases z) n, ?_⟩
    cases d with
    | none => exact hd
    | some dx =>
      obtain ⟨n2, us, h2, r⟩ := hd
      exact ⟨n2, us, kp dx _ h2 (fun ps z => by cases z) n2, Reps.heap kp r⟩
theorem Reps.heap (kp : ∀ p o, H p = some o → (∀ ps, o ≠ .tbl ps) → Fr N ρ p → H' p = some o) : ∀ {xs : List D} {vs : List V}, Reps K N ρ H xs vs → Reps K N ρ H' xs vs
  | [], _, h => h
  | x :: r, vs, h => by
    obtain ⟨v, w, e1, a, b⟩ := h
    exact ⟨v, w, e1, Rep.heap kp a, Reps.heap kp b⟩
end
theorem RepO.heap {p : Addr} {o : Ob} (kp : ∀ p o, H p = some o → (∀ ps, o ≠ .tbl ps) → Fr N ρ p → H' p = some o) (hp : H' p = H p) (h : RepO K N ρ H p o) : RepO K N ρ H' p o := by
  cases o with
  | lst xs =>
    obtain ⟨vs, h1, r⟩ := h
    exact ⟨vs, by rw [hp]; exact h1, r.heap kp⟩
  | dct kvs lk =>
    obtain ⟨kws, h1, r1, r2⟩ := h
    refine ⟨kws, ?_, r1, r2.heap kp⟩
    rw [hp]; exact h1
  | ins c fs =>
    obtain ⟨dx, us, h1, r1, r2⟩ := h
    exact ⟨dx, us, by rw [hp]; exact h1, r1, r2.heap kp⟩
/-- a dict is free again -/
theorem Sim.unlock {a : Nat} {kvs : List (D × D)} {kws : List (Key × V)} {p : Addr} {od : Obj} (s : Sim K N ρ S H) (h : ρ[a]? = some p) (hp : H p = some (.frz od (.dK kws))) (r : RepKv K N ρ H kvs kws) : Sim K N ρ (S.set a (.dct kvs false)) (upd H p (.dK kws)) := by
  have hm : p ∈ ρ := List.mem_of_getElem? h
  have kp : ∀ q o, H q = some o → (∀ ps, o ≠ .tbl ps) → Fr N ρ q → upd H p (.dK kws) q = some o := fun q o e _ n => by
    rw [upd_ne (fun z => n.1 (by rw [z]; exact hm))]; exact e
  refine ⟨by simp [s.len], s.nd, fun i o' q h1 h2 => ?_, fun t ht => tabS_of (s.tabs t ht) fun b x e hx => ?_, fun q hq => ⟨(s.pv q hq).1, by rw [upd_ne (fun z => (s.pv q hq).1 (by rw [z]; exact hm))]; exact (s.pv q hq).2⟩⟩
  · by_cases hi : i = a
    · subst hi
      rw [h] at h2; cases h2
      have hlt : i < S.length := by rw [← s.len]; exact (List.getElem?_eq_some_iff.mp h).1
      rw [List.getElem?_set_self hlt] at h1; cases h1
      exact ⟨kws, by simpa using upd_same, r.1, r.2.heap kp⟩
    · rw [List.getElem?_set_ne (Ne.symm hi)] at h1
      have hq : q ≠ p := fun z => by
        subst z
        obtain ⟨h3, e3⟩ := List.getElem?_eq_some_iff.mp h
        obtain ⟨h4, e4⟩ := List.getElem?_eq_some_iff.mp h2
        exact hi ((List.getElem_inj s.nd).mp (e4.trans e3.symm))
      exact (s.obs i o' q h1 h2).heap kp (upd_ne hq)
  · have : b ≠ p := fun z => by
      subst z
      rcases hx with ⟨ps, rfl⟩ | ⟨c, q, rfl⟩
      · exact s.noTbl hm ps e
      · exact s.noExt hm _ e
    rw [upd_ne this]; exact e
theorem Ext.unlock {p : Addr} {od : Obj} {u : HO} (hm : p ∈ ρ) (hu : H p = some u) (ht : ∀ ps, u ≠ .tbl ps) (hz : ∀ od v, u ≠ .frz od v) (hk : kho u = kho (.frz od u)) (e : Ext N ρ (upd H p (.frz od u)) ρ' H') : Ext N ρ H ρ' (upd H' p u) := by
  obtain ⟨n, e1, f⟩ := e.pre
  refine ⟨⟨n, e1, fun q hq z => f q hq ?_⟩, fun q o hq t fr => ?_, fun q hq => ?_, fun q od v hq => ?_, fun q hq => ?_⟩
  · by_cases hd : q = p
    · rw [hd]; exact Sol.upd_same fun ps z => by cases z
    · exact (Sol.upd_ne hd).mpr z
  · have hd : q ≠ p := fun z => fr.1 (by rw [z]; exact hm)
    rw [upd_ne hd]
    exact e.keep q o (by rw [upd_ne hd]; exact hq) t fr
  · by_cases hd : q = p
    · rw [hd]; exact Sol.upd_same ht
    · exact (Sol.upd_ne hd).mpr (e.stay q ((Sol.upd_ne hd).mpr hq))
  · have hd : q ≠ p := fun z => by rw [z, hu] at hq; exact hz od v (Option.some.inj hq)
    rw [upd_ne hd]
    exact e.frz q od v (by rw [upd_ne hd]; exact hq)
  · have k := e.knd q hq
    by_cases hd : q = p
    · rw [hd, khoA_eq upd_same, khoA_eq hu]
    · rw [khoA_upd hd, k, khoA_upd hd]
theorem Sim.tabsE (s : Sim K N ρ S H) (e : LamX.ExtN H H') (t : LamX.Tabs N.tb H') : Ext N ρ H ρ H' ∧ Sim K N ρ S H' := by
  have ex : Ext N ρ H ρ H' := Ext.tabs e fun p hp => let ⟨u, h1, h2, _⟩ := s.there hp; ⟨u, h1, h2⟩
  refine ⟨ex, s.len, s.nd, fun i o p h1 h2 => ?_, t, fun q hq => ⟨(s.pv q hq).1, e _ _ (s.pv q hq).2.1 (s.pv q hq).2.2, (s.pv q hq).2.2⟩⟩
  have r := s.obs i o p h1 h2
  obtain ⟨u, h3, h4, _⟩ := r.some_
  exact r.mono ex (by rw [h3, e _ _ h3 h4])
end Sa
set_option maxHeartbeats 1000000
/-! What HandS's rules at operations give, told by opSem: numbers, tuples, lists, comparisons. -/
namespace Sa
open PySem L2
variable {K : PySem.W.Frag} {N : Nm} {P : Prog} {ρ ρ' : List Addr} {H H' : Hp} {S S' : Sto} {d e : D} {Q : VK}
/-- what is wanted of a value -/
def Go (K : PySem.W.Frag) (N : Nm) (ρ : List Addr) (H : Hp) (d : D) (S : Sto) (Q : VK) : Prop := ∀ ρ' H' v, Ext N ρ H ρ' H' → Sim K N ρ' S H' → Rep K N ρ' H' d v → Q v H'
/-- what an operation asks, by values -/
def rOp (K : PySem.W.Frag) (N : Nm) (P : Prog) (o : Op) (vs : List V) (H : Hp) (Q : VK) : Prop :=
  ∃ pv ρ S ds d S', Reps K (N.at pv) ρ H ds vs ∧ Sim K (N.at pv) ρ S H ∧ opSem P o ds S = .ok d S' ∧ Go K (N.at pv) ρ H d S' Q
abbrev rOp2 (K : PySem.W.Frag) (N : Nm) (P : Prog) (o : Op) : R2 := fun x y H Q => rOp K N P o [x, y] H Q
theorem Go.same (g : Go K N ρ H d S Q) (s : Sim K N ρ S H) {v : V} (r : Rep K N ρ H d v) : Q v H := g ρ H v Ext.refl s r
theorem Go.tup {xs : List D} (g : Go K N ρ H (.tup xs) S Q) (s : Sim K N ρ S H) {p : Addr} {vs : List V} (hp : H p = none) (r : Reps K N ρ H xs vs) : Q (.ref p) (upd H p (.tup vs)) := by
  have e : Ext N ρ H ρ (upd H p (.tup vs)) := Ext.junk hp (s.fresh hp).1
  refine g ρ _ _ e (s.junk hp) ⟨p, vs, rfl, ⟨SqT.of upd_same, .inl ⟨.inl upd_same, s.fresh hp⟩⟩, r.mono e⟩
theorem Go.lst {xs : List D} (g : Go K N ρ H (.lst xs) S Q) (s : Sim K N ρ S H) {p : Addr} {vs : List V} (hp : H p = none) (r : Reps K N ρ H xs vs) : Q (.ref p) (upd H p (.lst vs)) := by
  have e : Ext N ρ H ρ (upd H p (.lst vs)) := Ext.junk hp (s.fresh hp).1
  exact g ρ _ _ e (s.junk hp) ⟨p, vs, rfl, ⟨upd_same, s.fresh hp⟩, r.mono e⟩
theorem Go.loc {xs : List D} (g : Go K N ρ H (.loc S.length) (S ++ [.lst xs]) Q) (s : Sim K N ρ S H) {p : Addr} {vs : List V} (hp : H p = none) (r : Reps K N ρ H xs vs) : Q (.ref p) (upd H p (.lst vs)) := by
  have e : Ext N ρ H (ρ ++ [p]) (upd H p (.lst vs)) := Ext.new hp (s.fresh hp).1
  refine g _ _ _ e (s.new hp ⟨vs, upd_same, r.mono e⟩) ⟨p, rfl, ?_⟩
  rw [← s.len]; simp
/-- a new list, of either kind -/
theorem Go.newL {al : Bool} {xs : List D} {d : D} {S' : Sto} (h : newL al xs S = .ok d S') (g : Go K N ρ H d S' Q) (s : Sim K N ρ S H) {p : Addr} {vs : List V} (hp : H p = none) (r : Reps K N ρ H xs vs) : Q (.ref p) (upd H p (.lst vs)) := by
  unfold Sa.newL at h
  split at h
  · cases al with
    | true =>
      simp only [if_true] at h
      cases h
      exact g.loc s hp r
    | false =>
      simp only [Bool.false_eq_true, if_false] at h
      cases h
      exact g.lst s hp r
  · cases h
theorem newL_len {al : Bool} {xs : List D} {d : D} {S S' : Sto} (h : newL al xs S = .ok d S') : xs.length ≤ big := by
  unfold Sa.newL at h
  split at h
  · assumption
  · cases h
theorem big_line : big < sizeLine := by rw [sizeLine_eq]; decide

theorem reps_nil : ∀ {xs : List D}, Reps K N ρ H xs [] → xs = []
  | [], _ => rfl
  | _ :: _, ⟨_, _, h, _⟩ => by cases h

/-! ### a list of either kind -/
theorem items_at {x : V} {xs : List D} (s : Sim K N ρ S H) (r : Rep K N ρ H d x) (h : items S d = some xs) : ∃ p vs, x = .ref p ∧ H p = some (.lst vs) ∧ Reps K N ρ H xs vs := by
  cases d with
  | lst ys =>
    obtain ⟨p, vs, e, ⟨h1, _⟩, r⟩ := r
    cases h
    exact ⟨p, vs, e, h1, r⟩
  | loc a =>
    obtain ⟨p, e, hp⟩ := r
    simp only [items] at h
    split at h
    · next ys hs =>
      cases h
      obtain ⟨vs, h1, r⟩ := s.obs a _ p hs hp
      exact ⟨p, vs, e, h1, r⟩
    · cases h
  | _ => simp [items] at h
theorem walked_at {x : V} {xs : List D} (s : Sim K N ρ S H) (r : Rep K N ρ H d x) (h : walked S d = some xs) : ∃ p vs, x = .ref p ∧ (SqL K H p vs ∨ SqT K H p vs) ∧ Reps K N ρ H xs vs := by
  cases d with
  | tup ys =>
    obtain ⟨p, vs, e, t, r⟩ := r
    cases h
    exact ⟨p, vs, e, .inr t.1, r⟩
  | ro ys =>
    obtain ⟨p, vs, e, t, r⟩ := r
    cases h
    exact ⟨p, vs, e, .inl t.1, r⟩
  | lst ys =>
    obtain ⟨p, vs, e, ⟨t, _⟩, r⟩ := r
    cases h
    exact ⟨p, vs, e, .inl (SqL.of t), r⟩
  | loc a =>
    obtain ⟨p, vs, e, t, r⟩ := items_at (d := .loc a) s r (xs := xs) (by simpa [walked, items] using h)
    exact ⟨p, vs, e, .inl (SqL.of t), r⟩
  | _ => simp [walked] at h
theorem listed_at {x : V} {xs : List D} (s : Sim K N ρ S H) (r : Rep K N ρ H d x) (h : listed S d = some xs) : ∃ p vs, x = .ref p ∧ SqL K H p vs ∧ Reps K N ρ H xs vs := by
  cases d with
  | ro ys =>
    obtain ⟨p, vs, e, t, r⟩ := r
    cases h
    exact ⟨p, vs, e, t.1, r⟩
  | lst ys =>
    obtain ⟨p, vs, e, ⟨t, _⟩, r⟩ := r
    cases h
    exact ⟨p, vs, e, SqL.of t, r⟩
  | loc a =>
    obtain ⟨p, vs, e, t, r⟩ := items_at (d := .loc a) s r (xs := xs) (by simpa [listed, items] using h)
    exact ⟨p, vs, e, SqL.of t, r⟩
  | _ => simp [listed] at h
theorem R.calm_inv {α : Type} {r : R α} {a : α} {S : Sto} (h : r.calm = .ok a S) : r = .ok a S := by
  cases r with
  | ok b T => exact h
  | err e T => cases h
  | bad => cases h
theorem R.lift_inv {α : Type} {o : Option α} {a : α} {S S' : Sto} (h : R.lift S o = .ok a S') : o = some a ∧ S' = S := by
  cases o with
  | none => cases h
  | some b => cases h; exact ⟨rfl, rfl⟩
theorem bl_inv {o : Option Bool} {d : D} {S S' : Sto} (h : bl S o = .ok d S') : ∃ b, o = some b ∧ d = .bl b ∧ S' = S := by
  cases o with
  | none => cases h
  | some b => cases h; exact ⟨b, rfl, rfl, rfl⟩
theorem reps2 {ds : List D} {x y : V} (r : Reps K N ρ H ds [x, y]) : ∃ d e, ds = [d, e] ∧ Rep K N ρ H d x ∧ Rep K N ρ H e y := by
  match ds, r with
  | [], h => cases h
  | [d], ⟨v, w, e1, _, e2⟩ => cases e1; cases e2
  | [d, e], ⟨v, w, e1, a, v2, w2, e2, b, e3⟩ =>
    cases e1; cases e2
    exact ⟨d, e, rfl, a, b⟩
  | d :: e :: f :: r, ⟨v, w, e1, a, v2, w2, e2, b, v3, w3, e3, _⟩ => cases e1; cases e2; cases e3
theorem reps1 {ds : List D} {x : V} (r : Reps K N ρ H ds [x]) : ∃ d, ds = [d] ∧ Rep K N ρ H d x := by
  match ds, r with
  | [], h => cases h
  | [d], ⟨v, w, e1, a, e2⟩ =>
    cases e1
    exact ⟨d, rfl, a⟩
  | d :: e :: r, ⟨v, w, e1, a, v2, w2, e2, _⟩ => cases e1; cases e2
theorem reps3 {ds : List D} {x y z : V} (r : Reps K N ρ H ds [x, y, z]) : ∃ d e f, ds = [d, e, f] ∧ Rep K N ρ H d x ∧ Rep K N ρ H e y ∧ Rep K N ρ H f z := by
  match ds, r with
  | [], h => cases h
  | d :: r, ⟨v, w, e1, a, b⟩ =>
    cases e1
    obtain ⟨d2, d3, rfl, h2, h3⟩ := reps2 b
    exact ⟨d, d2, d3, rfl, a, h2, h3⟩

/-! ### numbers -/
variable {X : Cx}
theorem int2_inv {x y : D} {f : Int → Int → R D} {d : D} {S' : Sto} (h : int2 x y f = .ok d S') : ∃ i j, x = .int i ∧ y = .int j ∧ f i j = .ok d S' := by
  unfold int2 at h
  split at h
  · exact ⟨_, _, rfl, rfl, h⟩
  · cases h
theorem int1_inv {x : D} {f : Int → R D} {d : D} {S' : Sto} (h : int1 x f = .ok d S') : ∃ i, x = .int i ∧ f i = .ok d S' := by
  unfold int1 at h
  split at h
  · exact ⟨_, rfl, h⟩
  · cases h
theorem if_inv {α : Type} {c : Prop} [Decidable c] {r : R α} {a : α} {S' : Sto} (h : (if c then r else .bad) = .ok a S') : c ∧ r = .ok a S' := by
  split at h
  · exact ⟨by assumption, h⟩
  · cases h
theorem vals2' {x y : V} {u v : Value} (a : RelV x u) (b : RelV y v) : Vals [x, y] [u, v] := .cons a (.cons b .nil)
theorem cat_ok {S S' : Sto} {x y : V} {d e z : D} (s : Sim K N ρ S H) (r1 : Rep K N ρ H d x) (r2 : Rep K N ρ H e y) (h : catS S d e = .ok z S') (g : Go K N ρ H z S' Q) : rCat x y H Q := by
  unfold catS at h
  split at h
  · next a b ha hb =>
    obtain ⟨hl, h⟩ := if_inv h
    cases h
    obtain ⟨p, vs, rfl, h1, q1⟩ := items_at s r1 ha
    obtain ⟨q, ws, rfl, h2, q2⟩ := items_at s r2 hb
    refine ⟨p, q, vs, ws, rfl, rfl, h1, h2, ?_, fun l hl => g.lst s hl (q1.append q2)⟩
    rw [q1.length, q2.length]
    exact Nat.le_trans hl (Nat.le_of_lt big_line)
  · cases h
theorem cutV_nil (xs : List V) : xs = [] → ∀ ys : List V, xs ++ ys = ys := by intro h ys; rw [h]; rfl
theorem snd_add : OpR X (binaryOp .Add) (rOp2 X.K N P .add) := by
  intro pins s σ H x y v u Q I rx ry h
  obtain ⟨pv, ρ, S, ds, d', S', r, sm, ho, g⟩ := h
  obtain ⟨d, e, rfl, r1, r2⟩ := reps2 r
  have ho : addS S d e = .ok d' S' := ho
  unfold addS at ho
  split at ho
  · cases ho
    cases r1; cases r2
    exact op_add pins s σ H _ _ _ _ Q I rx ry ⟨_, _, rfl, rfl, g.same sm rfl⟩
  · rename_i xs ys _
    obtain ⟨hl, ho⟩ := if_inv ho
    cases ho
    obtain ⟨p, vs, rfl, t1, q1⟩ := r1
    obtain ⟨q, ws, rfl, t2, q2⟩ := r2
    refine op_catA pins s σ H _ _ _ _ Q I rx ry ⟨p, q, vs, ws, rfl, rfl, t1.1, t2.1, ?_, fun z => ?_, fun _ z => ?_, fun _ _ l hl => g.tup sm hl (q1.append q2)⟩
    · rw [q1.length, q2.length]
      exact Nat.le_trans hl (Nat.le_of_lt big_line)
    · subst z
      cases reps_nil q1
      exact g.same sm ⟨q, ws, rfl, t2, by simpa using q2⟩
    · subst z
      cases reps_nil q2
      exact g.same sm ⟨p, vs, rfl, t1, by simpa using q1⟩
  · exact op_cat pins s σ H _ _ _ _ Q I rx ry (cat_ok sm r1 r2 ho g)
theorem snd_sub : OpR X (binaryOp .Sub) (rOp2 X.K N P .sub) := by
  intro pins s σ H x y v u Q I rx ry h
  obtain ⟨pv, ρ, S, ds, d', S', r, sm, ho, g⟩ := h
  obtain ⟨d, e, rfl, r1, r2⟩ := reps2 r
  obtain ⟨i, j, rfl, rfl, ho⟩ := int2_inv ho
  cases ho; cases r1; cases r2
  exact op_sub pins s σ H _ _ _ _ Q I rx ry ⟨_, _, rfl, rfl, g.same sm rfl⟩
theorem snd_fdiv : OpR X (binaryOp .FloorDiv) (rOp2 X.K N P .fdiv) := by
  intro pins s σ H x y v u Q I rx ry h
  obtain ⟨pv, ρ, S, ds, d', S', r, sm, ho, g⟩ := h
  obtain ⟨d, e, rfl, r1, r2⟩ := reps2 r
  obtain ⟨i, j, rfl, rfl, ho⟩ := int2_inv ho
  obtain ⟨hc, ho⟩ := if_inv ho
  cases ho; cases r1; cases r2
  exact op_fdiv pins s σ H _ _ _ _ Q I rx ry ⟨_, _, rfl, rfl, hc, g.same sm rfl⟩
theorem snd_mod : OpR X (binaryOp .Mod) (rOp2 X.K N P .mod) := by
  intro pins s σ H x y v u Q I rx ry h
  obtain ⟨pv, ρ, S, ds, d', S', r, sm, ho, g⟩ := h
  obtain ⟨d, e, rfl, r1, r2⟩ := reps2 r
  obtain ⟨i, j, rfl, rfl, ho⟩ := int2_inv ho
  obtain ⟨hc, ho⟩ := if_inv ho
  cases ho; cases r1; cases r2
  exact op_mod pins s σ H _ _ _ _ Q I rx ry ⟨_, _, rfl, rfl, hc, g.same sm rfl⟩
theorem snd_pow : OpR X (binaryOp .Pow) (rOp2 X.K N P .pow) := by
  intro pins s σ H x y v u Q I rx ry h
  obtain ⟨pv, ρ, S, ds, d', S', r, sm, ho, g⟩ := h
  obtain ⟨d, e, rfl, r1, r2⟩ := reps2 r
  obtain ⟨i, j, rfl, rfl, ho⟩ := int2_inv ho
  obtain ⟨hc, ho⟩ := if_inv ho
  cases ho; cases r1; cases r2
  exact op_pow pins s σ H _ _ _ _ Q I rx ry ⟨_, _, rfl, rfl, hc, g.same sm rfl⟩
theorem snd_lt : OpR X (compareOp .Lt) (rOp2 X.K N P .lt) := by
  intro pins s σ H x y v u Q I rx ry h
  obtain ⟨pv, ρ, S, ds, d', S', r, sm, ho, g⟩ := h
  obtain ⟨d, e, rfl, r1, r2⟩ := reps2 r
  obtain ⟨i, j, rfl, rfl, ho⟩ := int2_inv ho
  cases ho; cases r1; cases r2
  exact op_lt pins s σ H _ _ _ _ Q I rx ry ⟨_, _, rfl, rfl, g.same sm rfl⟩
theorem snd_le : OpR X (compareOp .LtE) (rOp2 X.K N P .le) := by
  intro pins s σ H x y v u Q I rx ry h
  obtain ⟨pv, ρ, S, ds, d', S', r, sm, ho, g⟩ := h
  obtain ⟨d, e, rfl, r1, r2⟩ := reps2 r
  obtain ⟨i, j, rfl, rfl, ho⟩ := int2_inv ho
  cases ho; cases r1; cases r2
  exact op_le pins s σ H _ _ _ _ Q I rx ry ⟨_, _, rfl, rfl, g.same sm rfl⟩
theorem snd_gt : OpR X (compareOp .Gt) (rOp2 X.K N P .gt) := by
  intro pins s σ H x y v u Q I rx ry h
  obtain ⟨pv, ρ, S, ds, d', S', r, sm, ho, g⟩ := h
  obtain ⟨d, e, rfl, r1, r2⟩ := reps2 r
  obtain ⟨i, j, rfl, rfl, ho⟩ := int2_inv ho
  cases ho; cases r1; cases r2
  exact op_gt pins s σ H _ _ _ _ Q I rx ry ⟨_, _, rfl, rfl, g.same sm rfl⟩
theorem snd_ge : OpR X (compareOp .GtE) (rOp2 X.K N P .ge) := by
  intro pins s σ H x y v u Q I rx ry h
  obtain ⟨pv, ρ, S, ds, d', S', r, sm, ho, g⟩ := h
  obtain ⟨d, e, rfl, r1, r2⟩ := reps2 r
  obtain ⟨i, j, rfl, rfl, ho⟩ := int2_inv ho
  cases ho; cases r1; cases r2
  exact op_ge pins s σ H _ _ _ _ Q I rx ry ⟨_, _, rfl, rfl, g.same sm rfl⟩
theorem snd_neg : UnR X (unaryOp .USub) (fun x H Q => rOp X.K N P .neg [x] H Q) := by
  intro pins s σ H x v Q I rx h
  obtain ⟨pv, ρ, S, ds, d', S', r, sm, ho, g⟩ := h
  obtain ⟨d, rfl, r1⟩ := reps1 r
  obtain ⟨i, rfl, ho⟩ := int1_inv ho
  cases ho; cases r1
  exact un_neg pins s σ H _ _ Q I rx ⟨_, rfl, g.same sm rfl⟩
end Sa
set_option maxHeartbeats 1000000
/-! Operations: equality of data, membership, places, cuts, sizes, truths. -/
namespace Sa
open PySem L2
variable {K : PySem.W.Frag} {N : Nm} {P : Prog} {ρ ρ' : List Addr} {H H' : Hp} {S S' : Sto} {d e : D} {Q : VK} {X : Cx}

/-! ### data -/
mutual
theorem pl_dp : ∀ {d : D} {v : V}, D.pl d = true → Rep K N ρ H d v → ∃ p, toP d = some p ∧ Dp K H v p ∧ p.canLay0 = true ∧ p.depth = d.dp
  | .non, v, _, h => ⟨.none, rfl, by rw [show v = .non from h]; exact .non, rfl, by simp [PyData.depth, D.dp]⟩
  | .bl b, v, _, h => ⟨.bool b, rfl, by rw [show v = .bl b from h]; exact .bl b, rfl, by simp [PyData.depth, D.dp]⟩
  | .int b, v, _, h => ⟨.int b, rfl, by rw [show v = .int b from h]; exact .int b, rfl, by simp [PyData.depth, D.dp]⟩
  | .str b, v, hp, h => ⟨.str b, rfl, by rw [show v = .str b from h]; exact .str b, hp, by simp [PyData.depth, D.dp]⟩
  | .tup xs, v, hp, h => by
    obtain ⟨p, vs, e1, t, r⟩ := h
    obtain ⟨ps, h1, h2, h3, h4⟩ := pls_dp (xs := xs) (by simpa [D.pl] using hp) r
    refine ⟨.tuple ps, by simp [toP, h1], by rw [e1]; exact .tup t.1 h2, by simpa [PyData.canLay0] using h3, by simp [PyData.depth, D.dp, h4]⟩
  | .lst xs, v, hp, h => by
    obtain ⟨p, vs, e1, t, r⟩ := h
    obtain ⟨ps, h1, h2, h3, h4⟩ := pls_dp (xs := xs) (by simpa [D.pl] using hp) r
    refine ⟨.list ps, by simp [toP, h1], by rw [e1]; exact .lst (SqL.of t.1) h2, by simpa [PyData.canLay0] using h3, by simp [PyData.depth, D.dp, h4]⟩
  | .dct _ _, _, hp, _ => by simp [D.pl] at hp
  | .ro _, _, hp, _ => by simp [D.pl] at hp
  | .loc _, _, hp, _ => by simp [D.pl] at hp
  | .fn _, _, hp, _ => by simp [D.pl] at hp
  | .cls _, _, hp, _ => by simp [D.pl] at hp
  | .exc _ _, _, hp, _ => by simp [D.pl] at hp
theorem pls_dp : ∀ {xs : List D} {vs : List V}, pls xs = true → Reps K N ρ H xs vs → ∃ ps, toPs xs = some ps ∧ DpAll K H vs ps ∧ PyData.canLayAll0 ps = true ∧ PyData.depthAll ps = dps xs
  | [], vs, _, h => ⟨[], rfl, by rw [show vs = [] from h]; exact .nil, rfl, by simp [PyData.depthAll, dps]⟩
  | x :: r, vs, hp, h => by
    obtain ⟨v, w, e1, a, b⟩ := h
    have hp' : D.pl x = true ∧ pls r = true := by simpa [pls] using hp
    obtain ⟨p, h1, h2, h3, h4⟩ := pl_dp hp'.1 a
    obtain ⟨ps, g1, g2, g3, g4⟩ := pls_dp hp'.2 b
    exact ⟨p :: ps, by simp [toPs, h1, g1], by rw [e1]; exact .cons h2 g2, by simp [PyData.canLayAll0, h3, g3], by simp [PyData.depthAll, dps, h4, g4]⟩
end
theorem toP_tup {xs : List D} {p : PyData} (h : toP (.tup xs) = some p) : ∃ ps, toPs xs = some ps ∧ PyData.tuple ps = p := by simpa [toP] using h
theorem toP_lst {xs : List D} {p : PyData} (h : toP (.lst xs) = some p) : ∃ ps, toPs xs = some ps ∧ PyData.list ps = p := by simpa [toP] using h
theorem toPs_cons {x : D} {r : List D} {p : List PyData} (h : toPs (x :: r) = some p) : ∃ a b, toP x = some a ∧ toPs r = some b ∧ a :: b = p := by
  simp only [toPs] at h
  split at h
  · exact ⟨_, _, by assumption, by assumption, Option.some.inj h⟩
  · cases h
mutual
theorem eqv_P : ∀ (d e : D) {p q : PyData}, d.pl = true → e.pl = true → toP d = some p → toP e = some q → PyData.eqv p q = D.eqv d e
  | .non, e, p, q, _, he, h1, h2 => by
    cases h1
    match e, he, h2 with
    | .non, _, h2 => cases h2; rfl
    | .bl c, _, h2 => cases h2; rfl
    | .int c, _, h2 => cases h2; rfl
    | .str c, _, h2 => cases h2; rfl
    | .tup ys, _, h2 => obtain ⟨qs, g2, rfl⟩ := toP_tup h2; rfl
    | .lst ys, _, h2 => obtain ⟨qs, g2, rfl⟩ := toP_lst h2; rfl
    | .dct _ _, he, _ => exact absurd he (by simp [D.pl])
    | .ro _, he, _ => exact absurd he (by simp [D.pl])
    | .loc _, he, _ => exact absurd he (by simp [D.pl])
    | .fn _, he, _ => exact absurd he (by simp [D.pl])
    | .cls _, he, _ => exact absurd he (by simp [D.pl])
    | .exc _ _, he, _ => exact absurd he (by simp [D.pl])
  | .bl b, e, p, q, _, he, h1, h2 => by
    cases h1
    match e, he, h2 with
    | .non, _, h2 => cases h2; rfl
    | .bl c, _, h2 => cases h2; cases b <;> cases c <;> rfl
    | .int c, _, h2 => cases h2; cases b <;> rfl
    | .str c, _, h2 => cases h2; rfl
    | .tup ys, _, h2 => obtain ⟨qs, g2, rfl⟩ := toP_tup h2; rfl
    | .lst ys, _, h2 => obtain ⟨qs, g2, rfl⟩ := toP_lst h2; rfl
    | .dct _ _, he, _ => exact absurd he (by simp [D.pl])
    | .ro _, he, _ => exact absurd he (by simp [D.pl])
    | .loc _, he, _ => exact absurd he (by simp [D.pl])
    | .fn _, he, _ => exact absurd he (by simp [D.pl])
    | .cls _, he, _ => exact absurd he (by simp [D.pl])
    | .exc _ _, he, _ => exact absurd he (by simp [D.pl])
  | .int b, e, p, q, _, he, h1, h2 => by
    cases h1
    match e, he, h2 with
    | .non, _, h2 => cases h2; rfl
    | .bl c, _, h2 => cases h2; cases c <;> rfl
    | .int c, _, h2 => cases h2; rfl
    | .str c, _, h2 => cases h2; rfl
    | .tup ys, _, h2 => obtain ⟨qs, g2, rfl⟩ := toP_tup h2; rfl
    | .lst ys, _, h2 => obtain ⟨qs, g2, rfl⟩ := toP_lst h2; rfl
    | .dct _ _, he, _ => exact absurd he (by simp [D.pl])
    | .ro _, he, _ => exact absurd he (by simp [D.pl])
    | .loc _, he, _ => exact absurd he (by simp [D.pl])
    | .fn _, he, _ => exact absurd he (by simp [D.pl])
    | .cls _, he, _ => exact absurd he (by simp [D.pl])
    | .exc _ _, he, _ => exact absurd he (by simp [D.pl])
  | .str b, e, p, q, _, he, h1, h2 => by
    cases h1
    match e, he, h2 with
    | .non, _, h2 => cases h2; rfl
    | .bl c, _, h2 => cases h2; rfl
    | .int c, _, h2 => cases h2; rfl
    | .str c, _, h2 => cases h2; rfl
    | .tup ys, _, h2 => obtain ⟨qs, g2, rfl⟩ := toP_tup h2; rfl
    | .lst ys, _, h2 => obtain ⟨qs, g2, rfl⟩ := toP_lst h2; rfl
    | .dct _ _, he, _ => exact absurd he (by simp [D.pl])
    | .ro _, he, _ => exact absurd he (by simp [D.pl])
    | .loc _, he, _ => exact absurd he (by simp [D.pl])
    | .fn _, he, _ => exact absurd he (by simp [D.pl])
    | .cls _, he, _ => exact absurd he (by simp [D.pl])
    | .exc _ _, he, _ => exact absurd he (by simp [D.pl])
  | .tup xs, e, p, q, hd, he, h1, h2 => by
    obtain ⟨ps, g1, rfl⟩ := toP_tup h1
    match e, he, h2 with
    | .non, _, h2 => cases h2; rfl
    | .bl c, _, h2 => cases h2; rfl
    | .int c, _, h2 => cases h2; rfl
    | .str c, _, h2 => cases h2; rfl
    | .tup ys, he, h2 =>
      obtain ⟨qs, g2, rfl⟩ := toP_tup h2
      show PyData.eqvAll ps qs = eqvs xs ys
      exact eqvs_P xs ys (by simpa [D.pl] using hd) (by simpa [D.pl] using he) g1 g2
    | .lst ys, _, h2 => obtain ⟨qs, g2, rfl⟩ := toP_lst h2; rfl
    | .dct _ _, he, _ => exact absurd he (by simp [D.pl])
    | .ro _, he, _ => exact absurd he (by simp [D.pl])
    | .loc _, he, _ => exact absurd he (by simp [D.pl])
    | .fn _, he, _ => exact absurd he (by simp [D.pl])
    | .cls _, he, _ => exact absurd he (by simp [D.pl])
    | .exc _ _, he, _ => exact absurd he (by simp [D.pl])
  | .lst xs, e, p, q, hd, he, h1, h2 => by
    obtain ⟨ps, g1, rfl⟩ := toP_lst h1
    match e, he, h2 with
    | .non, _, h2 => cases h2; rfl
    | .bl c, _, h2 => cases h2; rfl
    | .int c, _, h2 => cases h2; rfl
    | .str c, _, h2 => cases h2; rfl
    | .lst ys, he, h2 =>
      obtain ⟨qs, g2, rfl⟩ := toP_lst h2
      show PyData.eqvAll ps qs = eqvs xs ys
      exact eqvs_P xs ys (by simpa [D.pl] using hd) (by simpa [D.pl] using he) g1 g2
    | .tup ys, _, h2 => obtain ⟨qs, g2, rfl⟩ := toP_tup h2; rfl
    | .dct _ _, he, _ => exact absurd he (by simp [D.pl])
    | .ro _, he, _ => exact absurd he (by simp [D.pl])
    | .loc _, he, _ => exact absurd he (by simp [D.pl])
    | .fn _, he, _ => exact absurd he (by simp [D.pl])
    | .cls _, he, _ => exact absurd he (by simp [D.pl])
    | .exc _ _, he, _ => exact absurd he (by simp [D.pl])
  | .dct _ _, _, _, _, hp, _, _, _ => by simp [D.pl] at hp
  | .ro _, _, _, _, hp, _, _, _ => by simp [D.pl] at hp
  | .loc _, _, _, _, hp, _, _, _ => by simp [D.pl] at hp
  | .fn _, _, _, _, hp, _, _, _ => by simp [D.pl] at hp
  | .cls _, _, _, _, hp, _, _, _ => by simp [D.pl] at hp
  | .exc _ _, _, _, _, hp, _, _, _ => by simp [D.pl] at hp
termination_by d _ => sizeOf d
theorem eqvs_P : ∀ (xs ys : List D) {ps qs : List PyData}, pls xs = true → pls ys = true → toPs xs = some ps → toPs ys = some qs → PyData.eqvAll ps qs = eqvs xs ys
  | [], [], _, _, _, _, h1, h2 => by cases h1; cases h2; rfl
  | [], y :: s, _, q, _, hy, h1, h2 => by
    cases h1
    obtain ⟨a, b, _, _, rfl⟩ := toPs_cons h2
    rfl
  | x :: r, [], p, _, _, _, h1, h2 => by
    cases h2
    obtain ⟨a, b, _, _, rfl⟩ := toPs_cons h1
    rfl
  | x :: r, y :: s, p, q, hx, hy, h1, h2 => by
    have hx' : D.pl x = true ∧ pls r = true := by simpa [pls] using hx
    have hy' : D.pl y = true ∧ pls s = true := by simpa [pls] using hy
    obtain ⟨a, b, e1, e2, rfl⟩ := toPs_cons h1
    obtain ⟨c, f, e3, e4, rfl⟩ := toPs_cons h2
    show (PyData.eqv a c && PyData.eqvAll b f) = (D.eqv x y && eqvs r s)
    rw [eqv_P x y hx'.1 hy'.1 e1 e3, eqvs_P r s hx'.2 hy'.2 e2 e4]
termination_by xs _ => sizeOf xs
end
theorem sh_shaped {d : D} {v : V} (h : d.sh = true) (r : Rep K N ρ H d v) : ∃ p, toP d = some p ∧ Dp K H v p ∧ SeqAt.shaped p = true ∧ p.canLay0 = true ∧ p.depth ≤ 60 := by
  have h' : d.pl = true ∧ d.dp ≤ 60 := by simpa [D.sh] using h
  obtain ⟨p, h1, h2, h3, h4⟩ := pl_dp h'.1 r
  refine ⟨p, h1, h2, ?_, h3, by rw [h4]; exact h'.2⟩
  unfold SeqAt.shaped
  rw [h3, h4]
  simp
  omega
theorem top_dp {v : V} (s : Sim K N ρ S H) (h : (top S d).sh = true) (r : Rep K N ρ H d v) : ∃ p, toP (top S d) = some p ∧ Dp K H v p ∧ SeqAt.shaped p = true ∧ p.canLay0 = true ∧ p.depth ≤ 60 := by
  unfold top at h ⊢
  split at h
  · split at h
    · rename_i a _ xs hs
      obtain ⟨p, e, hp⟩ := r
      obtain ⟨vs, h1, q⟩ := s.obs a _ p hs hp
      have h' : pls xs = true ∧ dps xs + 1 ≤ 60 := by simpa [D.sh, D.pl, D.dp] using h
      obtain ⟨ps, g1, g2, g3, g4⟩ := pls_dp h'.1 q
      refine ⟨.list ps, by simp [toP, g1], by rw [e]; exact .lst (SqL.of h1) g2, ?_, by simpa [PyData.canLay0] using g3, by simp [PyData.depth, g4]; omega⟩
      unfold SeqAt.shaped
      simp only [PyData.canLay0, g3, PyData.depth, g4]
      simp
      omega
    · exact sh_shaped h r
  · exact sh_shaped h r
theorem top_lst {v : V} {xs : List D} (s : Sim K N ρ S H) (h : top S d = .lst xs) (r : Rep K N ρ H d v) : ∃ p vs, v = .ref p ∧ H p = some (.lst vs) ∧ Reps K N ρ H xs vs := by
  unfold top at h
  split at h
  · split at h
    · rename_i a _ ys hs
      cases h
      obtain ⟨p, e, hp⟩ := r
      obtain ⟨vs, h1, q⟩ := s.obs a _ p hs hp
      exact ⟨p, vs, e, h1, q⟩
    · cases h
  · subst h
    obtain ⟨p, vs, e, ⟨h1, _⟩, q⟩ := r
    exact ⟨p, vs, e, h1, q⟩
theorem top_tup {v : V} {xs : List D} (h : top S d = .tup xs) (r : Rep K N ρ H d v) : ∃ p vs, v = .ref p ∧ SqT K H p vs ∧ Reps K N ρ H xs vs := by
  unfold top at h
  split at h
  · split at h
    · cases h
    · cases h
  · subst h
    obtain ⟨p, vs, e, t, q⟩ := r
    exact ⟨p, vs, e, t.1, q⟩
/-- how two values are told to be equal, or not -/
inductive EqW (K : PySem.W.Frag) (H : Hp) : V → V → Bool → Prop where
  | lsts {p q : Addr} {vs ws : List V} (h1 : H p = some (.lst vs)) (h2 : H q = some (.lst ws)) (h3 : vs.length ≠ ws.length) : EqW K H (.ref p) (.ref q) false
  | tupL {p q : Addr} {ws : List V} (h1 : SqT K H p []) (h2 : SqT K H q ws) (h3 : ws ≠ []) : EqW K H (.ref p) (.ref q) false
  | tupR {p q : Addr} {vs : List V} (h1 : SqT K H p vs) (h2 : SqT K H q []) (h3 : vs ≠ []) : EqW K H (.ref p) (.ref q) false
  | data {x y : V} {p q : PyData} (h1 : Dp K H x p) (h2 : Dp K H y q) (h3 : SeqAt.shaped p = true) (h4 : SeqAt.shaped q = true) : EqW K H x y (PyData.eqv p q)
theorem eqq_at {x y : V} {b : Bool} (s : Sim K N ρ S H) (r1 : Rep K N ρ H d x) (r2 : Rep K N ρ H e y) (h : eqq S d e = some b) : EqW K H x y b := by
  unfold eqq at h
  simp only at h
  split at h
  · rename_i hu
    cases h
    unfold unlike at hu
    split at hu
    · rename_i xs ys h1 h2
      obtain ⟨p, vs, rfl, g1, q1⟩ := top_lst s h1 r1
      obtain ⟨q, ws, rfl, g2, q2⟩ := top_lst s h2 r2
      refine .lsts g1 g2 ?_
      rw [q1.length, q2.length]
      simpa using hu
    · rename_i ys h1 h2
      obtain ⟨p, vs, rfl, g1, q1⟩ := top_tup h1 r1
      obtain ⟨q, ws, rfl, g2, q2⟩ := top_tup h2 r2
      cases (show vs = [] from q1)
      exact .tupL g1 g2 fun z => by rw [z] at q2; cases reps_nil q2
    · rename_i ys h1 h2
      obtain ⟨p, vs, rfl, g1, q1⟩ := top_tup h1 r1
      obtain ⟨q, ws, rfl, g2, q2⟩ := top_tup h2 r2
      cases (show ws = [] from q2)
      exact .tupR g1 g2 fun z => by rw [z] at q1; cases reps_nil q1
    · cases hu
  · split at h
    · rename_i hsh
      cases h
      have h' := Bool.and_eq_true_iff.mp hsh
      obtain ⟨p, a1, a2, a3, a4, a5⟩ := top_dp s h'.1 r1
      obtain ⟨q, b1, b2, b3, b4, b5⟩ := top_dp s h'.2 r2
      have k1 : (top S d).pl = true := by have := h'.1; unfold D.sh at this; exact (Bool.and_eq_true_iff.mp this).1
      have k2 : (top S e).pl = true := by have := h'.2; unfold D.sh at this; exact (Bool.and_eq_true_iff.mp this).1
      rw [← eqv_P _ _ k1 k2 a1 b1]
      exact .data a2 b2 a3 b3
    · cases h
theorem snd_eq (hu : X.A.units + 64 < cLine) : OpR X (compareOp .Eq) (rOp2 X.K N P .eq) := by
  intro pins s σ H x y v u Q I rx ry h
  obtain ⟨pv, ρ, S, ds, d', S', r, sm, ho, g⟩ := h
  obtain ⟨d, e, rfl, r1, r2⟩ := reps2 r
  obtain ⟨b, hb, rfl, rfl⟩ := bl_inv (show bl S (eqq S d e) = _ from ho)
  have q : Q (.bl b) H := g.same sm rfl
  cases eqq_at sm r1 r2 hb with
  | lsts h1 h2 h3 =>
    cases rx; cases ry
    obtain ⟨its, rv, pl, _⟩ := I.list (SqL.of h1)
    obtain ⟨its2, rv2, pl2, _⟩ := I.list (SqL.of h2)
    refine SeqAt.eq_list_lengthsAt pl.isList pl2.isList ?_ (by omega) ⟨.bl _, H, I, rfl, q⟩
    simp only [List.size_toArray, ← rv.length, ← rv2.length]
    simpa using h3
  | tupL h1 h2 h3 =>
    cases rx; cases ry
    obtain ⟨its, rv, ⟨o, ho, hc, n, hd⟩, _⟩ := I.tuple h1
    obtain ⟨its2, rv2, ⟨o2, ho2, hc2, n2, hd2⟩, _⟩ := I.tuple h2
    cases rv
    refine SeqAt.eq_tupleAt (e := fun _ => false) ⟨o, ho, hc, n, hd⟩ ⟨o2, ho2, hc2, n2, hd2⟩ (by omega) (fun j h1 => by simp at h1) ⟨.bl false, H, I, ?_, q⟩
    cases rv2 with
    | nil => exact absurd rfl h3
    | cons a b => simp [RelV]
  | tupR h1 h2 h3 =>
    cases rx; cases ry
    obtain ⟨its, rv, ⟨o, ho, hc, n, hd⟩, _⟩ := I.tuple h1
    obtain ⟨its2, rv2, ⟨o2, ho2, hc2, n2, hd2⟩, _⟩ := I.tuple h2
    cases rv2
    refine SeqAt.eq_tupleAt (e := fun _ => false) ⟨o, ho, hc, n, hd⟩ ⟨o2, ho2, hc2, n2, hd2⟩ (by omega) (fun j h1 h2 => by simp at h2) ⟨.bl false, H, I, ?_, q⟩
    cases rv with
    | nil => exact absurd rfl h3
    | cons a b => simp [RelV]
  | data h1 h2 h3 h4 => exact op_eqD hu pins s σ H _ _ _ _ Q I rx ry ⟨_, _, h1, h2, h3, h4, q⟩
theorem snd_ne (hu : X.A.units + 64 < cLine) : OpR X (compareOp .NotEq) (rOp2 X.K N P .ne) := by
  intro pins s σ H x y v u Q I rx ry h
  obtain ⟨pv, ρ, S, ds, d', S', r, sm, ho, g⟩ := h
  obtain ⟨d, e, rfl, r1, r2⟩ := reps2 r
  obtain ⟨b, hb, rfl, rfl⟩ := bl_inv (show bl S ((eqq S d e).map (!·)) = _ from ho)
  obtain ⟨c, hc, rfl⟩ := Option.map_eq_some_iff.mp hb
  have q : Q (.bl (!c)) H := g.same sm rfl
  cases eqq_at sm r1 r2 hc with
  | lsts h1 h2 h3 =>
    cases rx; cases ry
    obtain ⟨its, rv, pl, _⟩ := I.list (SqL.of h1)
    obtain ⟨its2, rv2, pl2, _⟩ := I.list (SqL.of h2)
    refine SeqAt.RcNeAt.lists_lengths pl.isList pl2.isList ?_ (by omega) X.prog X.w _ _ ⟨.bl _, H, I, rfl, q⟩
    simp only [List.size_toArray, ← rv.length, ← rv2.length]
    simpa using h3
  | tupL h1 h2 h3 =>
    cases rx; cases ry
    obtain ⟨its, rv, ⟨o, ho, hc, n, hd⟩, _⟩ := I.tuple h1
    obtain ⟨its2, rv2, ⟨o2, ho2, hc2, n2, hd2⟩, _⟩ := I.tuple h2
    cases rv
    refine SeqAt.RcNeAt.tuples (e := fun _ => false) ⟨o, ho, hc, n, hd⟩ ⟨o2, ho2, hc2, n2, hd2⟩ (by omega) (fun j h1 => by simp at h1) X.prog X.w _ _ ⟨.bl true, H, I, ?_, q⟩
    cases rv2 with
    | nil => exact absurd rfl h3
    | cons a b => simp [RelV]
  | tupR h1 h2 h3 =>
    cases rx; cases ry
    obtain ⟨its, rv, ⟨o, ho, hc, n, hd⟩, _⟩ := I.tuple h1
    obtain ⟨its2, rv2, ⟨o2, ho2, hc2, n2, hd2⟩, _⟩ := I.tuple h2
    cases rv2
    refine SeqAt.RcNeAt.tuples (e := fun _ => false) ⟨o, ho, hc, n, hd⟩ ⟨o2, ho2, hc2, n2, hd2⟩ (by omega) (fun j h1 h2 => by simp at h2) X.prog X.w _ _ ⟨.bl true, H, I, ?_, q⟩
    cases rv with
    | nil => exact absurd rfl h3
    | cons a b => simp [RelV]
  | data h1 h2 h3 h4 => exact op_neD hu pins s σ H _ _ _ _ Q I rx ry ⟨_, _, h1, h2, h3, h4, q⟩
end Sa
set_option maxHeartbeats 1000000
/-! Operations: is, in, places, cuts, sizes, truths, dicts. -/
namespace Sa
open PySem L2
variable {K : PySem.W.Frag} {N : Nm} {P : Prog} {ρ ρ' : List Addr} {H H' : Hp} {S S' : Sto} {d e : D} {Q : VK} {X : Cx}
theorem rep_non {x : V} (r : Rep K N ρ H d x) : decide (x = V.non) = decide (d = D.non) := by
  cases d with
  | non => cases r; rfl
  | bl b => cases r; rfl
  | int b => cases r; rfl
  | str b => cases r; rfl
  | tup b => obtain ⟨p, vs, rfl, _⟩ := r; rfl
  | lst b => obtain ⟨p, vs, rfl, _⟩ := r; rfl
  | dct a b => obtain ⟨p, vs, rfl, _⟩ := r; rfl
  | ro b => obtain ⟨p, vs, rfl, _⟩ := r; rfl
  | loc a => obtain ⟨p, rfl, _⟩ := r; rfl
  | fn a => cases r; rfl
  | cls a => cases r; rfl
  | exc a b => obtain ⟨p, rfl, _⟩ := r; rfl
theorem snd_is : OpR X (compareOp .Is) (rOp2 X.K N P .is_) := by
  intro pins s σ H x y v u Q I rx ry h
  obtain ⟨pv, ρ, S, ds, d', S', r, sm, ho, g⟩ := h
  obtain ⟨d, e, rfl, r1, r2⟩ := reps2 r
  obtain ⟨b, hb, rfl, rfl⟩ := bl_inv (show bl S (isS d e) = _ from ho)
  have q : Q (.bl b) H := g.same sm rfl
  unfold isS at hb
  split at hb
  · cases r2; cases hb
    exact op_isN pins s σ H _ _ _ _ Q I rx ry ⟨rfl, by rw [rep_non r1]; exact q⟩
  · split at hb
    · cases r1; cases r2; cases hb
      exact op_isBl pins s σ H _ _ _ _ Q I rx ry ⟨_, _, rfl, rfl, q⟩
    · cases hb
  · cases hb
theorem snd_isnot : OpR X (compareOp .IsNot) (rOp2 X.K N P .isnot) := by
  intro pins s σ H x y v u Q I rx ry h
  obtain ⟨pv, ρ, S, ds, d', S', r, sm, ho, g⟩ := h
  obtain ⟨d, e, rfl, r1, r2⟩ := reps2 r
  obtain ⟨b, hb, rfl, rfl⟩ := bl_inv (show bl S ((isS d e).map (!·)) = _ from ho)
  obtain ⟨c, hc, rfl⟩ := Option.map_eq_some_iff.mp hb
  have q : Q (.bl (!c)) H := g.same sm rfl
  unfold isS at hc
  split at hc
  · cases r2; cases hc
    exact op_notN pins s σ H _ _ _ _ Q I rx ry ⟨rfl, by rw [rep_non r1]; exact q⟩
  · split at hc
    · cases r1; cases r2; cases hc
      exact op_notBl pins s σ H _ _ _ _ Q I rx ry ⟨_, _, rfl, rfl, q⟩
    · cases hc
  · cases hc

/-! ### keys and dicts -/
theorem keyD_inj {a b : Key} (h : keyD a = keyD b) : a = b := by
  cases a <;> cases b <;> simp_all [keyD]
theorem isKey_at {x : V} (h : isKey d = true) (r : Rep K N ρ H d x) : ∃ k, d = keyD k ∧ x = kV k := by
  cases d <;> simp [isKey] at h
  · exact ⟨.inl _, rfl, r⟩
  · exact ⟨.inr _, rfl, r⟩
theorem pairs_at {x : V} {kvs : List (D × D)} (s : Sim K N ρ S H) (r : Rep K N ρ H d x) (h : pairs S d = some kvs) : ∃ p kws, x = .ref p ∧ Rd H p (.dK kws) ∧ RepKv K N ρ H kvs kws := by
  cases d with
  | dct ks ws =>
    obtain ⟨p, kws, e, h1, _, h2, h3⟩ := r
    simp only [pairs] at h
    split at h
    · rename_i hl
      cases h
      refine ⟨p, kws, e, h1, ?_, ?_⟩
      · rw [List.map_fst_zip (by omega)]; exact h2
      · rw [List.map_snd_zip (by omega)]; exact h3
    · cases h
  | loc a =>
    obtain ⟨p, e, hp⟩ := r
    simp only [pairs] at h
    split at h
    · rename_i ys lk hs
      cases h
      obtain ⟨kws, h1, r⟩ := s.obs a _ p hs hp
      refine ⟨p, kws, e, ?_, r⟩
      cases lk with
      | true => obtain ⟨od, h1⟩ := h1; exact .inr ⟨od, h1⟩
      | false => exact .inl h1
    · cases h
  | _ => simp [pairs] at h
/-- what stands under a key -/
theorem look_at : ∀ {kvs : List (D × D)} {kws : List (Key × V)} (k : Key), RepKv K N ρ H kvs kws → (look kvs (keyD k) = none ∧ valV kws k = none) ∨ ∃ d v, look kvs (keyD k) = some d ∧ valV kws k = some v ∧ Rep K N ρ H d v
  | [], [], k, _ => .inl ⟨rfl, rfl⟩
  | [], _ :: _, k, ⟨h, _⟩ => by cases h
  | _ :: _, [], k, ⟨h, _⟩ => by cases h
  | (j, w) :: r, (j', w') :: r', k, ⟨h1, h2⟩ => by
    obtain ⟨v0, ws, e, a, b⟩ := h2
    simp only [List.map_cons, List.cons.injEq] at h1 e
    obtain ⟨hj, h1⟩ := h1
    obtain ⟨rfl, rfl⟩ := e
    by_cases hk : j' = k
    · right
      refine ⟨w, w', ?_, valV_pos (p := (j', w')) hk, a⟩
      unfold look
      rw [if_pos (by rw [hj, hk])]
    · have e2 : look ((j, w) :: r) (keyD k) = look r (keyD k) := by
        conv => lhs; unfold look
        rw [if_neg (fun z => hk (keyD_inj (hj.symm.trans z)))]
      rw [e2, valV_neg (p := (j', w')) hk]
      exact look_at k ⟨h1, b⟩
theorem any_at : ∀ {kvs : List (D × D)} {kws : List (Key × V)} (k : Key), RepKv K N ρ H kvs kws → (kvs.any fun q => decide (q.1 = keyD k)) = (kws.any fun kv => decide (kv.1 = k))
  | [], [], k, _ => rfl
  | [], _ :: _, k, ⟨h, _⟩ => by cases h
  | _ :: _, [], k, ⟨h, _⟩ => by cases h
  | (j, w) :: r, (j', w') :: r', k, ⟨h1, h2⟩ => by
    obtain ⟨v0, ws, e, a, b⟩ := h2
    simp only [List.map_cons, List.cons.injEq] at h1 e
    obtain ⟨hj, h1⟩ := h1
    obtain ⟨rfl, rfl⟩ := e
    rw [List.any_cons, List.any_cons, any_at k ⟨h1, b⟩]
    congr 1
    by_cases hk : j' = k
    · rw [decide_eq_true hk, decide_eq_true (by rw [hj, hk])]
    · rw [decide_eq_false hk, decide_eq_false (fun z => hk (keyD_inj (hj.symm.trans z)))]
theorem repl_at : ∀ {kvs : List (D × D)} {kws : List (Key × V)} (k : Key) {d : D} {v : V}, RepKv K N ρ H kvs kws → Rep K N ρ H d v →
    RepKv K N ρ H (kvs.map fun q => if q.1 = keyD k then (q.1, d) else q) (kws.map fun q => if q.1 = k then (q.1, v) else q)
  | [], [], k, _, _, h, _ => h
  | [], _ :: _, k, _, _, ⟨h, _⟩, _ => by cases h
  | _ :: _, [], k, _, _, ⟨h, _⟩, _ => by cases h
  | (j, w) :: r, (j', w') :: r', k, d, v, ⟨h1, h2⟩, q => by
    obtain ⟨v0, ws, e, a, b⟩ := h2
    simp only [List.map_cons, List.cons.injEq] at h1 e
    obtain ⟨hj, h1⟩ := h1
    obtain ⟨rfl, rfl⟩ := e
    obtain ⟨i1, i2⟩ := repl_at k ⟨h1, b⟩ q
    rw [List.map_cons, List.map_cons]
    by_cases hk : j' = k
    · rw [if_pos (show (j', w').1 = k from hk), if_pos (show (j, w).1 = keyD k from by rw [← hk]; exact hj)]
      exact ⟨by simp only [List.map_cons, i1, hj], v, _, rfl, q, i2⟩
    · rw [if_neg (show ¬ (j', w').1 = k from hk), if_neg (show ¬ (j, w).1 = keyD k from fun z => hk (keyD_inj (hj.symm.trans z)))]
      exact ⟨by simp only [List.map_cons, i1, hj], w', _, rfl, a, i2⟩
theorem put_at {kvs : List (D × D)} {kws : List (Key × V)} (k : Key) {d : D} {v : V} (h : RepKv K N ρ H kvs kws) (q : Rep K N ρ H d v) : RepKv K N ρ H (put kvs (keyD k) d) (putK kws k v) := by
  unfold put putK
  rw [any_at k h]
  split
  · exact repl_at k h q
  · refine ⟨?_, ?_⟩
    · rw [List.map_append, List.map_append, h.1]; rfl
    · rw [List.map_append, List.map_append]
      exact h.2.append (Reps.one q)
theorem RepKv.length {kvs : List (D × D)} {kws : List (Key × V)} (h : RepKv K N ρ H kvs kws) : kws.length = kvs.length := by
  have := h.2.length
  simpa using this

/-! ### in -/
theorem walked_dp {x : V} {xs : List D} (s : Sim K N ρ S H) (r : Rep K N ρ H d x) (h : walked S d = some xs) (hs : xs.all D.sh = true) :
    ∃ ps, toPs xs = some ps ∧ (Dp K H x (.list ps) ∨ Dp K H x (.tuple ps)) ∧ PyData.canLayAll0 ps = true ∧ pls xs = true := by
  obtain ⟨p, vs, rfl, t, q⟩ := walked_at s r h
  have hp : pls xs = true := by
    clear h t q r
    induction xs with
    | nil => rfl
    | cons a b ih =>
      rw [List.all_cons, Bool.and_eq_true] at hs
      unfold pls
      have := hs.1
      unfold D.sh at this
      rw [(Bool.and_eq_true_iff.mp this).1, ih hs.2]; rfl
  obtain ⟨ps, g1, g2, g3, _⟩ := pls_dp hp q
  refine ⟨ps, g1, ?_, g3, hp⟩
  rcases t with t | t
  · exact .inl (.lst t g2)
  · exact .inr (.tup t g2)
theorem any_eqv {x : D} {p : PyData} (hx : x.pl = true) (h : toP x = some p) : ∀ {xs : List D} {ps : List PyData}, pls xs = true → toPs xs = some ps → (ps.any fun y => PyData.eqv y p) = xs.any fun y => D.eqv y x
  | [], ps, _, e => by cases e; rfl
  | a :: r, ps, hp, e => by
    have hp' : D.pl a = true ∧ pls r = true := by simpa [pls] using hp
    obtain ⟨q, qs, e1, e2, rfl⟩ := toPs_cons e
    rw [List.any_cons, List.any_cons, any_eqv hx h hp'.2 e2, eqv_P a x hp'.1 hx e1 h]
inductive InW (K : PySem.W.Frag) (H : Hp) : V → V → Bool → Prop where
  | lst {x c : V} {p : PyData} {ps : List PyData} (h1 : Dp K H x p) (h2 : Dp K H c (.list ps)) (h3 : p.canLay0 = true) (h4 : PyData.canLayAll0 ps = true) (h5 : p.depth ≤ 60) : InW K H x c (ps.any fun y => PyData.eqv y p)
  | tup {x c : V} {p : PyData} {ps : List PyData} (h1 : Dp K H x p) (h2 : Dp K H c (.tuple ps)) (h3 : p.canLay0 = true) (h4 : PyData.canLayAll0 ps = true) (h5 : p.depth ≤ 60) : InW K H x c (ps.any fun y => PyData.eqv y p)
  | dct {x : V} {a : Addr} {o : Option V} (h : DGet H a x o) : InW K H x (.ref a) o.isSome
theorem inn_at {x c : V} {b : Bool} (s : Sim K N ρ S H) (r1 : Rep K N ρ H d x) (r2 : Rep K N ρ H e c) (h : inn S d e = some b) : InW K H x c b := by
  unfold inn at h
  split at h
  · rename_i xs hw
    split at h
    · rename_i hs
      cases h
      have hs' := Bool.and_eq_true_iff.mp hs
      obtain ⟨p, a1, a2, a3, a4, a5⟩ := sh_shaped hs'.1 r1
      have hpl : d.pl = true := by have := hs'.1; unfold D.sh at this; exact (Bool.and_eq_true_iff.mp this).1
      obtain ⟨ps, g1, g2, g3, g4⟩ := walked_dp s r2 hw hs'.2
      rw [← any_eqv hpl a1 g4 g1]
      rcases g2 with g2 | g2
      · exact .lst a2 g2 a4 g3 a5
      · exact .tup a2 g2 a4 g3 a5
    · cases h
  · split at h
    · rename_i kvs hk
      split at h
      · rename_i hx
        cases h
        obtain ⟨k, rfl, rfl⟩ := isKey_at hx r1
        obtain ⟨p, kws, rfl, g1, g2⟩ := pairs_at s r2 hk
        have g : DGet H p (kV k) (valV kws k) := .inl ⟨kws, k, g1, rfl, rfl⟩
        have : (look kvs (keyD k)).isSome = (valV kws k).isSome := by
          rcases look_at k g2 with ⟨h1, h2⟩ | ⟨d, v, h1, h2, _⟩
          · rw [h1, h2]; rfl
          · rw [h1, h2]; rfl
        rw [this]
        exact .dct g
      · cases h
    · cases h
theorem snd_in (hu : X.A.units + 64 < cLine) : OpR X (compareOp .In) (rOp2 X.K N P .in_) := by
  intro pins s σ H x y v u Q I rx ry h
  obtain ⟨pv, ρ, S, ds, d', S', r, sm, ho, g⟩ := h
  obtain ⟨d, e, rfl, r1, r2⟩ := reps2 r
  obtain ⟨b, hb, rfl, rfl⟩ := bl_inv (show bl S (inn S d e) = _ from ho)
  have q : Q (.bl b) H := g.same sm rfl
  cases inn_at sm r1 r2 hb with
  | lst h1 h2 h3 h4 h5 =>
    obtain ⟨as, q1⟩ := Dp.reads I _ _ _ h1 rx
    obtain ⟨bs, q2⟩ := Dp.reads I _ _ _ h2 ry
    exact SeqAt.in_list_reads q2 q1 h4 h3 (by omega) ⟨.bl _, H, I, rfl, q⟩
  | tup h1 h2 h3 h4 h5 =>
    obtain ⟨as, q1⟩ := Dp.reads I _ _ _ h1 rx
    obtain ⟨bs, q2⟩ := Dp.reads I _ _ _ h2 ry
    exact SeqAt.in_tuple_reads q2 q1 h4 h3 (by omega) ⟨.bl _, H, I, rfl, q⟩
  | dct h1 =>
    cases ry
    exact d_in (by omega) I h1 rx fun s' I' => ⟨.bl _, H, I', rfl, q⟩
theorem snd_notin (hu : X.A.units + 64 < cLine) : OpR X (compareOp .NotIn) (rOp2 X.K N P .notin) := by
  intro pins s σ H x y v u Q I rx ry h
  obtain ⟨pv, ρ, S, ds, d', S', r, sm, ho, g⟩ := h
  obtain ⟨d, e, rfl, r1, r2⟩ := reps2 r
  obtain ⟨b, hb, rfl, rfl⟩ := bl_inv (show bl S ((inn S d e).map (!·)) = _ from ho)
  obtain ⟨c, hc, rfl⟩ := Option.map_eq_some_iff.mp hb
  have q : Q (.bl (!c)) H := g.same sm rfl
  cases inn_at sm r1 r2 hc with
  | lst h1 h2 h3 h4 h5 =>
    obtain ⟨as, q1⟩ := Dp.reads I _ _ _ h1 rx
    obtain ⟨bs, q2⟩ := Dp.reads I _ _ _ h2 ry
    exact SeqAt.notIn_list_reads q2 q1 h4 h3 (by omega) ⟨.bl _, H, I, rfl, q⟩
  | tup h1 h2 h3 h4 h5 =>
    obtain ⟨as, q1⟩ := Dp.reads I _ _ _ h1 rx
    obtain ⟨bs, q2⟩ := Dp.reads I _ _ _ h2 ry
    exact SeqAt.notIn_tuple_reads q2 q1 h4 h3 (by omega) ⟨.bl _, H, I, rfl, q⟩
  | dct h1 =>
    cases ry
    exact d_notIn (by omega) I h1 rx fun s' I' => ⟨.bl _, H, I', rfl, q⟩

/-! ### places -/
theorem ix_ixN (n : Nat) (i : Int) : ix n i = ixN n i := rfl
theorem at_at {xs : List D} {vs : List V} {i : Int} {d : D} (r : Reps K N ρ H xs vs) (h : ((ix xs.length i).bind fun j => xs[j]?) = some d) : ∃ v, atI vs i = some v ∧ Rep K N ρ H d v := by
  rw [ix_ixN, ← r.length] at h
  obtain ⟨j, h1, h2⟩ := Option.bind_eq_some_iff.mp h
  obtain ⟨v, h3, h4⟩ := r.get h2
  exact ⟨v, by unfold atI; rw [h1]; exact h3, h4⟩
inductive IdxW (K : PySem.W.Frag) (H : Hp) : V → V → V → Prop where
  | lst {p : Addr} {vs : List V} {i : Int} {v : V} (h1 : SqL K H p vs) (h2 : atI vs i = some v) : IdxW K H (.ref p) (.int i) v
  | tup {p : Addr} {vs : List V} {i : Int} {v : V} (h1 : SqT K H p vs) (h2 : atI vs i = some v) : IdxW K H (.ref p) (.int i) v
  | dct {a : Addr} {x v : V} (h : DGet H a x (some v)) : IdxW K H (.ref a) x v
theorem idx_at {x y : V} {z : D} (s : Sim K N ρ S H) (r1 : Rep K N ρ H d x) (r2 : Rep K N ρ H e y) (h : idxS S d e = .ok z S') : S' = S ∧ ∃ v, IdxW K H x y v ∧ Rep K N ρ H z v := by
  have atW : ∀ {xs : List D} {vs : List V}, Reps K N ρ H xs vs → atS S xs e = .ok z S' → S' = S ∧ ∃ i v, y = .int i ∧ atI vs i = some v ∧ Rep K N ρ H z v := fun {xs vs} q h => by
    unfold atS at h
    split at h
    · cases r2
      obtain ⟨h1, h2⟩ := R.lift_inv h
      obtain ⟨v, h3, h4⟩ := at_at q h1
      exact ⟨h2, _, v, rfl, h3, h4⟩
    · cases h
  unfold idxS at h
  split at h
  · obtain ⟨p, vs, rfl, t, q⟩ := r1
    obtain ⟨e1, i, v, rfl, h1, h2⟩ := atW q h
    exact ⟨e1, v, .tup t.1 h1, h2⟩
  · split at h
    · rename_i xs hi
      obtain ⟨p, vs, rfl, h0, q⟩ := items_at s r1 hi
      obtain ⟨e1, i, v, rfl, h1, h2⟩ := atW q h
      exact ⟨e1, v, .lst (SqL.of h0) h1, h2⟩
    · unfold lookS at h
      split at h
      · rename_i kvs hk
        obtain ⟨hx, h⟩ := if_inv h
        obtain ⟨h1, h2⟩ := R.lift_inv h
        obtain ⟨k, rfl, rfl⟩ := isKey_at hx r2
        obtain ⟨p, kws, rfl, g1, g2⟩ := pairs_at s r1 hk
        rcases look_at k g2 with ⟨l1, _⟩ | ⟨d0, v, l1, l2, l3⟩
        · rw [l1] at h1; cases h1
        · rw [l1] at h1; cases h1
          exact ⟨h2, v, .dct (.inl ⟨kws, k, g1, rfl, l2.symm⟩), l3⟩
      · cases h
theorem snd_idx (hu : X.A.units + 64 < cLine) : IxR X (rOp2 X.K N P .idx) := by
  intro value slice pins s σ H x y v u Q I rx ry h hs
  obtain ⟨pv, ρ, S, ds, d', S', r, sm, ho, g⟩ := h
  obtain ⟨d, e, rfl, r1, r2⟩ := reps2 r
  obtain ⟨rfl, z, w, rz⟩ := idx_at sm r1 r2 (show idxS S d e = _ from ho)
  have q := g.same sm rz
  cases w with
  | lst h1 h2 => exact ix_list value slice pins s σ H _ _ _ _ Q I rx ry ⟨_, _, _, _, rfl, rfl, h1, h2, q⟩ hs
  | tup h1 h2 => exact ix_tup value slice pins s σ H _ _ _ _ Q I rx ry ⟨_, _, _, _, rfl, rfl, h1, h2, q⟩ hs
  | dct h1 =>
    cases rx
    exact PyProof.Rows.tail_any (dict_typeIs I h1) PySem.F.slot_dict_getitem.lookup (d_getItem (by omega) I h1 ry fun w' s' I' r' => ⟨_, H, I', r', q⟩) hs
end Sa
set_option maxHeartbeats 1000000
/-! Operations: cuts, sizes, truths, tuple(..), list(..). -/
namespace Sa
open PySem L2
variable {K : PySem.W.Frag} {N : Nm} {P : Prog} {ρ ρ' : List Addr} {H H' : Hp} {S S' : Sto} {d e : D} {Q : VK} {X : Cx}

/-! ### cuts -/
theorem cutAt_eq (n d : Nat) (o : Option Int) : cutAt n d o = HT.sIx n d o := by cases o <;> rfl
theorem cut_reps {xs : List D} {vs : List V} (lo hi : Option Int) (r : Reps K N ρ H xs vs) : Reps K N ρ H (cut xs lo hi) (cutV vs lo hi) := by
  unfold cut cutV
  rw [cutAt_eq, cutAt_eq, ← r.length]
  exact (r.drop _).take _
def rSlO (K : PySem.W.Frag) (N : Nm) : V → Option Int → Option Int → Hp → VK → Prop := fun x lo hi H Q =>
  ∃ pv ρ S d z S', Rep K (N.at pv) ρ H d x ∧ Sim K (N.at pv) ρ S H ∧ cutS S d lo hi = .ok z S' ∧ Go K (N.at pv) ρ H z S' Q
theorem snd_slc : SlR X (rSlO X.K N) := by
  intro pins s σ H x v vl vu lo hi sl Q I rx hs pl pu h
  obtain ⟨pv, ρ, S, d, z, S', r, sm, ho, g⟩ := h
  unfold cutS at ho
  split at ho
  · cases ho
    obtain ⟨p, vs, rfl, t, q⟩ := r
    refine sl_tupA pins s σ H _ v vl vu lo hi sl Q I rx hs pl pu ⟨p, vs, rfl, t.1, fun hw => ?_, fun _ l hl => g.tup sm hl (cut_reps lo hi q)⟩
    refine g.same sm ⟨p, vs, rfl, t, ?_⟩
    have e := cut_reps lo hi q
    have : cutV vs lo hi = vs := by
      unfold cutV
      rw [hw.1, hw.2]; simp
    rw [this] at e; exact e
  · obtain ⟨h1, rfl⟩ := R.lift_inv ho
    obtain ⟨xs, h2, rfl⟩ := Option.map_eq_some_iff.mp h1
    obtain ⟨p, vs, rfl, h0, q⟩ := items_at sm r h2
    exact sl_list pins s σ H _ v vl vu lo hi sl Q I rx hs pl pu ⟨p, vs, rfl, SqL.of h0, fun l hl => g.lst sm hl (cut_reps lo hi q)⟩

/-! ### calls of one, two, three values -/
def c1 (K : PySem.W.Frag) (N : Nm) (P : Prog) (o : Op) : List V → Hp → VK → Prop := fun xs H Q => ∃ x, xs = [x] ∧ rOp K N P o [x] H Q
def c2 (K : PySem.W.Frag) (N : Nm) (P : Prog) (o : Op) : List V → Hp → VK → Prop := fun xs H Q => ∃ x y, xs = [x, y] ∧ rOp K N P o [x, y] H Q
theorem c1_at {o : Op} {xs : List V} (h : c1 K N P o xs H Q) : ∃ x pv ρ S d d' S', xs = [x] ∧ Rep K (N.at pv) ρ H d x ∧ Sim K (N.at pv) ρ S H ∧ opSem P o [d] S = .ok d' S' ∧ Go K (N.at pv) ρ H d' S' Q := by
  obtain ⟨x, rfl, pv, ρ, S, ds, d', S', rs, sm, ho, g⟩ := h
  obtain ⟨d, rfl, r1⟩ := reps1 rs
  exact ⟨x, pv, ρ, S, d, d', S', rfl, r1, sm, ho, g⟩
theorem c2_at {o : Op} {xs : List V} (h : c2 K N P o xs H Q) : ∃ x y pv ρ S d e d' S', xs = [x, y] ∧ Rep K (N.at pv) ρ H d x ∧ Rep K (N.at pv) ρ H e y ∧ Sim K (N.at pv) ρ S H ∧ opSem P o [d, e] S = .ok d' S' ∧ Go K (N.at pv) ρ H d' S' Q := by
  obtain ⟨x, y, rfl, pv, ρ, S, ds, d', S', rs, sm, ho, g⟩ := h
  obtain ⟨d, e, rfl, r1, r2⟩ := reps2 rs
  exact ⟨x, y, pv, ρ, S, d, e, d', S', rfl, r1, r2, sm, ho, g⟩
/-! ### sizes -/
theorem snd_len : CallR X (.builtin "len") (c1 X.K N P .len) := by
  intro pins s σ H xs us Q I r h
  obtain ⟨x, pv, ρ, S, d, d', S', rfl, r1, sm, ho, g⟩ := c1_at h
  have ho : lenS S d = .ok d' S' := ho
  unfold lenS at ho
  split at ho
  · obtain ⟨hl, ho⟩ := if_inv ho
    cases ho; cases r1
    exact call_len_str pins s σ H _ us Q I r ⟨_, rfl, Nat.le_trans hl (Nat.le_of_lt big_line), g.same sm rfl⟩
  · split at ho
    · rename_i ys hw
      cases ho
      obtain ⟨p, vs, rfl, t, q⟩ := walked_at sm r1 hw
      exact call_len_seq pins s σ H _ us Q I r ⟨p, vs, rfl, t, g.same sm (by rw [q.length]; rfl)⟩
    · obtain ⟨h1, rfl⟩ := R.lift_inv ho
      obtain ⟨kvs, h2, rfl⟩ := Option.map_eq_some_iff.mp h1
      obtain ⟨p, kws, rfl, g1, g2⟩ := pairs_at sm r1 h2
      obtain ⟨u, rfl, ru⟩ := vals1 r
      cases ru
      exact d_len I g1 fun t s' I' => ⟨.int kws.length, H, I', ⟨t, rfl⟩, g.same sm (by rw [g2.length]; rfl)⟩
theorem snd_abs : CallR X (.builtin "abs") (c1 X.K N P .abs) := by
  intro pins s σ H xs us Q I r h
  obtain ⟨x, pv, ρ, S, d, d', S', rfl, r1, sm, ho, g⟩ := c1_at h
  obtain ⟨i, rfl, ho⟩ := int1_inv ho
  cases ho; cases r1
  exact call_abs pins s σ H _ us Q I r ⟨_, rfl, g.same sm rfl⟩
theorem snd_int : CallR X (.type "int") (c1 X.K N P .int) := by
  intro pins s σ H xs us Q I r h
  obtain ⟨x, pv, ρ, S, d, d', S', rfl, r1, sm, ho, g⟩ := c1_at h
  obtain ⟨i, rfl, ho⟩ := int1_inv ho
  cases ho; cases r1
  exact call_int1 pins s σ H _ us Q I r (.inl ⟨_, rfl, g.same sm rfl⟩)
theorem bools_at : ∀ {xs : List D} {vs : List V} {bs : List Bool}, Reps K N ρ H xs vs → bls xs = some bs → vs = bs.map V.bl
  | [], vs, b, r, h => by cases h; exact r
  | x :: t, vs, b, r, h => by
    obtain ⟨v, w, rfl, a, q⟩ := r
    unfold bls at h
    split at h
    · cases ‹_ :: _ = _›
    · rename_i e
      cases e
      split at h
      · cases h
        cases a
        rw [bools_at q (by assumption)]; rfl
      · cases h
    · cases h
theorem ints_at : ∀ {xs : List D} {vs : List V} {ns : List Int}, Reps K N ρ H xs vs → intsOf xs = some ns → vs = ns.map V.int
  | [], vs, b, r, h => by cases h; exact r
  | x :: t, vs, b, r, h => by
    obtain ⟨v, w, rfl, a, q⟩ := r
    unfold intsOf at h
    split at h
    · cases ‹_ :: _ = _›
    · rename_i e
      cases e
      split at h
      · cases h
        cases a
        rw [ints_at q (by assumption)]; rfl
      · cases h
    · cases h
theorem snd_all (hc : X.calm = true) : CallR X (.builtin "all") (c1 X.K N P .all) := by
  intro pins s σ H xs us Q I r h
  obtain ⟨x, pv, ρ, S, d, d', S', rfl, r1, sm, ho, g⟩ := c1_at h
  obtain ⟨b, hb, rfl, rfl⟩ := bl_inv (show bl S (((items S d).bind bls).map fun bs => bs.all id) = _ from ho)
  obtain ⟨bs, h1, rfl⟩ := Option.map_eq_some_iff.mp hb
  obtain ⟨ys, h2, h3⟩ := Option.bind_eq_some_iff.mp h1
  obtain ⟨p, vs, rfl, h0, q⟩ := items_at sm r1 h2
  rw [bools_at q h3] at h0
  exact cr_all hc pins s σ H _ us Q I r ⟨p, bs, rfl, SqL.of h0, g.same sm rfl⟩
theorem snd_any (hc : X.calm = true) : CallR X (.builtin "any") (c1 X.K N P .any) := by
  intro pins s σ H xs us Q I r h
  obtain ⟨x, pv, ρ, S, d, d', S', rfl, r1, sm, ho, g⟩ := c1_at h
  obtain ⟨b, hb, rfl, rfl⟩ := bl_inv (show bl S (((items S d).bind bls).map fun bs => bs.any id) = _ from ho)
  obtain ⟨bs, h1, rfl⟩ := Option.map_eq_some_iff.mp hb
  obtain ⟨ys, h2, h3⟩ := Option.bind_eq_some_iff.mp h1
  obtain ⟨p, vs, rfl, h0, q⟩ := items_at sm r1 h2
  rw [bools_at q h3] at h0
  exact cr_any hc pins s σ H _ us Q I r ⟨p, bs, rfl, SqL.of h0, g.same sm rfl⟩
theorem snd_sum (hc : X.calm = true) : CallR X (.builtin "sum") (c1 X.K N P .sum) := by
  intro pins s σ H xs us Q I r h
  obtain ⟨x, pv, ρ, S, d, d', S', rfl, r1, sm, ho, g⟩ := c1_at h
  obtain ⟨h1, rfl⟩ := R.lift_inv (show R.lift S (((items S d).bind intsOf).map fun ns => D.int ns.sum) = .ok d' S' from ho)
  obtain ⟨ns, h2, rfl⟩ := Option.map_eq_some_iff.mp h1
  obtain ⟨ys, h3, h4⟩ := Option.bind_eq_some_iff.mp h2
  obtain ⟨p, vs, rfl, h0, q⟩ := items_at sm r1 h3
  rw [ints_at q h4] at h0
  exact cr_sum hc pins s σ H _ us Q I r ⟨p, ns, rfl, SqL.of h0, g.same sm rfl⟩
theorem snd_min2 (hc : X.calm = true) : CallR X (.builtin "min") (c2 X.K N P .min2) := by
  intro pins s σ H xs us Q I r h
  obtain ⟨x, y, pv, ρ, S, d, e, d', S', rfl, r1, r2, sm, ho, g⟩ := c2_at h
  obtain ⟨i, j, rfl, rfl, ho⟩ := int2_inv ho
  cases ho; cases r1; cases r2
  exact call_min2 hc pins s σ H _ us Q I r ⟨_, _, rfl, g.same sm rfl⟩
theorem snd_max2 (hc : X.calm = true) : CallR X (.builtin "max") (c2 X.K N P .max2) := by
  intro pins s σ H xs us Q I r h
  obtain ⟨x, y, pv, ρ, S, d, e, d', S', rfl, r1, r2, sm, ho, g⟩ := c2_at h
  obtain ⟨i, j, rfl, rfl, ho⟩ := int2_inv ho
  cases ho; cases r1; cases r2
  exact call_max2 hc pins s σ H _ us Q I r ⟨_, _, rfl, g.same sm rfl⟩

/-! ### tuple(..), list(..) -/
theorem snd_tuple : CallR X (.type "tuple") (c1 X.K N P .tuple) := by
  intro pins s σ H xs us Q I r h
  obtain ⟨x, pv, ρ, S, d, d', S', rfl, r1, sm, ho, g⟩ := c1_at h
  obtain ⟨h1, rfl⟩ := R.lift_inv (show R.lift S ((walked S d).map D.tup) = .ok d' S' from ho)
  obtain ⟨ys, h2, rfl⟩ := Option.map_eq_some_iff.mp h1
  by_cases ht : ∃ zs, d = .tup zs
  · obtain ⟨zs, rfl⟩ := ht
    obtain ⟨p, vs, rfl, t, q⟩ := r1
    cases h2
    exact call_tuple_of pins s σ H _ us Q I r ⟨p, vs, rfl, .inr ⟨t.1, g.same sm ⟨p, vs, rfl, t, q⟩⟩⟩
  · have hl : ∃ p vs, x = .ref p ∧ SqL X.K H p vs ∧ Reps X.K (N.at pv) ρ H ys vs := by
      cases d with
      | tup zs => exact absurd ⟨zs, rfl⟩ ht
      | lst zs =>
        obtain ⟨p, vs, e, ⟨t, _⟩, q⟩ := r1
        cases h2
        exact ⟨p, vs, e, SqL.of t, q⟩
      | ro zs =>
        obtain ⟨p, vs, e, t, q⟩ := r1
        cases h2
        exact ⟨p, vs, e, t.1, q⟩
      | loc a =>
        obtain ⟨p, vs, e, t, q⟩ := items_at (d := .loc a) sm r1 (xs := ys) (by simpa [walked, items] using h2)
        exact ⟨p, vs, e, SqL.of t, q⟩
      | _ => simp [walked] at h2
    obtain ⟨p, vs, rfl, t, q⟩ := hl
    exact call_tuple_of pins s σ H _ us Q I r ⟨p, vs, rfl, .inl ⟨t, fun l hl => g.tup sm hl q⟩⟩
theorem snd_list {al : Bool} : CallR X (.type "list") (c1 X.K N P (.list al)) := by
  intro pins s σ H xs us Q I r h
  obtain ⟨x, pv, ρ, S, d, d', S', rfl, r1, sm, ho, g⟩ := c1_at h
  have ho : listS al S d = .ok d' S' := ho
  unfold listS at ho
  split at ho
  · rename_i ys hw
    obtain ⟨p, vs, rfl, t, q⟩ := walked_at sm r1 hw
    exact call_list_of pins s σ H _ us Q I r ⟨p, vs, rfl, t, fun l hl => Go.newL ho g sm hl q⟩
  · cases ho
end Sa
set_option maxHeartbeats 1000000
/-! x[::-1]; products. -/
namespace Sa
open PySem PySem.Spec PyProof.Rows L2
section
variable {prog : Program} {w : World} {A : Around} {E : Value → Shared → Prop} {s : Shared}
theorem adjust_rev (n : Nat) : Builtin.Slice.sliceAdjust none none (-1) (n : Int) = ((n : Int) - 1, -1) := by
  unfold Builtin.Slice.sliceAdjust
  simp
theorem places_rev (n : Nat) : Builtin.Slice.slicePlaces ((n : Int) - 1) (-1) (-1) = n := by
  unfold Builtin.Slice.slicePlaces
  simp
  try omega
theorem sliceApplied_rev {sl : Addr} {vs : Value} {n : Nat} {Q : Int × Int × Nat → Shared → Prop} (hs : s.heap.IsSliceOf sl .none .none vs) (ps : IsPart vs (some (-1)))
    (h : Q ((n : Int) - 1, -1, n) s) : wpAny (model prog w) A (Builtin.Slice.sliceApplied (.ref sl) (pure (n : Int))) Q E s := by
  obtain ⟨os, hos, hcs, hds⟩ := id hs
  unfold Builtin.Slice.sliceApplied Builtin.Slice.sliceFields
  refine wpAny_bind (wpAny_bind (wpAny_field hos hds (x := .none) rfl (wpAny_bind (wpAny_field hos hds (x := .none) rfl (wpAny_bind (wpAny_field hos hds (x := vs) rfl (wpAny_pure ?_)))))))
  refine wpAny_bind (HT.slicePart_ ps ?_)
  show wpAny _ _ (if ((-1 : Int) == 0) = true then _ else _) _ _ s
  rw [if_neg (by decide)]
  refine wpAny_bind (HT.slicePart_ .none (wpAny_bind (HT.slicePart_ .none (wpAny_bind (wpAny_pure ?_)))))
  show wpAny _ _ (match Builtin.Slice.sliceAdjust none none (-1) (n : Int) with | (lo, hi) => pure (lo, (-1 : Int), Builtin.Slice.slicePlaces lo hi (-1))) _ _ s
  rw [adjust_rev n]
  show wpAny _ _ (pure ((n : Int) - 1, (-1 : Int), Builtin.Slice.slicePlaces ((n : Int) - 1) (-1) (-1))) _ _ s
  rw [places_rev]
  exact wpAny_pure h
theorem fm_congr {α β : Type} {f g : α → Option β} : ∀ {l : List α}, (∀ a ∈ l, f a = g a) → l.filterMap f = l.filterMap g
  | [], _ => rfl
  | a :: r, h => by
    rw [List.filterMap_cons, List.filterMap_cons, h a List.mem_cons_self, fm_congr (l := r) fun b hb => h b (List.mem_cons_of_mem _ hb)]
theorem pick_rev (xs : Array Value) : ((List.range xs.size).filterMap fun (m : Nat) => xs[(((xs.size : Int) - 1) + (m : Int) * (-1)).toNat]?).toArray = xs.toList.reverse.toArray := by
  congr 1
  rw [← PySem.W.krv_all xs, ← List.filterMap_reverse, ← PySem.W.krv_range, List.filterMap_map]
  refine fm_congr fun m hm => ?_
  have := List.mem_range.mp hm
  have e : (((xs.size : Int) - 1) + (m : Int) * (-1)).toNat = xs.size - 1 - m := by omega
  show _ = xs[xs.size - 1 - m]?
  rw [e]
theorem getItem_tuple_rev {t sl : Addr} {items : Array Value} {vs : Value} {Q : Value → Shared → Prop} (ht : IsTup s.heap t items) (hs : s.heap.IsSliceOf sl .none .none vs) (ps : IsPart vs (some (-1)))
    (h : Q (.ref s.heap.objs.size) { s with heap := s.heap.push { cls := .type "tuple", data := .seq items.toList.reverse.toArray } })
    (hsz : items.size ≤ sizeLine) : wpAny (model prog w) A (getItem (.ref t) (.ref sl)) Q E s := by
  have htake : sizeOk (.seq items.toList.reverse.toArray) := by
    show items.toList.reverse.toArray.size ≤ sizeLine
    simpa using hsz
  obtain ⟨os, hos, hcs, hds⟩ := id hs
  have hTs : s.TypeIs (.ref sl) "slice" := ⟨os, hos, hcs⟩
  unfold getItem
  try with_reducible refine wpAny_holding ?_
  first | refine wpAny_bind (wpAny_pure ?_) | skip
  refine wpAny_bind (wpAny_sequenceKey ht.typeIs (by decide) ?_)
  refine wpAny_bind (wpAny_callSpecial?_slot (name := Str.ofString "__getitem__") ht.typeIs PyProof.Rows.slot_tuple_getitem
    (wpAny_call_entry PyProof.Rows.slot_tuple_getitem ht.typeIs entry_tuple_getitem ?_ (args_tuple_getitem _ _)))
  show wpAny _ _ (Builtin.Tuple.tupleItemsOf (.ref t) >>= _) _ _ s
  refine wpAny_bind (tupleItemsOf_ ht ?_)
  refine wpAny_bind (wpAny_typeOf hTs ?_)
  rw [if_pos (by decide)]
  refine wpAny_bind (sliceApplied_rev hs ps ?_)
  have hno : ¬ (((items.size : Int) - 1 == 0 && (-1 : Int) == 1 && items.size == items.size) = true) := by
    intro q
    rw [Bool.and_eq_true, Bool.and_eq_true] at q
    exact absurd q.1.2 (by decide)
  show wpAny _ _ (if ((items.size : Int) - 1 == 0 && (-1 : Int) == 1 && items.size == items.size) = true then _ else _) _ _ s
  rw [if_neg hno, pick_rev]
  first
    | exact wpAny_bind (m := Builtin.Tuple.tupleExact _) (wpAny_newObj_type (wpAny_pure ⟨_, rfl, wpAny_pure h⟩) htake)
    | exact wpAny_bind (m := Builtin.Tuple.tupleExact _) (wpAny_newObj_type (wpAny_bind (wpAny_pure (wpAny_pure ⟨_, rfl, wpAny_pure h⟩))) htake)
    | exact wpAny_bind (wpAny_bind (m := Builtin.Tuple.tupleExact _) (wpAny_newObj_type (wpAny_pure (wpAny_pure ⟨_, rfl, wpAny_pure h⟩)) htake))
    | exact wpAny_bind (wpAny_bind (m := Builtin.Tuple.tupleExact _) (wpAny_newObj_type (wpAny_pure ⟨_, rfl, wpAny_pure h⟩) htake))
end
section
variable {X : Cx}
/-- x[::-1] -/
def tRevT (K : PySem.W.Frag) (te : TE) : TE := fun σ H Q => te σ H fun x H1 => ∃ a xs, x = .ref a ∧ SqT K H1 a xs ∧ ∀ p, H1 p = none → Q (.ref p) (upd H1 p (.tup xs.reverse))
theorem pe_revT {e : Expr} {te : TE} {k : Nat} {p1 p2 p3 pos : Pos} (he : PE X e te) : PE X (.Subscript e (.Slice none none (some (.UnaryOp .USub (.Constant (.int 1) k p1) p2)) p3) pos) (tRevT X.K te) := by
  refine ⟨fun pins s σ H Q I h => ?_⟩
  refine Subscript_ (thn (he.run pins s σ H _ I h) fun v s1 ⟨x, H1, I1, r1, q1⟩ => ?_)
  obtain ⟨a, xs, ex, hx, q⟩ := q1
  subst ex
  cases r1
  have hst : PO X (some (.UnaryOp .USub (.Constant (.int 1) k p1) p2)) (tPart (tUn (rU fun i => .int (-i)) (tC (.int 1)))) := po_some (pe_un un_neg pe_int)
  refine wpAny_Slice (thn (po_none.run pins s1 σ H1 (fun o H2 => o = none ∧ H2 = H1) I1 ⟨rfl, rfl⟩) fun vl s2 ⟨l, H2, I2, pl, el, e2⟩ => ?_)
  subst el e2
  refine thn (po_none.run pins s2 σ H2 (fun o H3 => o = none ∧ H3 = H2) I2 ⟨rfl, rfl⟩) fun vu s3 ⟨u, H3, I3, pu, eu, e3⟩ => ?_
  subst eu e3
  refine thn (hst.run pins s3 σ H3 (fun o H4 => o = some (-1) ∧ H4 = H3) I3 ⟨1, rfl, -1, rfl, rfl, rfl⟩) fun vs s4 ⟨o, H4, I4, ps, eo, e4⟩ => ?_
  subst eo e4
  cases pl
  cases pu
  have I5 : Inv X pins σ H4 { s4 with heap := s4.heap.push { cls := .type "slice", data := .fields #[.none, .none, vs] } } := I4.kept (t' := s4.toks) fun b ob q => Heap.get?_push_of_some _ q
  obtain ⟨its, r, ht, hz⟩ := I5.tuple hx
  have hlen := r.length
  show wpAny (model X.prog X.w) X.A (subscriptTail e (.Slice none none (some (.UnaryOp .USub (.Constant (.int 1) k p1) p2)) p3) (.ref a) (.ref s4.heap.objs.size)) (EP X pins σ Q) X.xe { s4 with heap := s4.heap.push { cls := .type "slice", data := .fields #[.none, .none, vs] } }
  refine tail_any (ops := [.ref a, .ref s4.heap.objs.size]) ht.typeIs (PyProof.Rows.slot_tuple_getitem.lookup) ?_ (by with_unfolding_all rfl)
  refine getItem_tuple_rev ht (Heap.IsSliceOf.new _ .none .none vs) ps ?_ (by rw [List.size_toArray]; omega)
  refine ⟨.ref _, _, I5.laid (t' := s4.toks) (o := .tup xs.reverse) (fun b ob q => Heap.get?_push_of_some _ q) (Nat.le_refl _) ?_, rfl, q _ (I5.hok.fresh (Nat.le_refl _))⟩
  refine ⟨by rw [List.length_reverse]; exact hz, its.reverse, r.reverse, ?_⟩
  exact IsTup.new _ _
end
end Sa
set_option maxHeartbeats 1000000
/-! sorted(..). -/
namespace Sa
open PySem PySem.Spec PyProof.Rows L2
open PySem.W (alike alikeAll dataLt AllAlike Sortable EachIs dataLe)
variable {K : PySem.W.Frag} {N : Nm} {P : Prog} {ρ ρ' : List Addr} {H H' : Hp} {S S' : Sto} {d e : D} {Q : VK} {X : Cx}
mutual
theorem mate_alike : ∀ {d e : D} {p q : PyData}, mate d e = true → toP d = some p → toP e = some q → alike p q = true
  | .int _, e, p, q, h, hp, hq => by
    cases e <;> simp [mate] at h
    simp [toP] at hp hq
    subst hp hq; simp [alike]
  | .str _, e, p, q, h, hp, hq => by
    cases e <;> simp [mate] at h
    simp [toP] at hp hq
    subst hp hq; simp [alike]
  | .tup xs, e, p, q, h, hp, hq => by
    cases e <;> simp [mate] at h
    rename_i ys
    obtain ⟨ps, h1, rfl⟩ := toP_tup hp
    obtain ⟨qs, h2, rfl⟩ := toP_tup hq
    simp [alike]
    exact mates_alike h h1 h2
  | .non, e, p, q, h, _, _ => by simp [mate] at h
  | .bl _, e, p, q, h, _, _ => by simp [mate] at h
  | .lst _, e, p, q, h, _, _ => by simp [mate] at h
  | .dct _ _, e, p, q, h, _, _ => by simp [mate] at h
  | .ro _, e, p, q, h, _, _ => by simp [mate] at h
  | .loc _, e, p, q, h, _, _ => by simp [mate] at h
  | .fn _, e, p, q, h, _, _ => by simp [mate] at h
  | .cls _, e, p, q, h, _, _ => by simp [mate] at h
  | .exc _ _, e, p, q, h, _, _ => by simp [mate] at h
theorem mates_alike : ∀ {xs ys : List D} {ps qs : List PyData}, mates xs ys = true → toPs xs = some ps → toPs ys = some qs → alikeAll ps qs = true
  | [], ys, ps, qs, h, hp, hq => by
    simp [toPs] at hp; subst hp; simp [alikeAll]
  | x :: r, ys, ps, qs, h, hp, hq => by
    cases ys with
    | nil => simp [mates] at h
    | cons y s =>
      simp [mates] at h
      obtain ⟨a, b, h1, h2, rfl⟩ := toPs_cons hp
      obtain ⟨a', b', h3, h4, rfl⟩ := toPs_cons hq
      simp only [alikeAll, Bool.and_eq_true]
      exact ⟨mate_alike h.1 h1 h3, mates_alike h.2 h2 h4⟩
end
theorem pls_cons {x : D} {r : List D} (h : pls (x :: r) = true) : x.pl = true ∧ pls r = true := by simpa [pls] using h
mutual
theorem lt_P : ∀ {d e : D} {p q : PyData}, mate d e = true → d.pl = true → e.pl = true → toP d = some p → toP e = some q → dataLt p q = D.lt d e
  | .int _, e, p, q, h, _, _, hp, hq => by
    cases e <;> simp [mate] at h
    simp [toP] at hp hq
    subst hp hq
    rw [PySem.W.dataLt_int]; simp [D.lt]
  | .str _, e, p, q, h, _, _, hp, hq => by
    cases e <;> simp [mate] at h
    simp [toP] at hp hq
    subst hp hq
    rw [PySem.W.dataLt_str]; simp [D.lt]
  | .tup xs, e, p, q, h, hd, he, hp, hq => by
    cases e <;> simp [mate] at h
    rename_i ys
    obtain ⟨ps, h1, rfl⟩ := toP_tup hp
    obtain ⟨qs, h2, rfl⟩ := toP_tup hq
    rw [PySem.W.dataLt_tuple]
    simp only [D.lt]
    exact lts_P h (by simpa [D.pl] using hd) (by simpa [D.pl] using he) h1 h2
  | .non, e, p, q, h, _, _, _, _ => by simp [mate] at h
  | .bl _, e, p, q, h, _, _, _, _ => by simp [mate] at h
  | .lst _, e, p, q, h, _, _, _, _ => by simp [mate] at h
  | .dct _ _, e, p, q, h, _, _, _, _ => by simp [mate] at h
  | .ro _, e, p, q, h, _, _, _, _ => by simp [mate] at h
  | .loc _, e, p, q, h, _, _, _, _ => by simp [mate] at h
  | .fn _, e, p, q, h, _, _, _, _ => by simp [mate] at h
  | .cls _, e, p, q, h, _, _, _, _ => by simp [mate] at h
  | .exc _ _, e, p, q, h, _, _, _, _ => by simp [mate] at h
theorem lts_P : ∀ {xs ys : List D} {ps qs : List PyData}, mates xs ys = true → pls xs = true → pls ys = true → toPs xs = some ps → toPs ys = some qs →
    PyProof.Rows.lexLt PyProof.Rows.itemOrd (PySem.W.keyToksAll ps) (PySem.W.keyToksAll qs) = lts xs ys
  | [], ys, ps, qs, h, _, _, hp, hq => by
    cases ys with
    | cons _ _ => simp [mates] at h
    | nil =>
      simp [toPs] at hp hq
      subst hp hq
      simp [lts]
      exact PyProof.Rows.lex_irrefl _
  | x :: r, ys, ps, qs, h, hx, hy, hp, hq => by
    cases ys with
    | nil => simp [mates] at h
    | cons y s =>
      simp [mates] at h
      obtain ⟨a, b, h1, h2, rfl⟩ := toPs_cons hp
      obtain ⟨a', b', h3, h4, rfl⟩ := toPs_cons hq
      obtain ⟨k1, k2⟩ := pls_cons hx
      obtain ⟨k3, k4⟩ := pls_cons hy
      rw [PySem.W.dataLt_cons (mate_alike h.1 h1 h3), eqv_P x y k1 k3 h1 h3, lt_P h.1 k1 k3 h1 h3, lts_P h.2 k2 k4 h2 h4]
      simp only [lts]
end
theorem allMate_of : ∀ {xs : List D}, allMate xs = true → ∀ a ∈ xs, ∀ b ∈ xs, mate a b = true ∨ mate b a = true
  | [], _, a, ha, _, _ => by cases ha
  | x :: r, h, a, ha, b, hb => by
    simp [allMate] at h
    rcases List.mem_cons.mp ha with e1 | h1
    · rcases List.mem_cons.mp hb with e2 | h2
      · rw [e1, e2]; exact .inl h.1.1
      · rw [e1]; exact .inl (h.1.2 b h2)
    · rcases List.mem_cons.mp hb with e2 | h2
      · rw [e2]; exact .inr (h.1.2 a h1)
      · exact allMate_of h.2 a h1 b h2
mutual
theorem mate_comm : ∀ {d e : D}, mate d e = true → mate e d = true
  | .int _, e, h => by cases e <;> simp_all [mate]
  | .str _, e, h => by cases e <;> simp_all [mate]
  | .tup xs, e, h => by
    cases e <;> simp [mate] at h ⊢
    exact mates_comm h
  | .non, e, h => by simp [mate] at h
  | .bl _, e, h => by simp [mate] at h
  | .lst _, e, h => by simp [mate] at h
  | .dct _ _, e, h => by simp [mate] at h
  | .ro _, e, h => by simp [mate] at h
  | .loc _, e, h => by simp [mate] at h
  | .fn _, e, h => by simp [mate] at h
  | .cls _, e, h => by simp [mate] at h
  | .exc _ _, e, h => by simp [mate] at h
theorem mates_comm : ∀ {xs ys : List D}, mates xs ys = true → mates ys xs = true
  | [], ys, h => by cases ys <;> simp_all [mates]
  | x :: r, ys, h => by
    cases ys with
    | nil => simp [mates] at h
    | cons y s =>
      simp [mates] at h ⊢
      exact ⟨mate_comm h.1, mates_comm h.2⟩
end
theorem allMate_at {xs : List D} (h : allMate xs = true) : ∀ a ∈ xs, ∀ b ∈ xs, mate a b = true := fun a ha b hb => by
  rcases allMate_of h a ha b hb with h | h
  · exact h
  · exact mate_comm h
/-- what an item of the sort is: its value told, its value by HandS -/
abbrev enc2 (b : D × V) : PyData := (toP b.1).getD .none
theorem reps_mem : ∀ {bs : List (D × V)}, (∀ b ∈ bs, Rep K N ρ H b.1 b.2) → Reps K N ρ H (bs.map Prod.fst) (bs.map Prod.snd)
  | [], _ => rfl
  | b :: r, h => ⟨b.2, _, rfl, h b List.mem_cons_self, reps_mem fun c hc => h c (List.mem_cons_of_mem _ hc)⟩
theorem reps_zip : ∀ {xs : List D} {vs : List V}, Reps K N ρ H xs vs → (xs.zip vs).map Prod.fst = xs ∧ (xs.zip vs).map Prod.snd = vs ∧ ∀ b ∈ xs.zip vs, Rep K N ρ H b.1 b.2
  | [], vs, h => by rw [show vs = [] from h]; simp
  | x :: r, vs, h => by
    obtain ⟨v, w, rfl, a, b⟩ := h
    obtain ⟨h1, h2, h3⟩ := reps_zip b
    refine ⟨by simp [h1], by simp [h2], fun c hc => ?_⟩
    rcases List.mem_cons.mp hc with rfl | hc
    · exact a
    · exact h3 c hc
theorem vals_zip : ∀ {xs : List D} {vs : List V} {us : List Value}, xs.length = vs.length → Vals vs us → EachIs (fun u (b : D × V) => RelV b.2 u) us (xs.zip vs)
  | [], [], _, _, .nil => .nil
  | x :: r, v :: vs, _, h, .cons a t => .cons a (vals_zip (by simpa using h) t)
theorem each_vals {us : List Value} {bs : List (D × V)} (h : EachIs (fun u (b : D × V) => RelV b.2 u) us bs) : Vals (bs.map Prod.snd) us := by
  induction h with
  | nil => exact .nil
  | cons a t ih => exact .cons a ih
/-- the order asked is the order told -/
theorem sort_eq {xs : List D} {bs : List (D × V)} (hx : bs.map Prod.fst = xs) (hm : allMate xs = true) (hs : xs.all D.sh = true) (hp : ∀ x ∈ xs, ∃ p, toP x = some p) : (bs.mergeSort (dataLe false enc2)).map Prod.fst = isort xs := by
  unfold isort
  rw [← hx]
  refine List.map_mergeSort fun a ha b hb => ?_
  have ha' : a.1 ∈ xs := by rw [← hx]; exact List.mem_map_of_mem ha
  have hb' : b.1 ∈ xs := by rw [← hx]; exact List.mem_map_of_mem hb
  obtain ⟨p, h1⟩ := hp _ ha'
  obtain ⟨q, h2⟩ := hp _ hb'
  have sa := (List.all_eq_true.mp hs) _ ha'
  have sb := (List.all_eq_true.mp hs) _ hb'
  simp only [D.sh, Bool.and_eq_true] at sa sb
  show (!dataLt (enc2 b) (enc2 a)) = _
  rw [show enc2 b = q from by simp [enc2, h2], show enc2 a = p from by simp [enc2, h1], lt_P (allMate_at hm _ hb' _ ha') sb.1 sa.1 h2 h1]
theorem sort_side {xs : List D} (hx : ∀ x ∈ xs, ∃ p, toP x = some p) {bs : List (D × V)} (hb : bs.map Prod.fst = xs) (hm : allMate xs = true) (hs : sortable xs = true) : AllAlike (bs.map enc2) ∧ Sortable (bs.map enc2) := by
  constructor
  · intro p hp q hq
    obtain ⟨a, ha, rfl⟩ := List.mem_map.mp hp
    obtain ⟨b, hb', rfl⟩ := List.mem_map.mp hq
    have h1 : a.1 ∈ xs := by rw [← hb]; exact List.mem_map_of_mem ha
    have h2 : b.1 ∈ xs := by rw [← hb]; exact List.mem_map_of_mem hb'
    obtain ⟨p, e1⟩ := hx _ h1
    obtain ⟨q, e2⟩ := hx _ h2
    rw [show enc2 a = p from by simp [enc2, e1], show enc2 b = q from by simp [enc2, e2]]
    exact mate_alike (allMate_at hm _ h1 _ h2) e1 e2
  · unfold sortable at hs
    rw [Bool.or_eq_true] at hs
    rcases hs with hs | hs
    · refine .inl fun p hp => ?_
      obtain ⟨a, ha, rfl⟩ := List.mem_map.mp hp
      have h1 : a.1 ∈ xs := by rw [← hb]; exact List.mem_map_of_mem ha
      have h2 := (List.all_eq_true.mp hs) _ h1
      obtain ⟨p, e1⟩ := hx _ h1
      split at h2
      · rename_i x r e
        rw [e] at e1
        obtain ⟨ps, e2, rfl⟩ := toP_tup e1
        obtain ⟨a', b', _, _, rfl⟩ := toPs_cons e2
        exact ⟨a', b', by simp [enc2, e, e1]⟩
      · cases h2
    · refine .inr fun p hp => ?_
      obtain ⟨a, ha, rfl⟩ := List.mem_map.mp hp
      have h1 : a.1 ∈ xs := by rw [← hb]; exact List.mem_map_of_mem ha
      have h2 := (List.all_eq_true.mp hs) _ h1
      have h3 := allMate_at hm _ h1 _ h1
      obtain ⟨p, e1⟩ := hx _ h1
      rw [show enc2 a = p from by simp [enc2, e1]]
      cases hd : a.1 <;> rw [hd] at h2 h3 e1 <;> simp [mate] at h3 <;> simp [toP] at e1 <;> (try subst e1) <;> simp_all
theorem sort_ord {rρ : List Addr} {xs : List D} {vs : List V} (r : Reps K N ρ H xs vs) (hm : allMate xs = true) (hs : xs.all D.sh = true) : ∀ x ∈ xs, ∃ p, toP x = some p := fun x hx => by
  obtain ⟨i, hi⟩ := List.getElem?_of_mem hx
  obtain ⟨v, _, rv⟩ := r.get hi
  obtain ⟨p, h1, _⟩ := sh_shaped ((List.all_eq_true.mp hs) _ hx) rv
  exact ⟨p, h1⟩
/-- the items read -/
theorem sort_reads {pins : List (Addr × Obj)} {σ : L2.St} {s : Shared} {xs : List D} {vs : List V} {us : List Value} (I : L2.Inv X pins σ H s) (r : Reps X.K N ρ H xs vs) (rv : Vals vs us) (hs : xs.all D.sh = true) : EachIs (fun u (b : D × V) => ∃ as, Reads s.heap u (enc2 b) as) us (xs.zip vs) := by
  induction xs generalizing vs us with
  | nil =>
    rw [show vs = [] from r] at rv
    cases rv
    exact .nil
  | cons x xs ih =>
    obtain ⟨v, w, rfl, a, b⟩ := r
    cases rv with
    | cons r1 r2 =>
      simp only [List.all_cons, Bool.and_eq_true] at hs
      obtain ⟨p, h1, h2, _⟩ := sh_shaped hs.1 a
      refine .cons ?_ (ih b r2 hs.2)
      rw [show enc2 (x, v) = p from by simp [enc2, h1]]
      exact Dp.reads I p v _ h2 r1
theorem sort_depth {xs : List D} {vs : List V} (r : Reps K N ρ H xs vs) (hs : xs.all D.sh = true) : ∀ b ∈ xs.zip vs, (enc2 b).depth ≤ 60 := fun b hb => by
  have hx : b.1 ∈ xs := (List.of_mem_zip hb).1
  obtain ⟨i, hi⟩ := List.getElem?_of_mem hx
  obtain ⟨v, _, rv⟩ := r.get hi
  obtain ⟨p, h1, _, _, _, h5⟩ := sh_shaped ((List.all_eq_true.mp hs) _ hx) rv
  rw [show enc2 b = p from by simp [enc2, h1]]
  exact h5
section
variable {prog : Program} {w : World} {A : Around} {E : Value → Shared → Prop} {s : Shared} {T : String} {r dd : Addr} {n : Nat} {Pr : Nat → Value → Prop} {OK : Heap → Prop}
/-- sorted of what a source gives: its items in a new list, that list sorted -/
theorem call_sorted_src {Q : Value → Shared → Prop} (Ks : PySem.W.KdlSrc prog w T r dd n Pr OK) (hh : A.handled = none) (hok : OK s.heap) (hn : n ≤ sizeLine)
    (h : ∀ (h' : Heap) (tk : Nat) (vs : List Value), (∀ b o, s.heap.get? b = some o → h'.get? b = some o) → vs.length = n → (∀ (j : Nat) (v : Value), vs[j]? = some v → Pr j v) →
      wpAny (model prog w) A.in1 (call (.builtin "list.sort") [.ref h'.objs.size]) (fun _ s' => Q (.ref h'.objs.size) s') E { s with heap := h'.push { cls := .type "list", data := .seq vs.toArray }, toks := tk }) :
    wpAny (model prog w) A (call (.builtin "sorted") [.ref r]) Q E s := by
  refine PySem.Calls.call_function_entry kind_sorted plain_sorted entry_sorted (args_sorted1 _) ?_
  unfold Builtin.«sorted»
  refine wpAny_bind (m := checkCount "sorted" 1 1 _) (wpAny_pure ?_)
  refine wpAny_bind (PySem.W.kdu_collect (A := A.in1) Ks hh hok hn fun h' tk acc hk hacc => ?_)
  have hl : acc.toList.length = n := by rw [Array.length_toList]; exact hacc.1
  refine wpAny_bind (wpAny_newList ?_ (by rw [hl]; exact hn))
  have hg := h h' tk acc.toList hk hl (fun j v e => hacc.2 j v (by rw [← Array.getElem?_toList]; exact e))
  refine wpAny_bind (wpAny_holding (wpAny_mono hg (fun _ s' x => ?_) fun _ _ e => e))
  exact wpAny_pure ⟨_, rfl, x⟩
end
theorem keys_read {h : Heap} {a : Addr} : ∀ {xs : List D} {kws : List (Key × V)} {us : List Value}, xs = kws.map (fun q => keyD q.1) → Vals (kws.map fun kv => kV kv.1) us → EachIs (fun u (b : D × V) => ∃ as, Reads h u (enc2 b) as ∧ a ∉ as) us (xs.zip (kws.map fun kv => kV kv.1))
  | [], [], _, _, r => by
    cases r
    exact .nil
  | x :: xs, (k, v) :: kws, us, e, r => by
    simp at e
    obtain ⟨rfl, e⟩ := e
    cases r with
    | cons a b =>
      refine .cons ?_ (keys_read e b)
      cases k with
      | inl i =>
        obtain ⟨t, rfl⟩ := a
        exact ⟨_, Reads.int i t, by simp⟩
      | inr z =>
        obtain ⟨t, rfl⟩ := a
        exact ⟨_, Reads.str z t, by simp⟩
theorem snd_sorted {al : Bool} (hc : X.calm = true) (hu : X.A.units + 64 < cLine) : CallR X (.builtin "sorted") (c1 X.K N P (.sorted al)) := by
  intro pins s σ H xs us Q I r h
  obtain ⟨x, pv, ρ, S, d, d', S', rfl, r1, sm, ho, g⟩ := c1_at h
  obtain ⟨u, rfl, ru⟩ := vals1 r
  have ho : sortS al S d = .ok d' S' := ho
  unfold sortS at ho
  split at ho
  · rename_i ys hw
    split at ho
    · rename_i hcond
      simp only [Bool.and_eq_true] at hcond
      obtain ⟨⟨hm, hs⟩, hso⟩ := hcond
      obtain ⟨p, vs, rfl, t, q⟩ := listed_at sm r1 hw
      cases ru
      obtain ⟨its, rv, hl, hz⟩ := I.list t
      have hlen := q.length
      obtain ⟨z1, z2, z3⟩ := reps_zip q
      have hp := sort_ord (rρ := []) q hm hs
      obtain ⟨hal, hso'⟩ := sort_side hp z1 hm hso
      have hbl : (ys.zip vs).length = vs.length := by rw [List.length_zip]; omega
      refine PySem.W.sorted_data hl.isList (vals_zip hlen.symm rv) (sort_reads I q rv hs) hal hso' (by rw [hbl]; exact hz) (fun b hb => ?_) fun out h1 h2 => ?_
      · have := sort_depth q hs b hb
        omega
      · obtain ⟨ep, he'⟩ := PyProof.Rows.sortedAll_at s.heap its out.toArray
        have e1 := sort_eq z1 hm hs hp
        have hperm := List.mergeSort_perm (ys.zip vs) (dataLe false enc2)
        have rr : Reps X.K (N.at pv) ρ H (isort ys) (((ys.zip vs).mergeSort (dataLe false enc2)).map Prod.snd) := by
          rw [← e1]
          exact reps_mem fun b hb => z3 b (hperm.mem_iff.mp hb)
        have hz2 : (((ys.zip vs).mergeSort (dataLe false enc2)).map Prod.snd).length ≤ sizeLine := by
          rw [List.length_map, hperm.length_eq, hbl]; exact hz
        refine ⟨.ref _, upd H (s.heap.objs.size + 1) (.lst (((ys.zip vs).mergeSort (dataLe false enc2)).map Prod.snd)), I.laid (t' := s.toks) (fun _ _ => PyProof.Rows.sortedAll_old) (Nat.le_succ _) ⟨hz2, out, ep, each_vals h2, he'⟩, rfl, ?_⟩
        exact Go.newL ho g sm (I.hok.fresh (Nat.le_succ _)) rr
    · cases ho
  · split at ho
    rotate_left
    · cases ho
    rename_i ys hw
    split at ho
    rotate_left
    · cases ho
    rename_i hcond
    simp only [Bool.and_eq_true] at hcond
    obtain ⟨⟨hm, hs⟩, hso⟩ := hcond
    unfold keysOf at hw
    obtain ⟨kvs, hk, rfl⟩ := Option.map_eq_some_iff.mp hw
    obtain ⟨p, kws, rfl, hrd, hkv⟩ := pairs_at sm r1 hk
    cases ru
    obtain ⟨z, lo, vs, rk, hdat⟩ := dk_rd I.hok hrd
    obtain ⟨ep, hat⟩ := hdat.dictAt
    have hl : kws.length = vs.length := Paired.length rk
    have hlk := RepKv.length hkv
    refine call_sorted_src (PySem.W.kdl_dict (knd := mixKind X.prog X.w) (kvs := vs) (ep := ep) lo) (I.ok.hd hc) hat (by rw [← hl]; exact z) fun h' tk its hkeep hlen hits => ?_
    have rv : Vals (kws.map fun kv => kV kv.1) its := by
      refine vals_of_at (by rw [List.length_map, hlen, hl]) fun j x w h1 h2 => ?_
      obtain ⟨k, y, hky, hi⟩ := hits j w h2
      have e1 : (kws.map (·.1))[j]? = some k := by
        rw [KV.keys rk, List.getElem?_map, hky] <;> rfl
      have e2 : (kws.map fun kv => kV kv.1)[j]? = some (kV k) := by
        have e3 : (kws.map fun kv => kV kv.1) = (kws.map (·.1)).map kV := by rw [List.map_map] <;> rfl
        rw [e3, List.getElem?_map, e1] <;> rfl
      rw [e2] at h1
      cases h1
      exact keyIs_rel hi
    have q : Reps X.K (N.at pv) ρ H (kvs.map (·.1)) (kws.map fun kv => kV kv.1) := by
      rw [hkv.1]
      exact reps_map (fun kv : Key × V => by cases kv.1 <;> rfl) kws
    have hlen2 := q.length
    obtain ⟨z1, z2, z3⟩ := reps_zip q
    have hp := sort_ord (rρ := []) q hm hs
    obtain ⟨hal, hso'⟩ := sort_side hp z1 hm hso
    have hbl : ((kvs.map (·.1)).zip (kws.map fun kv => kV kv.1)).length = kws.length := by rw [List.length_zip, List.length_map, List.length_map]; omega
    have I1 : L2.Inv X pins σ H { s with heap := h', toks := tk } := I.kept (t' := tk) hkeep
    refine PySem.W.list_sort_data (n := 0) (Heap.get?_push_size _ rfl) (vals_zip hlen2.symm rv) (keys_read hkv.1 rv) hal hso' (by rw [hbl]; exact z) (fun b hb => ?_) fun out h1 h2 => ?_
    · have := sort_depth q hs b hb
      show X.A.units + 1 + 1 + _ < _
      omega
    · obtain ⟨ep2, he'⟩ := PyProof.Rows.sortedHeap_at (h := h'.push { cls := .type "list", data := .seq its.toArray }) (vs := its) (out := out.toArray) (n := 0) (Heap.get?_push_size _ rfl)
      have e1 := sort_eq z1 hm hs hp
      have hperm := List.mergeSort_perm ((kvs.map (·.1)).zip (kws.map fun kv => kV kv.1)) (dataLe false enc2)
      have rr : Reps X.K (N.at pv) ρ H (isort (kvs.map (·.1))) ((((kvs.map (·.1)).zip (kws.map fun kv => kV kv.1)).mergeSort (dataLe false enc2)).map Prod.snd) := by
        rw [← e1]
        exact reps_mem fun b hb => z3 b (hperm.mem_iff.mp hb)
      have hz2 : ((((kvs.map (·.1)).zip (kws.map fun kv => kV kv.1)).mergeSort (dataLe false enc2)).map Prod.snd).length ≤ sizeLine := by
        rw [List.length_map, hperm.length_eq, hbl]; exact z
      refine ⟨.ref _, upd H h'.objs.size (.lst ((((kvs.map (·.1)).zip (kws.map fun kv => kV kv.1)).mergeSort (dataLe false enc2)).map Prod.snd)), I1.laid (t' := tk) (fun b o e => ?_) (Nat.le_refl _) ⟨hz2, out, ep2, each_vals h2, he'⟩, rfl, ?_⟩
      · have hb : b < h'.objs.size := Heap.lt_size e
        rw [PyProof.Rows.sortedHeap_old (Nat.ne_of_lt hb) (by rw [Heap.size_push]; exact Nat.lt_succ_of_lt hb)]
        exact Heap.get?_push_of_some _ e
      · exact Go.newL ho g sm (I1.hok.fresh (Nat.le_refl _)) rr
end Sa
set_option maxHeartbeats 1000000
/-! Products, dict(..), methods of lists and dicts. -/
namespace Sa
open PySem L2
variable {K : PySem.W.Frag} {N : Nm} {P : Prog} {ρ ρ' ρ1 ρ2 : List Addr} {H H' H1 H2 : Hp} {S S' S1 S2 : Sto} {d e : D} {Q : VK} {X : Cx}
theorem snd_mul : OpR X (binaryOp .Mult) (rOp2 X.K N P .mul) := by
  intro pins s σ H x y v u Q I rx ry h
  obtain ⟨pv, ρ, S, ds, d', S', r, sm, ho, g⟩ := h
  obtain ⟨d, e, rfl, r1, r2⟩ := reps2 r
  have ho : mulS S d e = .ok d' S' := ho
  unfold mulS at ho
  split at ho
  · obtain ⟨hl, ho⟩ := if_inv ho
    cases ho
    cases r1; cases r2
    refine op_mul pins s σ H _ _ _ _ Q I rx ry ⟨_, _, rfl, rfl, ?_, g.same sm rfl⟩
    simp only [bigI, Bool.or_eq_true, decide_eq_true_eq] at hl
    exact hl
  · cases ho

/-! ### dict(..) -/
theorem pairOf_at {x : D} {k v : D} {w : V} (h : pairOf x = some (k, v)) (r : Rep K N ρ H x w) : ∃ p key u, w = .ref p ∧ SqT K H p [kV key, u] ∧ k = keyD key ∧ Rep K N ρ H v u := by
  unfold pairOf at h
  split at h
  · split at h
    · cases h
      rename_i hk
      obtain ⟨p, vs, e, t, q⟩ := r
      obtain ⟨a, w1, rfl, q1, b, w2, rfl, q2, rfl⟩ := q
      obtain ⟨key, e1, e2⟩ := isKey_at hk q1
      subst e1 e2
      exact ⟨p, key, b, e, t.1, rfl, q2⟩
    · cases h
  · cases h
theorem pairs_list : ∀ {xs : List D} {kvs : List (D × D)} {vs : List V}, xs.mapM pairOf = some kvs → Reps K N ρ H xs vs →
    ∃ (ps : List Addr) (kws : List (Key × V)), vs = ps.map V.ref ∧ Paired (fun p (kv : Key × V) => SqT K H p [kV kv.1, kv.2]) ps kws ∧ RepKv K N ρ H kvs kws
  | [], kvs, vs, h, r => by
    simp at h
    subst h
    rw [show vs = [] from r]
    exact ⟨[], [], rfl, .nil, rfl, rfl⟩
  | x :: xs, kvs, vs, h, r => by
    obtain ⟨v, w, rfl, a, b⟩ := r
    rw [List.mapM_cons] at h
    cases h1 : pairOf x with
    | none => rw [h1] at h; cases h
    | some kv =>
      cases h2 : xs.mapM pairOf with
      | none => rw [h1, h2] at h; cases h
      | some r2 =>
        rw [h1, h2] at h
        cases h
        obtain ⟨k, v'⟩ := kv
        obtain ⟨p, key, u, rfl, t, rfl, q⟩ := pairOf_at h1 a
        obtain ⟨ps, kws, rfl, hp, q1, q2⟩ := pairs_list h2 b
        exact ⟨p :: ps, (key, u) :: kws, rfl, .cons t hp, by simp [q1], u, _, rfl, q, q2⟩
theorem merge_at : ∀ {kvs : List (D × D)} {kws : List (Key × V)} {m : List (D × D)} {mw : List (Key × V)}, RepKv K N ρ H kvs kws → RepKv K N ρ H m mw → RepKv K N ρ H (kvs.foldl (fun m p => put m p.1 p.2) m) (mergeK mw kws)
  | [], kws, m, mw, h, q => by
    have : kws = [] := by simpa using h.1
    subst this
    exact q
  | (k, v) :: kvs, kws, m, mw, h, q => by
    cases kws with
    | nil => simp [RepKv] at h
    | cons kw kws =>
      obtain ⟨key, u⟩ := kw
      obtain ⟨h1, u', w, e, r1, r2⟩ := h
      simp at h1 e
      obtain ⟨rfl, h1⟩ := h1
      obtain ⟨rfl, rfl⟩ := e
      exact merge_at (kvs := kvs) (kws := kws) ⟨by simpa using h1, r2⟩ (put_at key q r1)
theorem Go.newD {al : Bool} {kvs : List (D × D)} {d : D} {S' : Sto} (h : newD al kvs S = .ok d S') (g : Go K N ρ H d S' Q) (s : Sim K N ρ S H) {p : Addr} {kws : List (Key × V)} (hp : H p = none) (r : RepKv K N ρ H kvs kws) : Q (.ref p) (upd H p (.dK kws)) := by
  have hf := s.fresh hp
  unfold Sa.newD at h
  split at h
  · cases al with
    | true =>
      simp only [if_true] at h
      cases h
      have e : Ext N ρ H (ρ ++ [p]) (upd H p (.dK kws)) := Ext.new hp hf.1
      refine g _ _ _ e (s.new hp ⟨kws, by simpa using upd_same, r.1, r.2.mono e⟩) ⟨p, rfl, ?_⟩
      rw [← s.len]; simp
    | false =>
      simp only [Bool.false_eq_true, if_false] at h
      cases h
      have e : Ext N ρ H ρ (upd H p (.dK kws)) := Ext.junk hp hf.1
      exact g ρ _ _ e (s.junk hp) ⟨p, kws, rfl, .inl upd_same, hf, r.1, r.2.mono e⟩
  · cases h
theorem snd_dict {al : Bool} (hc : X.calm = true) : CallR X (.type "dict") (c1 X.K N P (.dict al)) := by
  intro pins s σ H xs us Q I r h
  obtain ⟨x, pv, ρ, S, d, d', S', rfl, r1, sm, ho, g⟩ := c1_at h
  have ho : dictS al S d = .ok d' S' := ho
  unfold dictS at ho
  split at ho
  · rename_i ys hw
    split at ho
    · rename_i kvs hm
      obtain ⟨p, vs, rfl, t, q⟩ := items_at sm r1 hw
      obtain ⟨ps, kws, rfl, hp, hq⟩ := pairs_list hm q
      exact call_dictP hc pins s σ H _ us Q I r ⟨p, ps, kws, rfl, SqL.of t, hp, fun l hl => Go.newD ho g sm hl (merge_at hq ⟨rfl, rfl⟩)⟩
    · cases ho
  · split at ho
    · rename_i kvs hk
      obtain ⟨p, kws, rfl, hrd, hkv⟩ := pairs_at sm r1 hk
      exact call_dictD pins s σ H _ us Q I r ⟨p, kws, rfl, hrd, fun l hl => Go.newD ho g sm hl hkv⟩
    · cases ho

/-! ### methods -/
theorem kho2 {u : HO} (h : kho u = 2) : (∃ kvs, u = .dK kvs) ∨ ∃ o kvs, u = .frz o (.dK kvs) := by
  cases u with
  | dK kvs => exact .inl ⟨kvs, rfl⟩
  | frz o v => cases v <;> simp [kho] at h; exact .inr ⟨_, _, rfl⟩
  | _ => simp [kho] at h
theorem kho1 {u : HO} (h : kho u = 1) : ∃ vs, u = .lst vs := by
  cases u with
  | lst vs => exact ⟨vs, rfl⟩
  | frz o v => cases v <;> simp [kho] at h
  | _ => simp [kho] at h
theorem khoA_some {p : Addr} {n : Nat} (h : khoA H p = n + 1) : ∃ u, H p = some u ∧ kho u = n + 1 := by
  unfold khoA at h
  cases e : H p with
  | none => rw [e] at h; cases h
  | some u => rw [e] at h; exact ⟨u, rfl, h⟩
theorem isD_back {v : V} {kvs : List (D × D)} (r : Rep K N ρ1 H1 d v) (e : Ext N ρ1 H1 ρ2 H2) (s : Sim K N ρ2 S2 H2) (h : pairs S2 d = some kvs) : ∃ a, v = .ref a ∧ IsD H1 a := by
  cases d with
  | dct ks ws =>
    obtain ⟨p, kws, e1, t, _⟩ := r
    exact ⟨p, e1, .inl ⟨kws, t⟩⟩
  | loc a =>
    obtain ⟨p, e1, g⟩ := r
    refine ⟨p, e1, ?_⟩
    have hm : p ∈ ρ1 := List.mem_of_getElem? g
    simp only [pairs] at h
    split at h
    · rename_i kvs' lk hs
      obtain ⟨kws, hH, _⟩ := s.obs a _ p hs (e.get g)
      have k2 : khoA H2 p = 1 + 1 := by
        cases lk with
        | true =>
          obtain ⟨od, hH⟩ := hH
          rw [khoA_eq hH]; rfl
        | false =>
          simp only [Bool.false_eq_true, if_false] at hH
          rw [khoA_eq hH]; rfl
      rw [e.knd p hm] at k2
      obtain ⟨u, hu, ku⟩ := khoA_some k2
      rcases kho2 ku with ⟨kvs, rfl⟩ | ⟨o, kvs, rfl⟩
      · exact .inl ⟨kvs, .inl hu⟩
      · exact .inl ⟨kvs, .inr ⟨o, hu⟩⟩
    · cases h
  | _ => simp [pairs] at h
theorem isL_back {v : V} {f : Nat → List D → R D} {z : D} (r : Rep K N ρ1 H1 d v) (e : Ext N ρ1 H1 ρ2 H2) (s : Sim K N ρ2 S2 H2) (h : withL S2 d f = .ok z S') : tyV K "list" v H1 := by
  unfold withL at h
  split at h
  · rename_i a
    split at h
    · rename_i xs hs
      obtain ⟨p, rfl, g⟩ := r
      have hm : p ∈ ρ1 := List.mem_of_getElem? g
      obtain ⟨vs, hH, _⟩ := s.obs a _ p hs (e.get g)
      have k2 : khoA H2 p = 0 + 1 := by rw [khoA_eq hH]; rfl
      rw [e.knd p hm] at k2
      obtain ⟨u, hu, ku⟩ := khoA_some k2
      obtain ⟨vs', rfl⟩ := kho1 ku
      exact .inl ⟨rfl, vs', SqL.of hu⟩
    · cases h
  · cases h
section
variable {prog : Program} {w : World} {A : Around} {E : Value → Shared → Prop} {s : Shared}
open AutoSeq1 (wpAny_loadPart')
theorem list_extend_tup (l : Addr) (items : Array Value) (n : Nat) (b : Addr) (items2 : Array Value) (n2 : Nat) (dd : Option Addr) (sl : Array (Option Value)) (hs0 : ¬(!items.isEmpty && Builtin.List.listTooLong (items.size + items2.size)) = true) (hs1 : items.size ≤ sizeLine) (hs2 : items.size + items2.size ≤ sizeLine + 1) :
    Meets (Builtin.«list.extend» ⟨[.ref l, .ref b], []⟩) (fun _ R s => s.heap.get? l = some { cls := .type "list", dict := none, data := .seq items n, slots := #[] } ∧ s.heap.get? b = some { cls := .type "tuple", dict := dd, data := .seq items2 n2, slots := sl } ∧ R (.ok (.ret Value.none)) { s with heap := s.heap.update l (Obj.mapSeq fun x => x ++ items2), toks := s.toks }) :=
  .of_wp fun prog w A R s h => by
    obtain ⟨hp, g, d, tk, os⟩ := s; obtain ⟨hl, hb, h⟩ := h; have f1 := AutoSeq1.idx_int; have f2 := AutoSeq1.sub_tuple_tuple; have f3 := AutoSeq1.sub_list_list; have f4 := AutoSeq1.sub_tuple_list; have f5 := AutoSeq1.sub_list_tuple;
    have hz' : (items ++ items2).size ≤ sizeLine + 1 := by rw [Array.size_append]; exact hs2
    wp_walk using (wpAny_updateSeq hl rfl (hz := hs1) (_hz' := hz')), wpAny_loadPart' hl, wpAny_loadPart' hb; exact ⟨_, rfl, h⟩
theorem extend_tup {l b : Addr} {its its2 : Array Value} {n n2 : Nat} {o : Obj} {Q : Value → Shared → Prop} (hl : s.heap.get? l = some { cls := .type "list", data := .seq its n }) (ho : s.heap.get? b = some o) (hc : o.cls = .type "tuple") (hd : o.data = .seq its2 n2)
    (h0 : ¬(!its.isEmpty && Builtin.List.listTooLong (its.size + its2.size)) = true) (h1 : its.size ≤ sizeLine) (h2 : its.size + its2.size ≤ sizeLine + 1)
    (h : Q .none { s with heap := s.heap.update l (Obj.mapSeq fun x => x ++ its2) }) : wpAny (model prog w) A (call (.builtin "list.extend") [.ref l, .ref b]) Q E s := by
  obtain ⟨oc, od, dt, sl⟩ := o
  simp only at hc hd
  subst hc hd
  exact call_meets PySem.F.slot_list_extend ⟨_, hl, rfl⟩ PySem.F.entry_list_extend (PySem.F.args_list_extend_2 _ _) (list_extend_tup l its n b its2 n2 od sl h0 h1 h2) ⟨hl, ho, h⟩
end
def rM (K : PySem.W.Frag) (N : Nm) (P : Prog) (o : Op) : V → List V → Hp → VK → Prop := fun x xs H Q => rOp K N P o (x :: xs) H Q
theorem withL_at {x : V} {f : Nat → List D → R D} {z : D} (s : Sim K N ρ S H) (r : Rep K N ρ H d x) (h : withL S d f = .ok z S') : ∃ a xs p vs, d = .loc a ∧ x = .ref p ∧ ρ[a]? = some p ∧ H p = some (.lst vs) ∧ Reps K N ρ H xs vs ∧ f a xs = .ok z S' := by
  unfold withL at h
  split at h
  · rename_i a
    split at h
    · rename_i xs hs
      obtain ⟨p, rfl, g⟩ := r
      obtain ⟨vs, hH, q⟩ := s.obs a _ p hs g
      exact ⟨a, xs, p, vs, rfl, rfl, g, hH, q, h⟩
    · cases h
  · cases h
/-- a list of the store is written -/
theorem Go.lset {a : Nat} {p : Addr} {vs ws : List V} {ys : List D} {z : D} {y : V} (g : Go K N ρ H z (S.set a (.lst ys)) Q) (s : Sim K N ρ S H) (hp : ρ[a]? = some p) (hH : H p = some (.lst vs)) (q : Reps K N ρ H ys ws) (ry : Rep K N ρ H z y) : Q y (upd H p (.lst ws)) := by
  have hm : p ∈ ρ := List.mem_of_getElem? hp
  have hz : ∀ od u, H p ≠ some (.frz od u) := fun od u z => by rw [hH] at z; cases z
  have hk : kho (.lst ws) = khoA H p := by rw [khoA_eq hH]; rfl
  have e : Ext N ρ H ρ (upd H p (.lst ws)) := Ext.write hm (fun ps z => by cases z) hz hk
  exact g ρ _ _ e (s.write hp hz hk ⟨ws, upd_same, q.mono e⟩) (ry.mono e)
theorem snd_append : MtR X "list.append" (rM X.K N P .append) := by
  intro pins s σ H x xs v us Q I rx rxs h
  obtain ⟨pv, ρ, S, ds, z, S', r, sm, ho, g⟩ := h
  match ds, r with
  | [], r => cases r
  | [d], r => cases r with | intro _ r => obtain ⟨w, e, _, e2⟩ := r; cases e; cases e2; simp [opSem] at ho
  | d :: e :: f :: rest, r => simp [opSem] at ho
  | [d, e], r =>
    obtain ⟨_, _, e1, r1, u, w2, e2, r2, e3⟩ := r
    cases e1
    subst e2 e3
    have ho : withL S d (appS S e) = .ok z S' := ho
    obtain ⟨a, ys, p, vs, rfl, rfl, hp, hH, q, ho⟩ := withL_at sm r1 ho
    unfold appS at ho
    obtain ⟨hl, ho⟩ := if_inv ho
    cases ho
    refine mt_append pins s σ H _ _ v us Q I rx rxs ⟨p, vs, u, rfl, rfl, hH, ?_, g.lset sm hp hH (q.append (Reps.one r2)) rfl⟩
    rw [q.length]
    exact Nat.lt_trans hl big_line
theorem snd_pop : MtR X "list.pop" (fun x xs H Q => xs = [] ∧ rM X.K N P .pop x [] H Q) := by
  intro pins s σ H x xs v us Q I rx rxs h
  obtain ⟨rfl, h⟩ := h
  obtain ⟨pv, ρ, S, ds, z, S', r, sm, ho, g⟩ := h
  obtain ⟨d, rfl, r1⟩ := reps1 r
  have ho : withL S d (popS S) = .ok z S' := ho
  obtain ⟨a, ys, p, vs, rfl, rfl, hp, hH, q, ho⟩ := withL_at sm r1 ho
  unfold popS at ho
  split at ho
  · rename_i y hy
    cases ho
    rw [List.getLast?_eq_getElem?] at hy
    obtain ⟨w, hw, rw'⟩ := q.get hy
    exact mt_pop pins s σ H _ _ v us Q I rx rxs ⟨p, vs, w, rfl, rfl, hH, by rw [q.length]; exact hw, g.lset sm hp hH q.dropLast rw'⟩
  · cases ho
theorem snd_popAt : MtR X "list.pop" (fun x xs H Q => ∃ y, xs = [y] ∧ rM X.K N P .popAt x [y] H Q) := by
  intro pins s σ H x xs v us Q I rx rxs h
  obtain ⟨y, rfl, h⟩ := h
  obtain ⟨pv, ρ, S, ds, z, S', r, sm, ho, g⟩ := h
  obtain ⟨d, e, rfl, r1, r2⟩ := reps2 r
  replace ho : withL S d (popAtS S e) = .ok z S' := ho
  obtain ⟨a, ys, p, vs, rfl, rfl, hp, hH, q, ho3⟩ := withL_at sm r1 ho
  clear ho
  have ho := ho3
  clear ho3
  unfold popAtS at ho
  obtain ⟨i, rfl, ho2⟩ := int1_inv ho
  clear ho
  have ho := ho2
  clear ho2
  split at ho
  · rename_i j hj
    split at ho
    · rename_i w hw
      cases ho
      cases r2
      obtain ⟨u, hu, ru⟩ := q.get hw
      obtain ⟨h1, h2, h3, h4⟩ := ixN_seq (show ixN ys.length i = some j from hj)
      have hz := (I.lstM hH).1
      have hlen := q.length
      have hn := line63
      refine mt_popAt pins s σ H _ _ v us Q I rx rxs ⟨p, vs, i, j, u, rfl, rfl, hH, by omega, by omega, ?_, hu, g.lset sm hp hH (q.eraseIdx j) ru⟩
      rw [hlen]; exact h1
    · cases ho
  · cases ho
theorem snd_extend : MtR X "list.extend" (rM X.K N P .extend) := by
  intro pins s σ H x xs v us Q I rx rxs h
  obtain ⟨pv, ρ, S, ds, z, S', r, sm, ho, g⟩ := h
  match ds, r with
  | [], r => cases r
  | [d], r => cases r with | intro _ r => obtain ⟨w, e, _, e2⟩ := r; cases e; cases e2; simp [opSem] at ho
  | d :: e :: f :: rest, r => simp [opSem] at ho
  | [d, e], r =>
    obtain ⟨_, _, e1, r1, u, w2, e2, r2, e3⟩ := r
    cases e1
    subst e2 e3
    have ho : withL S d (extS S e) = .ok z S' := ho
    obtain ⟨a, ys, p, vs, rfl, rfl, hp, hH, q, ho⟩ := withL_at sm r1 ho
    unfold extS at ho
    cases e with
    | tup zs =>
      obtain ⟨hl, ho⟩ := if_inv ho
      cases ho
      obtain ⟨b, ws, rfl, t, q2⟩ := r2
      cases rx
      obtain ⟨u, rfl, ru⟩ := rxs.one
      cases ru
      obtain ⟨z1, its, n, r3, hl3, e4⟩ := I.lstM hH
      obtain ⟨its2, rv2, hT, hz2⟩ := I.tuple t.1
      obtain ⟨o, ho2, hc2, n2, hd2⟩ := id hT
      have l1 := q.length
      have l2 := q2.length
      have l3 := rv2.length
      have hb := big_line
      have hsz : its.toArray.size + its2.toArray.size ≤ sizeLine := by rw [List.size_toArray, List.size_toArray]; omega
      have hlong : ¬ (!its.toArray.isEmpty && Builtin.List.listTooLong (its.toArray.size + its2.toArray.size)) = true := by
        rw [notLongL hsz, Bool.and_false]
        exact Bool.false_ne_true
      have qv : Reps X.K (N.at pv) ρ H (ys ++ zs) (vs ++ ws) := q.append q2
      have hlen : (vs ++ ws).length ≤ sizeLine := by rw [qv.length, List.length_append]; omega
      refine extend_tup e4 ho2 hc2 hd2 hlong (by rw [List.size_toArray]; omega) (by omega) ?_
      exact ⟨.non, _, I.lset (its' := its ++ its2) hH e4 (by simp) (r3.append rv2) hlen, rfl, g.lset sm hp hH qv rfl⟩
    | _ => cases ho
end Sa
set_option maxHeartbeats 1000000
/-! repr, isinstance, get. -/
namespace Sa
open PySem L2
variable {K : PySem.W.Frag} {N : Nm} {P : Prog} {ρ ρ' ρ1 ρ2 : List Addr} {H H' H1 H2 : Hp} {S S' S1 S2 : Sto} {d e : D} {Q : VK} {X : Cx}

/-! ### what reads as data, dicts with it -/
theorem toP_dct {ks vs : List D} {p : PyData} (h : toP (.dct ks vs) = some p) : ∃ a b, toPs ks = some a ∧ toPs vs = some b ∧ PyData.dict (a.zip b) = p := by
  simp only [toP] at h
  split at h
  · exact ⟨_, _, by assumption, by assumption, by simpa using h⟩
  · cases h
theorem toPs_len : ∀ {xs : List D} {ps : List PyData}, toPs xs = some ps → ps.length = xs.length
  | [], ps, h => by simp [toPs] at h; subst h; rfl
  | x :: r, ps, h => by
    obtain ⟨a, b, _, h2, rfl⟩ := toPs_cons h
    simp [toPs_len h2]
theorem key_reads {Pg : Program} {w : World} {hp : Heap} : ∀ {kvs : List (Key × V)} {vs : List (Key × Value)} {es : List DictEntry} {a : List PyData}, KV kvs vs → Pairs (mixKind Pg w) es vs → toPs (kvs.map fun q => keyD q.1) = some a → ReadsAll hp (es.map (·.key)) a []
  | [], _, _, a, .nil, .nil, h => by
    simp [toPs] at h; subst h; exact .nil
  | (k, x) :: kvs, _, _, a, .cons h1 t, .cons h2 h3 t2, h => by
    obtain ⟨p, q, e1, e2, rfl⟩ := toPs_cons h
    have r := key_reads (hp := hp) t t2 e2
    have hk : k = _ := h1.1
    rw [← hk] at h2
    have hr := keyIs_rel h2
    have e : ([] : List Addr) = [] ++ [] := rfl
    rw [e]
    refine .cons ?_ r
    cases k with
    | inl i =>
      obtain ⟨t, ht⟩ := hr
      simp [keyD, toP] at e1
      subst e1
      have z : Reads hp (Value.int i t) (.int i) [] := .int i t
      rw [← ht] at z; exact z
    | inr z =>
      obtain ⟨t, ht⟩ := hr
      simp [keyD, toP] at e1
      subst e1
      have y : Reads hp (Value.str z t) (.str z) [] := .str z t
      rw [← ht] at y; exact y
theorem vals_pairs {Pg : Program} {w : World} : ∀ {kvs : List (Key × V)} {vs : List (Key × Value)} {es : List DictEntry}, KV kvs vs → Pairs (mixKind Pg w) es vs → Vals (kvs.map (·.2)) (es.map (·.val))
  | [], _, _, .nil, .nil => .nil
  | (k, x) :: kvs, _, _, .cons h1 t, .cons h2 h3 t2 => by
    refine .cons ?_ (vals_pairs t t2)
    have z : RelV x _ := h1.2
    rw [← h3] at z; exact z
section
variable {pins : List (Addr × Obj)} {σ : L2.St} {s : Shared}
mutual
theorem reads_at (I : L2.Inv X pins σ H s) : ∀ {d : D} {v : V} {u : Value} {p : PyData}, Rep X.K N ρ H d v → RelV v u → toP d = some p → ∃ as, Reads s.heap u p as ∧ (noL d = true → sysModules ∉ as)
  | .non, _, _, p, r, ru, h => by
    cases r; cases ru
    simp [toP] at h; subst h
    exact ⟨_, .none, fun _ => by simp⟩
  | .bl b, _, _, p, r, ru, h => by
    cases r; cases ru
    simp [toP] at h; subst h
    exact ⟨_, .bool b, fun _ => by simp⟩
  | .int i, _, _, p, r, ru, h => by
    cases r
    obtain ⟨t, rfl⟩ := ru
    simp [toP] at h; subst h
    exact ⟨_, .int i t, fun _ => by simp⟩
  | .str x, _, _, p, r, ru, h => by
    cases r
    obtain ⟨t, rfl⟩ := ru
    simp [toP] at h; subst h
    exact ⟨_, .str x t, fun _ => by simp⟩
  | .tup xs, _, _, p, r, ru, h => by
    obtain ⟨q, vs, rfl, t, r⟩ := r
    cases ru
    obtain ⟨ps, h1, rfl⟩ := toP_tup h
    obtain ⟨its, rv, ⟨o, ho, hc, n, hd⟩, _⟩ := I.tuple t.1
    obtain ⟨as, hr, hn⟩ := readsAll_at I r rv h1
    exact ⟨_, .tuple ho hc hd hr, fun hl => hn (by simpa [noL] using hl)⟩
  | .lst xs, _, _, p, r, ru, h => by
    obtain ⟨q, vs, rfl, ⟨t, _⟩, r⟩ := r
    cases ru
    obtain ⟨ps, h1, rfl⟩ := toP_lst h
    obtain ⟨its, rv, ⟨o, n, ho, hc, _, hd⟩, _⟩ := I.list (SqL.of t)
    obtain ⟨as, hr, hn⟩ := readsAll_at I r rv h1
    exact ⟨_, .list ho hc hd hr, fun hl => by simp [noL] at hl⟩
  | .dct ks ws, _, _, p, r, ru, h => by
    obtain ⟨q, kvs, rfl, t, n, ek, r⟩ := r
    cases ru
    obtain ⟨a, b, h1, h2, rfl⟩ := toP_dct h
    obtain ⟨z, lo, vs, rk, o, es, ep, ho, hx, hdat, _, hp, _⟩ := dk_rd I.hok t
    rw [ek] at h1
    have hk := key_reads (hp := s.heap) rk hp h1
    obtain ⟨as, hr, hn⟩ := readsAll_at I r (vals_pairs rk hp) h2
    have l1 : a.length = b.length := by
      rw [toPs_len h1, toPs_len h2, ← r.length, List.length_map, List.length_map]
    refine ⟨q :: [] ++ as, .dict ho hx.1 hdat (by rw [List.map_fst_zip (by omega)]; exact hk) (by rw [List.map_snd_zip (by omega)]; exact hr), fun hl => ?_⟩
    simp only [List.cons_append, List.nil_append, List.mem_cons, not_or]
    exact ⟨fun e => by rw [← e] at lo; simp at lo, hn (by simpa [noL] using hl)⟩
  | .ro xs, _, _, p, r, ru, h => by simp [toP] at h
  | .loc a, _, _, p, r, ru, h => by simp [toP] at h
  | .fn a, _, _, p, r, ru, h => by simp [toP] at h
  | .cls a, _, _, p, r, ru, h => by simp [toP] at h
  | .exc a b, _, _, p, r, ru, h => by simp [toP] at h
theorem readsAll_at (I : L2.Inv X pins σ H s) : ∀ {xs : List D} {vs : List V} {us : List Value} {ps : List PyData}, Reps X.K N ρ H xs vs → Vals vs us → toPs xs = some ps → ∃ as, ReadsAll s.heap us ps as ∧ (noLs xs = true → sysModules ∉ as)
  | [], vs, us, ps, r, rv, h => by
    rw [show vs = [] from r] at rv
    cases rv
    simp [toPs] at h; subst h
    exact ⟨_, .nil, fun _ => by simp⟩
  | x :: xs, vs, us, ps, r, rv, h => by
    obtain ⟨v, w, rfl, a, b⟩ := r
    obtain ⟨p, q, e1, e2, rfl⟩ := toPs_cons h
    cases rv with
    | cons r1 r2 =>
      obtain ⟨as, h1, n1⟩ := reads_at I a r1 e1
      obtain ⟨bs, h2, n2⟩ := readsAll_at I b r2 e2
      refine ⟨_, .cons h1 h2, fun hl => ?_⟩
      simp only [noLs, Bool.and_eq_true] at hl
      simp only [List.mem_append, not_or]
      exact ⟨n1 hl.1, n2 hl.2⟩
end
end
/-- a list of the store by value -/
theorem top_rep {v : V} (s : Sim K N ρ S H) (r : Rep K N ρ H d v) : d = top S d ∨ ∃ a xs p vs, d = .loc a ∧ top S d = .lst xs ∧ v = .ref p ∧ H p = some (.lst vs) ∧ Reps K N ρ H xs vs := by
  cases d with
  | loc a =>
    obtain ⟨p, e, g⟩ := r
    cases hs : S[a]? with
    | none => exact .inl (by simp [top, hs])
    | some o =>
      cases o with
      | lst xs =>
        obtain ⟨vs, h1, q⟩ := s.obs a _ p hs g
        exact .inr ⟨a, xs, p, vs, rfl, by simp [top, hs], e, h1, q⟩
      | _ => exact .inl (by simp [top, hs])
  | _ => exact .inl rfl
theorem snd_repr (hg : X.A.guards = some []) (hu : X.A.units + 64 < cLine) : CallR X (.builtin "repr") (c1 X.K N P .repr) := by
  intro pins s σ H xs us Q I r h
  obtain ⟨x, pv, ρ, S, d, d', S', rfl, r1, sm, ho, g⟩ := c1_at h
  obtain ⟨u, rfl, ru⟩ := vals1 r
  obtain ⟨h1, rfl⟩ := R.lift_inv (show R.lift S ((shown (top S d)).map D.str) = .ok d' S' from ho)
  obtain ⟨z, h2, rfl⟩ := Option.map_eq_some_iff.mp h1
  unfold shown at h2
  split at h2
  rotate_left
  · cases h2
  rename_i p hp
  split at h2
  rotate_left
  · cases h2
  rename_i hc
  cases h2
  simp only [Bool.and_eq_true, decide_eq_true_eq, Bool.or_eq_true, Bool.not_eq_true'] at hc
  obtain ⟨⟨⟨c1, c2⟩, c3⟩, c4⟩ := hc
  have hrd : ∃ as, Reads s.heap u p as ∧ (p.hasDict = true → sysModules ∉ as) := by
    rcases top_rep sm r1 with e | ⟨a, xs, q, vs, rfl, e, rfl, hH, rq⟩
    · rw [← e] at hp c2
      obtain ⟨as, h3, h4⟩ := reads_at I r1 ru hp
      refine ⟨as, h3, fun hd => ?_⟩
      rcases c2 with c2 | c2
      · exact h4 c2
      · rw [hd] at c2; cases c2
    · rw [e] at hp c2
      cases ru
      obtain ⟨ps, h7, rfl⟩ := toP_lst hp
      obtain ⟨its, rv, ⟨o, n, ho, hc, _, hd⟩, _⟩ := I.list (SqL.of hH)
      obtain ⟨as, hr, hn⟩ := readsAll_at I rq rv h7
      refine ⟨_, .list ho hc hd hr, fun hd => ?_⟩
      rcases c2 with c2 | c2
      · simp [noL] at c2
      · rw [hd] at c2; cases c2
  obtain ⟨as, hr, hs⟩ := hrd
  have fin : ∀ t h' tk, (∀ b o, s.heap.get? b = some o → h'.get? b = some o) → EP X pins σ Q (.str p.shown t) { s with heap := h', toks := tk } := fun t h' tk hk =>
    ⟨.str p.shown, H, I.kept (t' := tk) hk, ⟨t, rfl⟩, g.same sm rfl⟩
  cases hr with
  | none => exact PySem.P.repr_of_none (fin _ s.heap _ fun _ _ e => e)
  | bool b =>
    refine PySem.P.repr_of_bool ?_
    have z := fin s.toks s.heap (s.toks + 1) fun _ _ e => e
    cases b <;> exact z
  | int i t => exact PySem.P.repr_of_int (by simpa [PyData.showable] using c1) (fin _ s.heap _ fun _ _ e => e)
  | str z t => exact PySem.P.repr_of_str (fin _ s.heap _ fun _ _ e => e) c3
  | list a b c d => exact repr_of_reads' (.list a b c d) c1 hs hg (by omega) (fun _ _ e => e) (fun h' u tk hk => fin u h' tk hk) c3
  | tuple a b c d => exact repr_of_reads' (.tuple a b c d) c1 hs hg (by omega) (fun _ _ e => e) (fun h' u tk hk => fin u h' tk hk) c3
  | dict a b c d e => exact repr_of_reads' (.dict a b c d e) c1 hs hg (by omega) (fun _ _ e => e) (fun h' u tk hk => fin u h' tk hk) c3

/-! ### isinstance -/
def tyNames : List String := ["NoneType", "bool", "int", "str", "tuple", "list", "dict"]
/-- what the classes of the text say -/
structure KitF (K : PySem.W.Frag) (N : Nm) (P : Prog) : Prop where
  ex : ∀ (c : Nat) (cl : Cl), P.cls[c]? = some cl → cl.exc = true → (PySem.W.clsIn K (N.cA c)).isSome = true ∧ PySem.W.findIn K (.ref (N.cA c)) "__getattribute__" = some (some (.builtin "BaseException.__getattribute__")) ∧ (∃ gt, PySem.W.findIn K (.ref (N.cA c)) "__getattr__" = some gt) ∧
    PySem.W.subIn K (.ref (N.cA c)) (.type "BaseException") = some true ∧ PySem.W.findIn K (.ref (N.cA c)) "__class__" = some (some (.builtin "object.__class__")) ∧ PySem.W.mroIn K (N.cA c) (.type "object") = some true
  ins : ∀ (c : Nat) (cl : Cl), P.cls[c]? = some cl → cl.exc = false → Cls K (N.cA c) ∧ PySem.W.findIn K (.ref (N.cA c)) "__class__" = some (some (.builtin "object.__class__")) ∧ PySem.W.mroIn K (N.cA c) (.type "object") = some true
  sp : PySem.W.specialIn K (.builtin "object.__class__") "__get__" = some (some (.builtin "getset_descriptor.__get__"))
  tk : PySem.W.takesIn K (.builtin "object.__class__") = some true
  own : ∀ (c d : Nat) (cl : Cl), P.cls[c]? = some cl → d < P.cls.length → PySem.W.kitOne K (.ref (N.cA c)) (.ref (N.cA d)) = some (cl.up.contains d)
  ty : ∀ T ∈ tyNames, ∀ d : Nat, d < P.cls.length → PySem.W.kitOne K (.type T) (.ref (N.cA d)) = some false
  inst : ∀ (c : Nat) (cl : Cl), P.cls[c]? = some cl → cl.exc = false → ∀ T ∈ tyNames, PySem.W.kitOne K (.ref (N.cA c)) (.type T) = some false
/-- the class that is asked for -/
def kdV (N : Nm) : Kd → V
  | .int => .ty "int"
  | .bool => .ty "bool"
  | .str => .ty "str"
  | .tuple => .ty "tuple"
  | .list => .ty "list"
  | .dict => .ty "dict"
  | .seq => .ty "tuple"
  | .own c => .ref (N.cA c)
def kdU (N : Nm) : Kd → Value
  | .int => .type "int"
  | .bool => .type "bool"
  | .str => .type "str"
  | .tuple => .type "tuple"
  | .list => .type "list"
  | .dict => .type "dict"
  | .seq => .type "tuple"
  | .own c => .ref (N.cA c)
def okKd (P : Prog) : Kd → Bool
  | .seq => false
  | .own c => decide (c < P.cls.length)
  | _ => true
theorem kd_cls (N : Nm) (k : Kd) : ClsV (kdV N k) (kdU N k) := by
  cases k <;> first | exact .ty _ | exact .own _
def kitAns (k : Kd) (T : String) : Bool := match k with
  | .int => T == "int" || T == "bool"
  | .bool => T == "bool"
  | .str => T == "str"
  | .tuple => T == "tuple"
  | .list => T == "list"
  | .dict => T == "dict"
  | _ => false
/-- a built-in type's name among those: what isinstance says -/
theorem kit_base {k : Kd} {T : String} (F : KitF K N P) (hk : okKd P k = true) (hT : T ∈ tyNames) : PySem.W.kitOne K (.type T) (kdU N k) = some (kitAns k T) := by
  cases k with
  | own c =>
    simp only [okKd, decide_eq_true_eq] at hk
    have := F.ty T hT c hk
    exact this
  | seq => simp [okKd] at hk
  | _ =>
    simp only [tyNames, List.mem_cons, List.not_mem_nil, or_false] at hT
    rcases hT with rfl | rfl | rfl | rfl | rfl | rfl | rfl
    all_goals exact kit_ty (by decide +kernel)
theorem snd_isin {k : Kd} (F : KitF X.K N P) (hk : okKd P k = true) : CallR X (.builtin "isinstance") (fun xs H Q => ∃ x, xs = [x, kdV N k] ∧ rOp X.K N P (.isin k) [x] H Q) := by
  intro pins s σ H xs us Q I r h
  obtain ⟨x, rfl, pv, ρ, S, ds, d', S', r0, sm, ho, g⟩ := h
  obtain ⟨d, rfl, r1⟩ := reps1 r0
  obtain ⟨b, hb, rfl, rfl⟩ := bl_inv (show bl S (kindOf P S k d) = .ok d' S' from ho)
  have fin : ∀ {t : Value}, TyX X.K H x t → PySem.W.kitOne X.K t (kdU N k) = some b → wpAny (model X.prog X.w) X.A (call (.builtin "isinstance") us) (EP X pins σ Q) X.xe s := fun {t} ty e =>
    call_isi pins s σ H _ us Q I r ⟨x, kdV N k, t, kdU N k, b, rfl, kd_cls N k, ty, e, g.same sm rfl⟩
  have bs : ∀ {T : String}, T ∈ tyNames → PySem.W.kitOne X.K (.type T) (kdU N k) = some _ := fun hT => kit_base F hk hT
  cases d with
  | non =>
    cases r1
    refine fin (.base .non) ((bs (T := "NoneType") (by decide)).trans ?_)
    cases k <;> simp_all [kindOf, kitAns]
  | bl y =>
    cases r1
    refine fin (.base (.bl y)) ((bs (T := "bool") (by decide)).trans ?_)
    cases k <;> simp_all [kindOf, kitAns]
  | int i =>
    cases r1
    refine fin (.base (.int i)) ((bs (T := "int") (by decide)).trans ?_)
    cases k <;> simp_all [kindOf, kitAns]
  | str y =>
    cases r1
    refine fin (.base (.str y)) ((bs (T := "str") (by decide)).trans ?_)
    cases k <;> simp_all [kindOf, kitAns]
  | tup ys =>
    obtain ⟨p, vs, rfl, t, q⟩ := r1
    have ty : TyX X.K H (.ref p) (.type "tuple") := by
      rcases t.1 with (h | ⟨o, h⟩) | h
      · exact .base (.tup h)
      · exact .fTuple h
      · obtain ⟨o, us', n, h1, h2, _⟩ := h
        exact .kTuple h1 h2
    refine fin ty ((bs (T := "tuple") (by decide)).trans ?_)
    cases k <;> simp_all [kindOf, okKd, kitAns]
  | lst ys =>
    obtain ⟨p, vs, rfl, ⟨t, _⟩, q⟩ := r1
    refine fin (.base (.lst t)) ((bs (T := "list") (by decide)).trans ?_)
    cases k <;> simp_all [kindOf, okKd, kitAns]
  | dct ks ws =>
    obtain ⟨p, kvs, rfl, t, _⟩ := r1
    have ty : TyX X.K H (.ref p) (.type "dict") := by
      rcases t with h | ⟨o, h⟩
      · exact .base (.dK h)
      · exact .fDict h
    refine fin ty ((bs (T := "dict") (by decide)).trans ?_)
    cases k <;> simp_all [kindOf, kitAns]
  | loc a =>
    obtain ⟨p, rfl, gp⟩ := r1
    simp only [kindOf] at hb
    split at hb
    · rename_i xs hs
      obtain ⟨vs, hH, _⟩ := sm.obs a _ p hs gp
      refine fin (.base (.lst hH)) ((bs (T := "list") (by decide)).trans ?_)
      cases k <;> simp_all [okKd, kitAns]
    · rename_i kvs lk hs
      obtain ⟨kws, hH, _⟩ := sm.obs a _ p hs gp
      have ty : TyX X.K H (.ref p) (.type "dict") := by
        cases lk with
        | true =>
          obtain ⟨od, hH⟩ := hH
          exact .fDict hH
        | false =>
          simp only [Bool.false_eq_true, if_false] at hH
          exact .base (.dK hH)
      refine fin ty ((bs (T := "dict") (by decide)).trans ?_)
      cases k <;> simp_all [kitAns]
    · rename_i c fs hs
      obtain ⟨dx, us', hH, _⟩ := sm.obs a _ p hs gp
      split at hb
      · rename_i cl hcl
        split at hb
        · cases hb
        · rename_i hx
          have hx : cl.exc = false := by simpa using hx
          obtain ⟨k1, k2, k3⟩ := F.ins c cl hcl hx
          refine fin (t := .ref (N.cA c)) (.base (.ins hH k1 k2 F.sp F.tk k3)) ?_
          split at hb
          · rename_i dd
            have hb' : cl.up.contains dd = b := by simpa using hb
            rw [← hb']
            exact F.own c dd cl hcl (by simpa [okKd] using hk)
          · rename_i hno
            have hb' : b = false := by simpa using hb.symm
            rw [hb']
            cases k with
            | own dd => exact absurd rfl (hno dd)
            | _ => exact F.inst c cl hcl hx _ (by simp [tyNames])
      · cases hb
    · cases hb
  | exc c fs =>
    obtain ⟨p, rfl, nf, od, hH, hfs⟩ := r1
    simp only [kindOf] at hb
    split at hb
    · rename_i cl hcl
      split at hb
      · rename_i hx
        split at hb
        · rename_i dd
          have hb' : cl.up.contains dd = b := by simpa using hb
          obtain ⟨k1, k2, ⟨gt, k3⟩, k4, k5, k6⟩ := F.ex c cl hcl hx
          obtain ⟨u1, u2, rfl, ra, rb⟩ := vals2 r
          cases ra
          have e2 := (kd_cls N (.own dd)).eq rb
          subst e2
          obtain ⟨oe, vs, hget, hc, hd, hf⟩ := (show ∃ (oe : Obj) (vs : Array Value), s.heap.get? p = some oe ∧ oe.cls = .ref (N.cA c) ∧ oe.dict = od ∧ oe.data = .fields vs from (I.hok p _ hH).1)
          have J : ∃ odd, PySem.W.InstAt s.heap p oe (N.cA c) odd := by
            have hno : PySem.W.notCls oe = true := by unfold PySem.W.notCls; rw [hf]
            cases od with
            | none => exact ⟨none, hget, hc, hno, by rw [hd]; trivial⟩
            | some dx =>
              obtain ⟨_, us', hx', _⟩ := hfs
              obtain ⟨mA, ⟨o1, es, ep, ho1, _⟩, _⟩ := (show ∃ mA, s.heap.Ns1 dx mA ∧ ∀ f, RelO (us'.lookup f) (mA f) from I.hok dx _ hx')
              exact ⟨some o1, hget, hc, hno, by rw [hd]; exact ho1⟩
          obtain ⟨odd, J⟩ := J
          refine PySem.W.kia_one (PySem.W.kitx_exc k1 k2 k3 k4 k5 F.sp F.tk k6) I.kIn J (F.own c dd cl hcl (by simpa [okKd] using hk)) (fun z => nomatch z) fun tk => ⟨.bl b, H, I.kept (t' := tk) fun _ _ z => z, ?_, g.same sm rfl⟩
          show Value.bool _ = Value.bool b
          rw [hb']
        · cases hb
      · cases hb
    · cases hb
  | _ => simp [kindOf] at hb
end Sa
set_option maxHeartbeats 1000000
/-! The readings of code: what a run of the evaluator promises of the run of the text. -/
namespace Sa
open PySem L2
variable {K : PySem.W.Frag} {N : Nm} {P : Prog} {ρ ρ' ρ1 : List Addr} {H H' H1 : Hp} {S S' S1 : Sto} {X : Cx} {E : XK} {C : Rt}

/-- an error that flies, told -/
def ErrAt (K : PySem.W.Frag) (N : Nm) (ρ : List Addr) (H : Hp) (e : D) (c : Value) (dd : Option Addr) : Prop :=
  ∃ k fs, e = .exc k fs ∧ c = .ref (N.cA k) ∧ match dd with
    | none => fs = []
    | some dx => Fr N ρ dx ∧ ∃ us, H dx = some (.xd us) ∧ Reps K N ρ H fs (us.map (·.2))
def Out {α β : Type} (K : PySem.W.Frag) (N : Nm) (rep : List Addr → Hp → α → β → Prop) (E : XK) (ρ : List Addr) (H : Hp) (r : R α) (Q : β → Hp → Prop) : Prop := match r with
  | .ok a S' => ∀ ρ' H' b, Ext N ρ H ρ' H' → Sim K N ρ' S' H' → rep ρ' H' a b → Q b H'
  | .err e S' => ∀ ρ' H' c dd, Ext N ρ H ρ' H' → Sim K N ρ' S' H' → ErrAt K N ρ' H' e c dd → E c dd H'
  | .bad => False
theorem Out.ext {α β : Type} {rep : List Addr → Hp → α → β → Prop} {r : R α} {Q : β → Hp → Prop} (e : Ext N ρ H ρ1 H1) (h : Out K N rep E ρ H r Q) : Out K N rep E ρ1 H1 r Q := by
  cases r with
  | ok a T => exact fun ρ' H' b e' => h ρ' H' b (e.trans e')
  | err a T => exact fun ρ' H' c dd e' => h ρ' H' c dd (e.trans e')
  | bad => exact h
theorem Out.bind {α β γ δ : Type} {rep : List Addr → Hp → α → β → Prop} {rep2 : List Addr → Hp → γ → δ → Prop} {r : R α} {k : α → Sto → R γ} {Q : δ → Hp → Prop} {P : β → Hp → Prop}
    (h : Out K N rep2 E ρ H (r.bind k) Q)
    (f : ∀ a S1 ρ1 H1 b, r = .ok a S1 → Ext N ρ H ρ1 H1 → Sim K N ρ1 S1 H1 → rep ρ1 H1 a b → Out K N rep2 E ρ1 H1 (k a S1) Q → P b H1) : Out K N rep E ρ H r P := by
  cases r with
  | ok a T => exact fun ρ' H' b e' s rp => f a T ρ' H' b rfl e' s rp (Out.ext e' h)
  | err a T => exact h
  | bad => exact h
theorem Out.imp {α β : Type} {rep : List Addr → Hp → α → β → Prop} {r : R α} {Q Q' : β → Hp → Prop} (h : Out K N rep E ρ H r Q) (f : ∀ b H', Q b H' → Q' b H') : Out K N rep E ρ H r Q' := by
  cases r with
  | ok a T => exact fun ρ' H' b e' s rp => f _ _ (h ρ' H' b e' s rp)
  | err a T => exact h
  | bad => exact h
theorem R.bind_assoc {α β γ : Type} (r : R α) (k : α → Sto → R β) (l : β → Sto → R γ) : (r.bind k).bind l = r.bind fun a S => (k a S).bind l := by
  cases r <;> rfl

/-- the slots of a frame -/
def EnvR (K : PySem.W.Frag) (N : Nm) (ρ : List Addr) (H : Hp) (env : Env) (σ : L2.St) : Prop :=
  σ.length = env.length ∧ ∀ (i : Nat) (d : D), env[i]? = some (some d) → ∃ v, σ[i]? = some (some v) ∧ Rep K N ρ H d v
theorem EnvR.mono {env : Env} {σ : L2.St} (e : Ext N ρ H ρ' H') (h : EnvR K N ρ H env σ) : EnvR K N ρ' H' env σ :=
  ⟨h.1, fun i d g => let ⟨v, a, b⟩ := h.2 i d g; ⟨v, a, b.mono e⟩⟩
theorem EnvR.set {env : Env} {σ : L2.St} {i : Nat} {d : D} {v : V} (h : EnvR K N ρ H env σ) (r : Rep K N ρ H d v) : EnvR K N ρ H (env.set i (some d)) (σ.set i (some v)) := by
  refine ⟨by simp [h.1], fun j x g => ?_⟩
  by_cases hj : j = i
  · subst hj
    by_cases hl : j < env.length
    · rw [List.getElem?_set_self hl] at g
      cases g
      exact ⟨v, List.getElem?_set_self (by rw [h.1]; exact hl), r⟩
    · rw [List.getElem?_eq_none (by simpa using hl)] at g; cases g
  · rw [List.getElem?_set_ne (Ne.symm hj)] at g
    obtain ⟨u, a, b⟩ := h.2 j x g
    exact ⟨u, by rw [List.getElem?_set_ne (Ne.symm hj)]; exact a, b⟩
theorem EnvR.unset {env : Env} {σ : L2.St} {i : Nat} (h : EnvR K N ρ H env σ) : EnvR K N ρ H (env.set i none) (σ.set i none) := by
  refine ⟨by simp [h.1], fun j x g => ?_⟩
  by_cases hj : j = i
  · subst hj
    by_cases hl : j < env.length
    · rw [List.getElem?_set_self hl] at g; cases g
    · rw [List.getElem?_eq_none (by simpa using hl)] at g; cases g
  · rw [List.getElem?_set_ne (Ne.symm hj)] at g
    obtain ⟨u, a, b⟩ := h.2 j x g
    exact ⟨u, by rw [List.getElem?_set_ne (Ne.symm hj)]; exact a, b⟩
theorem EnvR.wipe {env : Env} {σ : L2.St} (h : EnvR K N ρ H env σ) : ∀ own : List Nat, EnvR K N ρ H (wipeE env own) (L2.wipe σ own)
  | [] => h
  | i :: r => (EnvR.wipe h r).unset

abbrev RepV (K : PySem.W.Frag) (N : Nm) : List Addr → Hp → D → V → Prop := fun ρ H => Rep K N ρ H
abbrev RepL (K : PySem.W.Frag) (N : Nm) : List Addr → Hp → List D → List V → Prop := fun ρ H => Reps K N ρ H
/-- code's reading -/
def tE (K : PySem.W.Frag) (N : Nm) (C : Rt) (E : XK) (c : Sa.E) : TE := fun σ H Q => ∃ pv ρ S env, EnvR K (N.at pv) ρ H env σ ∧ Sim K (N.at pv) ρ S H ∧ Out K (N.at pv) (RepV K (N.at pv)) E ρ H (evE C c env S) Q
def tEs (K : PySem.W.Frag) (N : Nm) (C : Rt) (E : XK) (c : Sa.Es) : TA := fun σ H Q => ∃ pv ρ S env, EnvR K (N.at pv) ρ H env σ ∧ Sim K (N.at pv) ρ S H ∧ Out K (N.at pv) (RepL K (N.at pv)) E ρ H (evEs C c env S) Q
theorem pe_imp {e : Expr} {t t' : TE} (h : PE X e t) (f : ∀ σ H Q, t' σ H Q → t σ H Q) : PE X e t' := ⟨fun pins s σ H Q I q => h.run pins s σ H Q I (f σ H Q q)⟩
theorem pt_imp {e : Expr} {t t' : TT} (h : PT X e t) (f : ∀ σ H Q, t' σ H Q → t σ H Q) : PT X e t' := ⟨fun pins s σ H Q I q => h.run pins s σ H Q I (f σ H Q q)⟩
theorem pa_imp {e : List Expr} {t t' : TA} (h : PA X e t) (f : ∀ σ H Q, t' σ H Q → t σ H Q) : PA X e t' := ⟨fun pos pins s σ H Q I q => h.run pos pins s σ H Q I (f σ H Q q)⟩

section
variable {a b c : Sa.E} {x y z : Expr} {pos : Pos} {σ : L2.St} {Q : VK} {env : Env}
/-- two values, one behind another -/
theorem two_at {γ δ : Type} {P : V → V → Hp → Prop} {rep2 : List Addr → Hp → γ → δ → Prop} {k : D → D → Sto → R γ} {Q : δ → Hp → Prop}
    {pv : List (Addr × HO)} (he : EnvR K (N.at pv) ρ H env σ) (sm : Sim K (N.at pv) ρ S H) (h : Out K (N.at pv) rep2 E ρ H ((evE C a env S).bind fun d S1 => (evE C b env S1).bind fun e S2 => k d e S2) Q)
    (f : ∀ d e ρ2 S2 H2 v u, Ext (N.at pv) ρ H ρ2 H2 → Sim K (N.at pv) ρ2 S2 H2 → Rep K (N.at pv) ρ2 H2 d v → Rep K (N.at pv) ρ2 H2 e u → EnvR K (N.at pv) ρ2 H2 env σ → Out K (N.at pv) rep2 E ρ2 H2 (k d e S2) Q → P v u H2) :
    tE K N C E a σ H fun v H1 => tE K N C E b σ H1 fun u H2 => P v u H2 := by
  refine ⟨pv, ρ, S, env, he, sm, Out.bind h fun d S1 ρ1 H1 v _ e1 s1 r1 h1 => ?_⟩
  refine ⟨pv, ρ1, S1, env, he.mono e1, s1, Out.bind h1 fun e S2 ρ2 H2 u _ e2 s2 r2 h2 => ?_⟩
  exact f d e ρ2 S2 H2 v u (e1.trans e2) s2 (r1.mono e2) r2 ((he.mono e1).mono e2) h2
theorem out_op {o : Op} {ds : List D} {vs : List V} {pv : List (Addr × HO)} (sm : Sim K (N.at pv) ρ S H) (r : Reps K (N.at pv) ρ H ds vs) (h : Out K (N.at pv) (RepV K (N.at pv)) E ρ H (opSem P o ds S).calm Q) : rOp K N P o vs H Q := by
  cases e : opSem P o ds S with
  | ok d T => rw [e] at h; exact ⟨pv, ρ, S, ds, d, T, r, sm, e, h⟩
  | err d T => rw [e] at h; exact h.elim
  | bad => rw [e] at h; exact h.elim
theorem Reps.two {d e : D} {v u : V} (a : Rep K N ρ H d v) (b : Rep K N ρ H e u) : Reps K N ρ H [d, e] [v, u] := ⟨_, _, rfl, a, Reps.one b⟩
theorem ev2 (o : Op) (a b : Sa.E) (env : Env) (S : Sto) : evE C (.op o (.cons a (.cons b .nil))) env S = (evE C a env S).bind fun d S1 => (evE C b env S1).bind fun e S2 => (opSem C.P o [d, e] S2).calm := by
  simp only [evE, evEs, R.bind_assoc, R.bind_ok]
theorem ev1 (o : Op) (a : Sa.E) (env : Env) (S : Sto) : evE C (.op o (.cons a .nil)) env S = (evE C a env S).bind fun d S1 => (opSem C.P o [d] S1).calm := by
  simp only [evE, evEs, R.bind_assoc, R.bind_ok]
theorem op2_at {o : Op} (h : tE K N C E (.op o (.cons a (.cons b .nil))) σ H Q) : tOp (rOp2 K N C.P o) (tE K N C E a) (tE K N C E b) σ H Q := by
  obtain ⟨pv, ρ, S, env, he, sm, h⟩ := h
  rw [ev2] at h
  exact two_at he sm h fun d e ρ2 S2 H2 v u e2 s2 r1 r2 _ h2 => out_op s2 (Reps.two r1 r2) h2
theorem op1_at {o : Op} (h : tE K N C E (.op o (.cons a .nil)) σ H Q) : tE K N C E a σ H fun v H1 => rOp K N C.P o [v] H1 Q := by
  obtain ⟨pv, ρ, S, env, he, sm, h⟩ := h
  rw [ev1] at h
  exact ⟨pv, ρ, S, env, he, sm, Out.bind h fun d S1 ρ1 H1 v _ e1 s1 r1 h1 => out_op s1 (Reps.one r1) h1⟩
theorem s_bin {o : Op} {op : Operator} (ho : OpR X (binaryOp op) (rOp2 X.K N C.P o)) (ha : PE X x (tE X.K N C E a)) (hb : PE X y (tE X.K N C E b)) :
    PE X (.BinOp x op y pos) (tE X.K N C E (.op o (.cons a (.cons b .nil)))) := pe_imp (pe_op ho ha hb) fun _ _ _ => op2_at
theorem s_cmp {o : Op} {op : CmpOp} (ho : OpR X (compareOp op) (rOp2 X.K N C.P o)) (ha : PE X x (tE X.K N C E a)) (hb : PE X y (tE X.K N C E b)) (hm : behindInMarks op y = false) :
    PE X (.Compare x [op] [y] pos) (tE X.K N C E (.op o (.cons a (.cons b .nil)))) := pe_imp (pe_cmpR ho ha hb hm) fun _ _ _ => op2_at
theorem test_at {t : TE} (h : ∀ σ H Q, tE K N C E c σ H Q → t σ H Q) : ∀ σ H Q, tTest (tE K N C E c) σ H Q → tTest t σ H Q := fun σ H Q q => h σ H _ q
theorem s_cmpT {o : Op} {op : CmpOp} (ho : OpR X (compareOp op) (rOp2 X.K N C.P o)) (ha : PE X x (tE X.K N C E a)) (hb : PE X y (tE X.K N C E b)) (hm : behindInMarks op y = false) :
    PT X (.Compare x [op] [y] pos) (tTest (tE X.K N C E (.op o (.cons a (.cons b .nil))))) := pt_imp (pt_cmpR ho ha hb hm) (test_at fun _ _ _ => op2_at)
/-- and, or, not -/
theorem and_at (h : tE K N C E (.and a b) σ H Q) : tAndV (tE K N C E a) (tE K N C E b) σ H Q := by
  obtain ⟨pv, ρ, S, env, he, sm, h⟩ := h
  refine ⟨pv, ρ, S, env, he, sm, Out.bind h fun d S1 ρ1 H1 v _ e1 s1 r1 h1 => ?_⟩
  split at h1
  · exact ⟨true, r1, L2.iteT ⟨pv, ρ1, S1, env, he.mono e1, s1, h1⟩⟩
  · exact ⟨false, r1, L2.iteF (h1 _ _ _ Ext.refl s1 rfl)⟩
  · exact h1.elim
theorem or_at (h : tE K N C E (.or a b) σ H Q) : tOrV (tE K N C E a) (tE K N C E b) σ H Q := by
  obtain ⟨pv, ρ, S, env, he, sm, h⟩ := h
  refine ⟨pv, ρ, S, env, he, sm, Out.bind h fun d S1 ρ1 H1 v _ e1 s1 r1 h1 => ?_⟩
  split at h1
  · exact ⟨true, r1, L2.iteT (h1 _ _ _ Ext.refl s1 rfl)⟩
  · exact ⟨false, r1, L2.iteF ⟨pv, ρ1, S1, env, he.mono e1, s1, h1⟩⟩
  · exact h1.elim
theorem not_at (h : tE K N C E (.not a) σ H Q) : tNotV (tE K N C E a) σ H Q := by
  obtain ⟨pv, ρ, S, env, he, sm, h⟩ := h
  refine ⟨pv, ρ, S, env, he, sm, Out.bind h fun d S1 ρ1 H1 v _ e1 s1 r1 h1 => ?_⟩
  split at h1
  · exact ⟨_, r1, h1 _ _ _ Ext.refl s1 rfl⟩
  · exact h1.elim
theorem andT_at {Q : Bool → Hp → Prop} (h : tTest (tE K N C E (.and a b)) σ H Q) : tAnd (tTest (tE K N C E a)) (tTest (tE K N C E b)) σ H Q := by
  obtain ⟨pv, ρ, S, env, he, sm, h⟩ := h
  refine ⟨pv, ρ, S, env, he, sm, Out.bind h fun d S1 ρ1 H1 v _ e1 s1 r1 h1 => ?_⟩
  split at h1
  · exact ⟨true, r1, L2.iteT ⟨pv, ρ1, S1, env, he.mono e1, s1, h1⟩⟩
  · obtain ⟨k, e, q⟩ := h1 _ _ _ Ext.refl s1 rfl
    cases e
    exact ⟨false, r1, L2.iteF q⟩
  · exact h1.elim
theorem orT_at {Q : Bool → Hp → Prop} (h : tTest (tE K N C E (.or a b)) σ H Q) : tOr (tTest (tE K N C E a)) (tTest (tE K N C E b)) σ H Q := by
  obtain ⟨pv, ρ, S, env, he, sm, h⟩ := h
  refine ⟨pv, ρ, S, env, he, sm, Out.bind h fun d S1 ρ1 H1 v _ e1 s1 r1 h1 => ?_⟩
  split at h1
  · obtain ⟨k, e, q⟩ := h1 _ _ _ Ext.refl s1 rfl
    cases e
    exact ⟨true, r1, L2.iteT q⟩
  · exact ⟨false, r1, L2.iteF ⟨pv, ρ1, S1, env, he.mono e1, s1, h1⟩⟩
  · exact h1.elim
theorem notT_at {Q : Bool → Hp → Prop} (h : tTest (tE K N C E (.not a)) σ H Q) : tNot (tTest (tE K N C E a)) σ H Q := by
  obtain ⟨pv, ρ, S, env, he, sm, h⟩ := h
  refine ⟨pv, ρ, S, env, he, sm, Out.bind h fun d S1 ρ1 H1 v _ e1 s1 r1 h1 => ?_⟩
  split at h1
  · obtain ⟨k, e, q⟩ := h1 _ _ _ Ext.refl s1 rfl
    cases e
    exact ⟨_, r1, q⟩
  · exact h1.elim
theorem ite_at (h : tE K N C E (.ite c a b) σ H Q) : tIf (tTest (tE K N C E c)) (tE K N C E a) (tE K N C E b) σ H Q := by
  obtain ⟨pv, ρ, S, env, he, sm, h⟩ := h
  refine ⟨pv, ρ, S, env, he, sm, Out.bind h fun d S1 ρ1 H1 v _ e1 s1 r1 h1 => ?_⟩
  split at h1
  · exact ⟨true, r1, L2.iteT ⟨pv, ρ1, S1, env, he.mono e1, s1, h1⟩⟩
  · exact ⟨false, r1, L2.iteF ⟨pv, ρ1, S1, env, he.mono e1, s1, h1⟩⟩
  · exact h1.elim
theorem chain_at {p q : Op} (h : tE K N C E (.chain p q a b c) σ H Q) : tChain (rOp2 K N C.P p) (rOp2 K N C.P q) (tE K N C E a) (tE K N C E b) (tE K N C E c) σ H Q := by
  obtain ⟨pv, ρ, S, env, he, sm, h⟩ := h
  refine two_at (rep2 := RepV K (N.at pv)) he sm (k := fun x y S2 => (opSem C.P p [x, y] S2).calm.bind fun t S3 => match t with
    | .bl true => (evE C c env S3).bind fun z S4 => (opSem C.P q [y, z] S4).calm
    | .bl false => .ok (.bl false) S3
    | _ => .bad) (Q := Q) h fun d e ρ2 S2 H2 v u e2 s2 r1 r2 he2 h2 => ?_
  refine out_op (E := E) s2 (Reps.two r1 r2) (Out.bind h2 fun t S3 ρ3 H3 w _ e3 s3 r3 h3 => ?_)
  split at h3
  · refine ⟨true, r3, L2.iteT ?_⟩
    exact ⟨pv, ρ3, S3, env, he2.mono e3, s3, Out.bind h3 fun z S4 ρ4 H4 x4 _ e4 s4 r4 h4 => out_op s4 (Reps.two ((r2.mono e3).mono e4) r4) h4⟩
  · refine ⟨false, r3, L2.iteF ?_⟩
    exact h3 _ _ _ Ext.refl s3 rfl
  · exact h3.elim
/-- displays -/
theorem evEs_len : ∀ (es : Sa.Es) (env : Env) (S : Sto) {ds : List D} {S' : Sto}, evEs C es env S = .ok ds S' → ds.length = es.len
  | .nil, env, S, ds, S', h => by simp only [evEs] at h; cases h; rfl
  | .cons e r, env, S, ds, S', h => by
    simp only [evEs] at h
    cases h1 : evE C e env S with
    | ok d S1 =>
      rw [h1] at h
      cases h2 : evEs C r env S1 with
      | ok ds' S2 =>
        rw [R.bind_ok, h2] at h
        cases h
        simp [Es.len, evEs_len r env S1 h2]
      | err a T => rw [R.bind_ok, h2] at h; cases h
      | bad => rw [R.bind_ok, h2] at h; cases h
    | err a T => rw [h1] at h; cases h
    | bad => rw [h1] at h; cases h
theorem tup_at {es : Sa.Es} (hl : es.len ≤ 1000) (h : tE K N C E (.tup es) σ H Q) : tTup (tEs K N C E es) σ H Q := by
  obtain ⟨pv, ρ, S, env, he, sm, h⟩ := h
  simp only [evE] at h
  refine ⟨pv, ρ, S, env, he, sm, Out.bind h fun ds S1 ρ1 H1 vs ho e1 s1 r1 h1 => ⟨?_, fun p hp => ?_⟩⟩
  · rw [r1.length, evEs_len es env S ho, sizeLine_eq]; omega
  · exact Go.tup h1 s1 hp r1
theorem lst_at {al : Bool} {es : Sa.Es} (h : tE K N C E (.lst al es) σ H Q) : tLst (tEs K N C E es) σ H Q := by
  obtain ⟨pv, ρ, S, env, he, sm, h⟩ := h
  simp only [evE] at h
  refine ⟨pv, ρ, S, env, he, sm, Out.bind h fun ds S1 ρ1 H1 vs ho e1 s1 r1 h1 => ?_⟩
  cases e : Sa.newL al ds S1 with
  | ok d T =>
    rw [e] at h1
    refine ⟨?_, fun p hp => Go.newL e h1 s1 hp r1⟩
    rw [r1.length]
    exact Nat.le_trans (newL_len e) (Nat.le_of_lt big_line)
  | err d T => unfold Sa.newL at e; split at e <;> (try split at e) <;> cases e
  | bad => rw [e] at h1; exact h1.elim
theorem nil_at (h : tEs K N C E .nil σ H Q') : tNil σ H Q' := by
  obtain ⟨pv, ρ, S, env, he, sm, h⟩ := h
  exact h _ _ _ Ext.refl sm rfl
theorem cons_at {e : Sa.E} {r : Sa.Es} {Q : List V → Hp → Prop} (h : tEs K N C E (.cons e r) σ H Q) : tCons (tE K N C E e) (tEs K N C E r) σ H Q := by
  obtain ⟨pv, ρ, S, env, he, sm, h⟩ := h
  simp only [evEs] at h
  refine ⟨pv, ρ, S, env, he, sm, Out.bind h fun d S1 ρ1 H1 v _ e1 s1 r1 h1 => ?_⟩
  exact ⟨pv, ρ1, S1, env, he.mono e1, s1, Out.bind h1 fun ds S2 ρ2 H2 vs _ e2 s2 r2 h2 => h2 _ _ _ Ext.refl s2 ⟨v, vs, rfl, r1.mono e2, r2⟩⟩
end
end Sa
set_option maxHeartbeats 1000000
/-! Calls: defs, methods, classes, where nothing is being shown (guards). -/
namespace Sa
open PySem L2
/-- a def's promise, kept where no repr runs around -/
structure FnG (P : Program) (w : World) (K : PySem.W.Frag) (mg : Str → Option Value) (base : Heap) (gd : Bool) (k : Nat) (f : Addr) (fd : FuncData) (ps : List Str) (sp : Sp) : Prop where
  len : ∀ vs H Q E, sp vs H Q E → vs.length = ps.length
  run : ∀ (A : Around) (outer : List PySem.Env) (s : Shared) (H : Hp) (args : Args) (us : List Value) (vs : List V) (Q : VK) (E : XK), Room k A → (gd = true → A.guards = some []) → Env0 P w K mg base A outer s H → BindsTo s fd args (ps.zip us) → Vals vs us → sp vs H Q E →
    codeAny (model P w) A (.call (.ref f) args) (CR (L2.CX P w) outer P w H s Q E) s
theorem FnG.mono {P : Program} {w : World} {K : PySem.W.Frag} {mg : Str → Option Value} {base : Heap} {gd : Bool} {j k : Nat} {f : Addr} {fd : FuncData} {ps : List Str} {sp : Sp} (F : FnG P w K mg base gd j f fd ps sp) (h : j ≤ k) : FnG P w K mg base gd k f fd ps sp :=
  ⟨F.len, fun A outer s H args us vs Q E hr => F.run A outer s H args us vs Q E (hr.mono h)⟩
theorem FnG.weak {P : Program} {w : World} {K : PySem.W.Frag} {mg : Str → Option Value} {base : Heap} {q gd : Bool} {k : Nat} {f : Addr} {fd : FuncData} {ps : List Str} {sp : Sp} (F : FnG P w K mg base q k f fd ps sp) (h : q = true → gd = true) : FnG P w K mg base gd k f fd ps sp :=
  ⟨F.len, fun A outer s H args us vs Q E hr hg => F.run A outer s H args us vs Q E hr fun z => hg (h z)⟩
/-! ### argument lists without stars -/
/-- no star among them -/
def NoStar (env : PySem.Env) (es : List Expr) : Prop := starEach es env = es.map fun e => (false, eval e env)
theorem NoStar.cons {env : PySem.Env} {e : Expr} {es : List Expr} (h : NoStar env (e :: es)) : starEach (e :: es) env = (false, eval e env) :: starEach es env ∧ NoStar env es := by
  have h' : starEach (e :: es) env = (false, eval e env) :: es.map fun e => (false, eval e env) := h
  cases e <;> first
    | exact ⟨rfl, (List.cons.inj h').2⟩
    | (exfalso; have z := (List.cons.inj h').1; cases z)
theorem backTo_fst {pos : Pos} {env : PySem.Env} {es : List Expr} (h : NoStar env es) : (backTo pos (starEach es env)).any (·.1) = false ∧ (backTo pos (starEach es env)).all (fun x => !x.1) = true := by
  rw [h]
  induction es with
  | nil => exact ⟨rfl, rfl⟩
  | cons a r ih =>
    obtain ⟨h1, h2⟩ := ih h.cons.2
    exact ⟨by simpa [backTo] using h1, by simpa [backTo] using h2⟩
/-- a method's call -/
theorem meth_eq {env : PySem.Env} {o : Expr} {m : Str} {args : List Expr} {apos pos : Pos} (hab : attributeBase o m env (eval o env) = eval o env) (hst : NoStar env args) (hn : args.length < 29) (hl : (apos.endLine == pos.line) = true) :
    eval (.Call (.Attribute o m apos) args [] pos) env = (do
      let ov ← eval o env
      standAt apos.atName
      let (f, first) ← holding [ov] (getMethod ov m (do return (← importBound o env).getD true))
      callWith pos f first (backTo pos (starEach args env)) (backToKw pos (keywordEach [] env))) := by
  have hform : methodCallForm (args.length + ([] : List Keyword).length) (backTo pos (starEach args env)) (backToKw pos (keywordEach [] env)) = true := by
    unfold methodCallForm
    rw [(backTo_fst hst).2]
    simp [backToKw, keywordEach]
    omega
  have hpos : methodCallPos true o env apos pos = pure pos := by unfold methodCallPos; simp [hl]
  rw [arm_eval_Call, hab]
  unfold methodCall
  rw [hform, hpos]
  simp only [calleeOf, if_true]
  congr 1
section
variable {X : Cx} {gd : Bool} {k : Nat} {f C : Addr} {fd : FuncData} {ps : List Str} {sp : Sp} {E : XK} {x m : Str} {p pos apos : Pos} {e o : Expr} {es : List Expr} {ta : TE} {t : TA}
theorem runG {pins : List (Addr × Obj)} {σ : L2.St} {H : Hp} {s : Shared} {Q : VK} {us : List Value} {vs : List V} {kw : List (Str × Value)} {bs : List Value} (F : FnG X.prog X.w X.K X.mg X.base gd k f fd ps sp) (hr : Room k X.A) (hgd : gd = true → X.A.guards = some [])
    (hb : BindsTo s fd ⟨us, kw⟩ (ps.zip bs)) (hx : Passes (L2.CX X.prog X.w) X E)
    (I : L2.Inv X pins σ H s) (r : Vals vs bs) (h : sp vs H Q E) : wpAny (model X.prog X.w) X.A (call (.ref f) us kw) (EP X pins σ Q) X.xe s := by
  refine wpAny_call (codeAny_mono (F.run X.A X.stack s H ⟨us, kw⟩ bs vs Q E hr hgd I.env0 hb r h) fun r s' hq => ?_)
  cases r with
  | error e => exact hx pins σ H s e s' I hq
  | ok fl =>
    cases fl with
    | ret u => exact I.after hq
    | next => exact False.elim hq
    | brk => exact False.elim hq
    | cont => exact False.elim hq
theorem bindsG {pins : List (Addr × Obj)} {σ : L2.St} {H : Hp} {s : Shared} {us : List Value} {vs : List V} (I : L2.Inv X pins σ H s) (hb : Binds X.K fd ps []) (hl : vs.length = ps.length) (r : Vals vs us) : BindsTo s fd ⟨us, []⟩ (ps.zip us) := by
  have := hb s us I.kIn (by rw [List.append_nil, ← r.length]; exact hl)
  rw [List.append_nil] at this
  exact this
/-- what a call asks -/
def tCa (sp : Sp) (E : XK) (t : TA) : TE := fun σ H Q => t σ H fun vs H1 => sp vs H1 Q E
theorem pe_callG (F : FnG X.prog X.w X.K X.mg X.base gd k f fd ps sp) (hr : Room k X.A) (hgd : gd = true → X.A.guards = some []) (hg : Gl X x) (hm : X.mg x = some (.ref f)) (hk : PySem.W.keepIn X.K (.ref f) = true) (hb : Binds X.K fd ps []) (hx : Passes (L2.CX X.prog X.w) X E)
    (ha : PA X (e :: es) t) (hdb : (x == ("__debug__" : Str)) = false) (he : starEach (e :: es) X.env = (false, eval e X.env) :: starEach es X.env) (hpl : (backTo pos (starEach es X.env)).any (·.1) = false) :
    PE X (.Call (.Name x p) (e :: es) [] pos) (tCa sp E t) := by
  refine ⟨fun pins s σ H Q I h => ?_⟩
  refine wpAny_Call_Name_kw (ld_glob I hg hm ?_ hdb)
  refine PySem.W.callWith_K (h₀ := X.base) I.ok.mod.kin hk (thn (ha.run pos pins s σ H _ I h) fun us s1 ⟨vs, H1, I1, r, q⟩ => ⟨I1.kIn, ?_⟩) he hpl
  exact runG F hr hgd (bindsG I1 hb (F.len _ _ _ _ q) r) hx I1 r q
theorem pe_callG0 (F : FnG X.prog X.w X.K X.mg X.base gd k f fd ps sp) (hr : Room k X.A) (hgd : gd = true → X.A.guards = some []) (hg : Gl X x) (hm : X.mg x = some (.ref f)) (hk : PySem.W.keepIn X.K (.ref f) = true) (hb : Binds X.K fd ps []) (hx : Passes (L2.CX X.prog X.w) X E)
    (hdb : (x == ("__debug__" : Str)) = false) : PE X (.Call (.Name x p) [] [] pos) (tCa sp E tNil) := by
  refine ⟨fun pins s σ H Q I h => ?_⟩
  refine wpAny_Call_Name_kw (ld_glob I hg hm ?_ hdb)
  exact PySem.W.callWith_K0 I.kIn hk (runG F hr hgd (bindsG I hb (F.len _ _ _ _ h) .nil) hx I .nil h)
/-- o.m(..): the receiver's class tells the def -/
def tMe (K : PySem.W.Frag) (nm : Str) (E : XK) (T : Addr → Addr → FuncData → List Str → Sp → Prop) (ta : TE) (t : TA) : TE := fun σ H Q => ta σ H fun x H1 => ∃ a C dx fs f fd ps sp, x = .ref a ∧ H1 a = some (.ins C dx fs) ∧ fs.lookup nm = none ∧ Cls K C ∧ Meth K C nm f ∧ T C f fd ps sp ∧
  t σ H1 fun vs H2 => sp (x :: vs) H2 Q E
theorem pe_methG {T : Addr → Addr → FuncData → List Str → Sp → Prop} (he : PE X o ta) (hT : ∀ C f fd ps sp, T C f fd ps sp → FnG X.prog X.w X.K X.mg X.base gd k f fd ps sp ∧ Binds X.K fd ps []) (hr : Room k X.A) (hgd : gd = true → X.A.guards = some []) (hx : Passes (L2.CX X.prog X.w) X E) (ha : PA X (e :: es) t)
    (hst : NoStar X.env (e :: es)) (hn : (e :: es).length < 29) (hl : (apos.endLine == pos.line) = true) (hab : attributeBase o m X.env (eval o X.env) = eval o X.env) :
    PE X (.Call (.Attribute o m apos) (e :: es) [] pos) (tMe X.K m E T ta t) := by
  refine ⟨fun pins s σ H Q I h => ?_⟩
  refine PySem.W.methodCall_KW (thn (he.run pins s σ H _ I h) fun u s1 ⟨x, H1, I1, rx, a, C, dx, fs, f, fd, ps, sp, ex, ea, l, c, hm, ht, q⟩ => ?_) (meth_eq hab hst hn hl)
  subst ex
  obtain rfl : u = Value.ref a := rx
  obtain ⟨F, hb⟩ := hT _ _ _ _ _ ht
  refine getmeth_ok I1 ea c hm l ?_
  refine PySem.W.callWith_K (first := [.ref a]) (h₀ := X.base) I.ok.mod.kin hm.kp (thn (ha.run pos pins s1 σ H1 _ I1 q) fun us s2 ⟨vs, H2, I2, r, q2⟩ => ⟨I2.kIn, ?_⟩) hst.cons.1 (backTo_fst hst.cons.2).1
  exact runG F hr hgd (bindsG I2 hb (F.len _ _ _ _ q2) (.cons (show RelV (V.ref a) (Value.ref a) from rfl) r)) hx I2 (.cons (show RelV (V.ref a) (Value.ref a) from rfl) r) q2
theorem pe_methG0 {T : Addr → Addr → FuncData → List Str → Sp → Prop} (he : PE X o ta) (hT : ∀ C f fd ps sp, T C f fd ps sp → FnG X.prog X.w X.K X.mg X.base gd k f fd ps sp ∧ Binds X.K fd ps []) (hr : Room k X.A) (hgd : gd = true → X.A.guards = some []) (hx : Passes (L2.CX X.prog X.w) X E)
    (hl : (apos.endLine == pos.line) = true) (hab : attributeBase o m X.env (eval o X.env) = eval o X.env) :
    PE X (.Call (.Attribute o m apos) [] [] pos) (tMe X.K m E T ta tNil) := by
  refine ⟨fun pins s σ H Q I h => ?_⟩
  refine PySem.W.methodCall_KW (thn (he.run pins s σ H _ I h) fun u s1 ⟨x, H1, I1, rx, a, C, dx, fs, f, fd, ps, sp, ex, ea, l, c, hm, ht, q⟩ => ?_) (meth_eq hab rfl (by decide) hl)
  subst ex
  obtain rfl : u = Value.ref a := rx
  obtain ⟨F, hb⟩ := hT _ _ _ _ _ ht
  refine getmeth_ok I1 ea c hm l ?_
  exact PySem.W.callWith_K0 (first := [.ref a]) I1.kIn hm.kp (runG F hr hgd (bindsG I1 hb (F.len _ _ _ _ q) (.cons (show RelV (V.ref a) (Value.ref a) from rfl) .nil)) hx I1 (.cons (show RelV (V.ref a) (Value.ref a) from rfl) .nil) q)

/-! ### a new instance -/
theorem make_guards {A : Around} {C : Addr} {us : List Value} {kw : List (Str × Value)} : (A.under (.builtin "type.__call__" ⟨.ref C :: us, kw⟩)).guards = A.guards := by
  first | rfl | simp [Around.under, Code.guards, Code.isGuard, guardIds, pushGuards]
theorem run_makeG {pins : List (Addr × Obj)} {σ : L2.St} {H : Hp} {s : Shared} {Q : VK} {us bs : List Value} {vs : List V} {kw : List (Str × Value)} (M : Mk X.K C f) (F : FnG X.prog X.w X.K X.mg X.base gd k f fd ps sp) (hr : Room (k + 1) X.A) (hgd : gd = true → X.A.guards = some [])
    (hb : ∀ (s : Shared) (x : Value), X.K.In s.heap → (x :: bs).length = ps.length → BindsTo s fd ⟨x :: us, kw⟩ (ps.zip (x :: bs)))
    (hx : Passes (L2.CX X.prog X.w) X E) (I : L2.Inv X pins σ H s) (r : Vals vs bs)
    (h : ∀ x dx, H x = none → H dx = none → dx ≠ x → sp (.ref x :: vs) (upd (upd H dx (.own x)) x (.ins C dx [])) (fun v H2 => v = .non ∧ Q (.ref x) H2) E) :
    wpAny (model X.prog X.w) X.A (call (.ref C) us kw) (EP X pins σ Q) X.xe s := by
  have hq := h (s.heap.objs.size + 1) s.heap.objs.size (I.hok.fresh (Nat.le_succ _)) (I.hok.fresh (Nat.le_refl _)) (Nat.ne_of_lt (Nat.lt_succ_self _))
  have I2 := Inv.made (C := C) I
  have r2 : Vals (V.ref (s.heap.objs.size + 1) :: vs) (Value.ref (s.heap.objs.size + 1) :: bs) := .cons rfl r
  have hl : (Value.ref (s.heap.objs.size + 1) :: bs).length = ps.length := by
    have e := r2.length
    rw [F.len _ _ _ _ hq] at e
    exact e.symm
  refine wpAny_call (make_map (f := f) I.kIn M.makes M.init (beq_iff_eq.mp M.fn) (codeAny_mono (F.run _ X.stack _ _ ⟨Value.ref (s.heap.objs.size + 1) :: us, kw⟩ (Value.ref (s.heap.objs.size + 1) :: bs) _ _ E (hr.make C us kw)
    (fun z => by rw [make_guards]; exact hgd z) (I2.env0.make C us kw) (hb _ _ I2.kIn hl) r2 hq) fun r s' hq' => ?_))
  cases r with
  | error e => exact hx pins σ _ _ e s' I2 hq'
  | ok fl =>
    cases fl with
    | ret u =>
      obtain ⟨v, H', I3, rv, ev, q3⟩ := I2.after hq'
      subst ev
      exact ⟨rv, ⟨V.ref (s.heap.objs.size + 1), H', I3, rfl, q3⟩⟩
    | next => exact False.elim hq'
    | brk => exact False.elim hq'
    | cont => exact False.elim hq'
theorem bindsG1 {us : List Value} (hb : Binds X.K fd ps []) : ∀ (s : Shared) (x : Value), X.K.In s.heap → (x :: us).length = ps.length → BindsTo s fd ⟨x :: us, []⟩ (ps.zip (x :: us)) := fun s x hK hl => by
  have := hb s (x :: us) hK (by rw [List.append_nil]; exact hl)
  rw [List.append_nil] at this
  exact this
def tMk (C : Addr) (sp : Sp) (E : XK) (t : TA) : TE := fun σ H Q => t σ H fun vs H1 => ∀ x dx, H1 x = none → H1 dx = none → dx ≠ x →
  sp (.ref x :: vs) (upd (upd H1 dx (.own x)) x (.ins C dx [])) (fun v H2 => v = .non ∧ Q (.ref x) H2) E
theorem pe_makeG (M : Mk X.K C f) (F : FnG X.prog X.w X.K X.mg X.base gd k f fd ps sp) (hr : Room (k + 1) X.A) (hgd : gd = true → X.A.guards = some []) (hg : Gl X x) (hm : X.mg x = some (.ref C)) (hb : Binds X.K fd ps []) (hx : Passes (L2.CX X.prog X.w) X E)
    (ha : PA X (e :: es) t) (hdb : (x == ("__debug__" : Str)) = false) (hst : NoStar X.env (e :: es)) :
    PE X (.Call (.Name x p) (e :: es) [] pos) (tMk C sp E t) := by
  refine ⟨fun pins s σ H Q I h => ?_⟩
  refine wpAny_Call_Name_kw (ld_glob I hg hm ?_ hdb)
  refine PySem.W.callWith_K (h₀ := X.base) I.ok.mod.kin M.kp (thn (ha.run pos pins s σ H _ I h) fun us s1 ⟨vs, H1, I1, r, q⟩ => ⟨I1.kIn, ?_⟩) hst.cons.1 (backTo_fst hst.cons.2).1
  exact run_makeG M F hr hgd (bindsG1 hb) hx I1 r q
theorem pe_makeG0 (M : Mk X.K C f) (F : FnG X.prog X.w X.K X.mg X.base gd k f fd ps sp) (hr : Room (k + 1) X.A) (hgd : gd = true → X.A.guards = some []) (hg : Gl X x) (hm : X.mg x = some (.ref C)) (hb : Binds X.K fd ps []) (hx : Passes (L2.CX X.prog X.w) X E)
    (hdb : (x == ("__debug__" : Str)) = false) : PE X (.Call (.Name x p) [] [] pos) (tMk C sp E tNil) := by
  refine ⟨fun pins s σ H Q I h => ?_⟩
  refine wpAny_Call_Name_kw (ld_glob I hg hm ?_ hdb)
  exact PySem.W.callWith_K0 I.kIn M.kp (run_makeG (us := []) M F hr hgd (bindsG1 hb) hx I .nil h)
/-! ### with keywords: the last parameters, in their order -/
def KwB (K : PySem.W.Frag) (fd : FuncData) (ps ks : List Str) (n : Nat) : Prop := ∀ (s : Shared) (us ws : List Value), K.In s.heap → us.length = n → ws.length = ks.length → BindsTo s fd ⟨us, ks.zip ws⟩ (ps.zip (us ++ ws))
def tCaK (sp : Sp) (E : XK) (n m : Nat) (t tk : TA) : TE := fun σ H Q => t σ H fun vs H1 => tk σ H1 fun zs H2 => vs.length = n ∧ zs.length = m ∧ sp (vs ++ zs) H2 Q E
variable {kws : List Keyword} {ks : List Str} {tk : TA} {n : Nat}
theorem Vals.app {vs zs : List V} {us ws : List Value} (r : Vals vs us) (q : Vals zs ws) : Vals (vs ++ zs) (us ++ ws) := r.append q
theorem pe_callGK (F : FnG X.prog X.w X.K X.mg X.base gd k f fd ps sp) (hr : Room k X.A) (hgd : gd = true → X.A.guards = some []) (hg : Gl X x) (hm : X.mg x = some (.ref f)) (hk : PySem.W.keepIn X.K (.ref f) = true) (hb : KwB X.K fd ps ks n) (hx : Passes (L2.CX X.prog X.w) X E)
    (ha : PA X (e :: es) t) (hkw : PK X kws tk) (hdb : (x == ("__debug__" : Str)) = false) (hst : NoStar X.env (e :: es)) (hall : (backToKw pos (keywordEach kws X.env)).all (·.1.isSome) = true) (hks : (backToKw pos (keywordEach kws X.env)).filterMap (·.1) = ks)
    (hpl : ((backTo pos (starEach (e :: es) X.env)).any (·.1) || (backToKw pos (keywordEach kws X.env)).any (·.1.isNone)) = false) :
    PE X (.Call (.Name x p) (e :: es) kws pos) (tCaK sp E n ks.length t tk) := by
  refine ⟨fun pins s σ H Q I h => ?_⟩
  refine wpAny_Call_Name_kw (ld_glob I hg hm ?_ hdb)
  refine PySem.W.callWith_KW (h₀ := X.base) I.ok.mod.kin hk hall (thn (ha.run pos pins s σ H _ I h) fun us s1 ⟨vs, H1, I1, r, q⟩ => ?_) hpl hst.cons.1
  refine thn (hkw.run pos pins s1 σ H1 _ I1 q) fun ws s2 ⟨zs, H2, I2, rz, l1, l2, q2⟩ => ⟨I2.kIn, ?_⟩
  rw [hks]
  exact runG F hr hgd (hb s2 us ws I2.kIn (by rw [← r.length]; exact l1) (by rw [← rz.length]; exact l2)) hx I2 (r.append rz) q2
theorem pe_callGK0 (F : FnG X.prog X.w X.K X.mg X.base gd k f fd ps sp) (hr : Room k X.A) (hgd : gd = true → X.A.guards = some []) (hg : Gl X x) (hm : X.mg x = some (.ref f)) (hk : PySem.W.keepIn X.K (.ref f) = true) (hb : KwB X.K fd ps ks n) (hx : Passes (L2.CX X.prog X.w) X E)
    (hkw : PK X kws tk) (hdb : (x == ("__debug__" : Str)) = false) (hall : (backToKw pos (keywordEach kws X.env)).all (·.1.isSome) = true) (hks : (backToKw pos (keywordEach kws X.env)).filterMap (·.1) = ks)
    (hpl : ((backTo pos (starEach [] X.env)).any (·.1) || (backToKw pos (keywordEach kws X.env)).any (·.1.isNone)) = false) :
    PE X (.Call (.Name x p) [] kws pos) (tCaK sp E n ks.length tNil tk) := by
  refine ⟨fun pins s σ H Q I h => ?_⟩
  refine wpAny_Call_Name_kw (ld_glob I hg hm ?_ hdb)
  refine PySem.W.callWith_KW0 (h₀ := X.base) I.ok.mod.kin hk hall (thn (hkw.run pos pins s σ H _ I h) fun ws s2 ⟨zs, H2, I2, rz, l1, l2, q2⟩ => ⟨I2.kIn, ?_⟩) hpl
  rw [hks]
  exact runG (us := []) F hr hgd (hb s2 [] ws I2.kIn l1 (by rw [← rz.length]; exact l2)) hx I2 rz q2
def tMkK (C : Addr) (sp : Sp) (E : XK) (n m : Nat) (t tk : TA) : TE := fun σ H Q => t σ H fun vs H1 => tk σ H1 fun zs H2 => vs.length + 1 = n ∧ zs.length = m ∧ ∀ x dx, H2 x = none → H2 dx = none → dx ≠ x →
  sp (.ref x :: (vs ++ zs)) (upd (upd H2 dx (.own x)) x (.ins C dx [])) (fun v H3 => v = .non ∧ Q (.ref x) H3) E
theorem pe_makeGK (M : Mk X.K C f) (F : FnG X.prog X.w X.K X.mg X.base gd k f fd ps sp) (hr : Room (k + 1) X.A) (hgd : gd = true → X.A.guards = some []) (hg : Gl X x) (hm : X.mg x = some (.ref C)) (hb : KwB X.K fd ps ks n) (hx : Passes (L2.CX X.prog X.w) X E)
    (ha : PA X (e :: es) t) (hkw : PK X kws tk) (hdb : (x == ("__debug__" : Str)) = false) (hst : NoStar X.env (e :: es)) (hall : (backToKw pos (keywordEach kws X.env)).all (·.1.isSome) = true) (hks : (backToKw pos (keywordEach kws X.env)).filterMap (·.1) = ks)
    (hpl : ((backTo pos (starEach (e :: es) X.env)).any (·.1) || (backToKw pos (keywordEach kws X.env)).any (·.1.isNone)) = false) :
    PE X (.Call (.Name x p) (e :: es) kws pos) (tMkK C sp E n ks.length t tk) := by
  refine ⟨fun pins s σ H Q I h => ?_⟩
  refine wpAny_Call_Name_kw (ld_glob I hg hm ?_ hdb)
  refine PySem.W.callWith_KW (h₀ := X.base) I.ok.mod.kin M.kp hall (thn (ha.run pos pins s σ H _ I h) fun us s1 ⟨vs, H1, I1, r, q⟩ => ?_) hpl hst.cons.1
  refine thn (hkw.run pos pins s1 σ H1 _ I1 q) fun ws s2 ⟨zs, H2, I2, rz, l1, l2, q2⟩ => ⟨I2.kIn, ?_⟩
  rw [hks]
  refine run_makeG (us := us) (bs := us ++ ws) M F hr hgd (fun s x hK hl => ?_) hx I2 (r.append rz) q2
  exact hb s (x :: us) ws hK (by rw [List.length_cons, ← r.length]; exact l1) (by rw [← rz.length]; exact l2)
theorem pe_makeGK0 (M : Mk X.K C f) (F : FnG X.prog X.w X.K X.mg X.base gd k f fd ps sp) (hr : Room (k + 1) X.A) (hgd : gd = true → X.A.guards = some []) (hg : Gl X x) (hm : X.mg x = some (.ref C)) (hb : KwB X.K fd ps ks n) (hx : Passes (L2.CX X.prog X.w) X E)
    (hkw : PK X kws tk) (hdb : (x == ("__debug__" : Str)) = false) (hall : (backToKw pos (keywordEach kws X.env)).all (·.1.isSome) = true) (hks : (backToKw pos (keywordEach kws X.env)).filterMap (·.1) = ks)
    (hpl : ((backTo pos (starEach [] X.env)).any (·.1) || (backToKw pos (keywordEach kws X.env)).any (·.1.isNone)) = false) :
    PE X (.Call (.Name x p) [] kws pos) (tMkK C sp E n ks.length tNil tk) := by
  refine ⟨fun pins s σ H Q I h => ?_⟩
  refine wpAny_Call_Name_kw (ld_glob I hg hm ?_ hdb)
  refine PySem.W.callWith_KW0 (h₀ := X.base) I.ok.mod.kin M.kp hall (thn (hkw.run pos pins s σ H _ I h) fun ws s2 ⟨zs, H2, I2, rz, l1, l2, q2⟩ => ⟨I2.kIn, ?_⟩) hpl
  rw [hks]
  refine run_makeG (us := []) (bs := ws) M F hr hgd (fun s x hK hl => ?_) hx I2 rz q2
  exact hb s [x] ws hK l1 (by rw [← rz.length]; exact l2)
end
end Sa
set_option maxRecDepth 100000
set_option maxHeartbeats 1000000
/-! enumerate(a tuple): its new cells; the turns of a loop over it. -/
namespace Sa
open PySem PySem.Spec PyProof.Rows L2
open Sem (wp)
open AutoSeq1 (wpAny_loadPart')
open Builtin Builtin.Str
set_option maxHeartbeats 2000000 in
theorem meets_enumerate_1 {v : Value} {o : Obj} {H : Heap → Prop} (B : Begins v o H) :
    Meets (Builtin.«enumerate.__new__» ⟨[.type "enumerate", v], []⟩) (fun _ R s => H s.heap ∧
      R (.ok (.ret (.ref (s.heap.push o).objs.size))) { s with heap := (s.heap.push o).push { cls := .type "enumerate", data := .fields #[.none, .bool false, .ref s.heap.objs.size, rawInt 0, .none, .none] } }) :=
  .of_wp fun prog w A R s h => by
    obtain ⟨hp, g, d, tk, os⟩ := s; obtain ⟨h1, h⟩ := h
    have hsub := sub_enumerate
    have q1 : ∀ {A' : Around} {E : Value → Shared → Prop} {Q : Value → Shared → Prop}, Q (.ref hp.objs.size) ⟨hp.push o, g, d, tk, os⟩ → wpAny (model prog w) A' (pyIter v) Q E ⟨hp, g, d, tk, os⟩ :=
      fun q => B.iter prog w _ _ ⟨hp, g, d, tk, os⟩ _ h1 q
    wp_walk using q1
    refine wpAny_stack_any fun st => wpAny_pure ?_
    split
    · rename_i c _ _ _ _ _
      cases (c == Value.type "enumerate")
      · wp_walk using q1
        exact ⟨_, rfl, h⟩
      · wp_walk using q1
        exact ⟨_, rfl, h⟩
    · wp_walk using q1
      exact ⟨_, rfl, h⟩
theorem call_enum_1 {prog : Program} {w : World} {A : Around} {E : Value → Shared → Prop} {s : Shared} {v : Value} {o : Obj} {H : Heap → Prop} {Q : Value → Shared → Prop} (B : Begins v o H) (h1 : H s.heap)
    (h : ∀ h', IsEnum h' (s.heap.objs.size + 1) s.heap.objs.size 0 .none → h'.get? s.heap.objs.size = some o → h'.objs.size = s.heap.objs.size + 2 →
      (∀ b o, s.heap.get? b = some o → h'.get? b = some o) → Q (.ref (s.heap.objs.size + 1)) { s with heap := h' }) :
    wpAny (model prog w) A (call (.type "enumerate") [v]) Q E s := by
  refine callType_new F.called_enumerate (by decide) (F.typeCall_enumerate_1 _) (F.newCall_enumerate_1 _) (fun obj => F.args_object_init_2 obj _) F.entry_enumerate_new
    (meets_enumerate_1 B) ⟨h1, ?_⟩
  have hz : (s.heap.push o).objs.size = s.heap.objs.size + 1 := Heap.size_push ..
  show _ ∧ _
  rw [hz]
  have he : IsEnum ((s.heap.push o).push { cls := .type "enumerate", data := .fields #[.none, .bool false, .ref s.heap.objs.size, rawInt 0, .none, .none] }) (s.heap.objs.size + 1) s.heap.objs.size 0 .none := by
    have := Heap.get?_push_size (s.heap.push o) (o := { cls := .type "enumerate", data := .fields #[.none, .bool false, .ref s.heap.objs.size, rawInt 0, .none, .none] }) rfl
    rw [hz] at this; exact this
  refine ⟨⟨_, he, rfl⟩, h _ he (Heap.get?_push_of_some _ (Heap.get?_push_size _ B.free)) (by rw [Heap.size_push, hz]) fun b o x => Heap.get?_push_of_some _ (Heap.get?_push_of_some _ x)⟩
/-- the tuple at a, each item in a new pair -/
def IteT (K : PySem.W.Frag) (a : Addr) : L2.It :=
  ⟨fun i H => ∃ (xs : List V) (x : V), SqT K H a xs ∧ xs[i]? = some x, fun i H v H' => ∃ T x, v = .ref T ∧ H T = none ∧ H' = upd H T (.tup [.int (i : Nat), x]) ∧ ∀ xs, SqT K H a xs → xs[i]? = some x, fun i H => ∃ xs : List V, SqT K H a xs ∧ xs.length = i⟩
theorem turn_enumT {P : Program} {w : World} {K : PySem.W.Frag} {elts : List Expr} {kk : Nat} {tpos : Pos} (a e it : Addr) (hae : a ≠ e) (hai : a ≠ it) :
    Turn P w K (.Tuple elts kk tpos) (IteT K a) [e, it] e (fun i h => (∃ old, IsEnum h e it ((i : Nat) : Int) old) ∧ h.IsTupleIter it a i ∧ e ≠ it) where
  mem := by simp
  obj := fun i h st b hb => by
    obtain ⟨⟨old, he⟩, ⟨o, ho, hc, hd⟩, _⟩ := st
    have e' : b = e ∨ b = it := by simpa using hb
    rcases e' with z | z
    · rw [z]; exact ⟨_, he, fun v q => nomatch q⟩
    · rw [z]; exact ⟨o, ho, fun v q => by rw [hd] at q; cases q⟩
  keep := fun i h h' st k => let ⟨⟨old, he⟩, hi, hne⟩ := st; ⟨⟨old, k e (by simp) _ he⟩, hi.at fun o q => k it (by simp) o q, hne⟩
  item := by
    intro X hP hw hK hc i pins s σ H E I hf st hg
    subst hP hw hK
    obtain ⟨⟨old, he⟩, hit, hne⟩ := st
    obtain ⟨xs, x, hq, hx⟩ := hg
    obtain ⟨its, rv, p, hz⟩ := I.tuple hq
    have p : s.heap.IsTuple a its.toArray := p
    obtain ⟨u, hu, ru⟩ := rv.get hx
    have hel : e < s.heap.objs.size := Heap.lt_size he
    have hil : it < s.heap.objs.size := by obtain ⟨_, q, _⟩ := hit; exact Heap.lt_size q
    have hh : X.A.in1.handled = none := I.ok.hd hc
    have D := Draws.tuple (prog := X.prog) (w := X.w) (A := X.A.in1) hh it a hai its.toArray
    have hi : i < its.toArray.size := by
      have := (List.getElem?_eq_some_iff.mp hu).1
      simpa using this
    refine wpAny_pyNext_enum_itemC D he ⟨hit, p⟩ hi hne (by simp [hne, Ne.symm hae]) fun y h' tk hP ho hs' hT hsz hk => ?_
    have hy : y = u := by simpa [hu] using hP.symm
    subst hy
    refine ⟨_, rfl, wpAny_letOwnedTupleGo_enum (s := { s with heap := h', toks := tk + 1 }) ho fun h'' he' sb => ?_⟩
    have hT2 : h''.get? s.heap.objs.size = some { cls := .type "tuple", data := .seq #[.int i tk, y] } := (sb.2 _ (Nat.ne_of_gt hel)).trans hT
    have new : ObjOk X.prog X.w (upd H s.heap.objs.size (.tup [.int (i : Nat), x])) h'' s.heap.objs.size (.tup [.int (i : Nat), x]) :=
      ⟨by show 2 ≤ sizeLine; decide, [.int i tk, y], .cons ⟨_, rfl⟩ (.cons ru .nil), ⟨_, hT2, rfl, _, rfl⟩⟩
    have I1 : Inv X pins σ (upd H s.heap.objs.size (.tup [.int (i : Nat), x])) { s with heap := h'', toks := tk + 1 } :=
      I.turnedNew (ch := [e, it]) (fun b ob hb q => (sb.2 b (fun z => hb (by simp [z]))).trans (hk b ob (fun z => hb (by simp [z])) (fun z => hb (by simp [z])) q)) hf (Nat.le_refl _) new
    refine ⟨.ref s.heap.objs.size, _, I1, rfl, ⟨_, x, rfl, I.hok.fresh (Nat.le_refl _), rfl, fun ys hy => by rw [I.tuple_inj hy hq]; exact hx⟩, ⟨⟨y, ?_⟩, hs'.1.at fun o q => (sb.2 it (Ne.symm hne)).trans q, hne⟩, fun b hb => ?_⟩
    · have e1 : ((i + 1 : Nat) : Int) = (i : Int) + 1 := by omega
      rw [e1]; exact he'
    · have hb' : b < s.heap.objs.size := by
        have e' : b = e ∨ b = it := by simpa using hb
        rcases e' with z | z
        · rw [z]; exact hel
        · rw [z]; exact hil
      rw [upd_ne (Nat.ne_of_lt hb')]
      exact (hf b hb).1
  done := by
    intro X hP hw hK hc i pins s σ H E I hf st hg
    subst hP hw hK
    obtain ⟨⟨old, he⟩, hit, hne⟩ := st
    obtain ⟨xs, hq, hx⟩ := hg
    obtain ⟨its, rv, p, hz⟩ := I.tuple hq
    have p : s.heap.IsTuple a its.toArray := p
    obtain ⟨f0, f1, f2, f3, f4, f5⟩ := hf it (by simp)
    have hl := rv.length
    have hh : X.A.in1.handled = none := I.ok.hd hc
    have D := Draws.tuple (prog := X.prog) (w := X.w) (A := X.A.in1) hh it a hai its.toArray
    have hsz : its.toArray.size = i := by simp; omega
    have st' : s.heap.IsTupleIter it a its.toArray.size := by rw [hsz]; exact hit
    exact wpAny_pyNext_enum_endD D he ⟨st', p⟩ fun h' eb => ⟨rfl, I.turned (t' := s.toks) (fun b o hb q => eb b o hb q) f0 f1 f3 f4 f5⟩
  self := fun A i s Q E st h => let ⟨⟨_, he⟩, _⟩ := st; wpAny_pyIter_enum he h
def iEnumT (K : PySem.W.Frag) (ta : TA) : TI := fun σ H R => ta σ H fun vs H1 => ∃ a xs, vs = [.ref a] ∧ SqT K H1 a xs ∧ R (IteT K a) H1
theorem pi_enumT {X : Cx} {e : Expr} {ta : TA} {p pos tpos : Pos} {elts : List Expr} {kk : Nat} (hg : Gl X "enumerate") (hm : X.mg "enumerate" = none) (ha : PA X [e] ta) (hs : starEach [e] X.env = [(false, eval e X.env)]) :
    PI X (.Tuple elts kk tpos) (.Call (.Name "enumerate" p) [e] [] pos) (iEnumT X.K ta) := by
  refine ⟨fun pins s σ H R I h => ?_⟩
  refine Call_ (ld_blt I hg hm boot_enumerate (PyProof.Rows.callWith_type1 (thn (ha.run pos pins s σ H _ I h) fun us s1 ⟨vs, H1, I1, r1, q1⟩ => ?_) hs rfl))
  obtain ⟨a, xs, ex, hq, q⟩ := q1
  subst ex
  cases r1 with
  | cons r rr =>
    cases rr
    cases r
    obtain ⟨its, rv, p', hz⟩ := I1.tuple hq
    have p' : s1.heap.IsTuple a its.toArray := p'
    have hal : a < s1.heap.objs.size := by obtain ⟨_, q, _⟩ := p'; exact Heap.lt_size q
    refine call_enum_1 (begins_tuple a its.toArray) p' fun h' he hit hsz hk => wpAny_pyIter_enum he ?_
    have I2 : Inv X pins σ H1 { s1 with heap := h' } := I1.kept (t' := s1.toks) hk
    refine ⟨s1.heap.objs.size + 1, [s1.heap.objs.size + 1, s1.heap.objs.size], _, _, H1, rfl, I2, turn_enumT a (s1.heap.objs.size + 1) s1.heap.objs.size (Nat.ne_of_lt (Nat.lt_succ_of_lt hal)) (Nat.ne_of_lt hal), ⟨⟨.none, he⟩, ⟨_, hit, rfl, rfl⟩, Nat.succ_ne_self _⟩, fun b hb => ?_, q⟩
    have e' : b = s1.heap.objs.size + 1 ∨ b = s1.heap.objs.size := by simpa using hb
    have hle : s1.heap.objs.size ≤ b := by
      rcases e' with z | z
      · rw [z]; exact Nat.le_add_right _ _
      · rw [z]; exact Nat.le_refl _
    exact I1.fpOk hle (I1.hok.fresh hle)
end Sa
set_option maxHeartbeats 1000000
/-! What is gone over; targets; comprehensions. -/
namespace Sa
open PySem L2
variable {K : PySem.W.Frag} {N N' : Nm} {P : Prog} {ρ ρ' ρ1 : List Addr} {H H' H1 : Hp} {S S' S1 : Sto} {X : Cx} {E : XK} {C : Rt} {ck : Ck} {ds : List D} {p : Addr} {J : L2.It}

/-- J goes over ds while ck holds of the store -/
def WalkD (K : PySem.W.Frag) (N : Nm) (ρ1 : List Addr) (H1 : Hp) (ck : Ck) (J : L2.It) (ds : List D) : Prop :=
  ∀ (N' : Nm) (ρ : List Addr) (S : Sto) (H : Hp), Sub N N' H1 → Ext N' ρ1 H1 ρ H → Sim K N' ρ S H → ck.ok S = true →
    (∀ i, i < ds.length → J.go i H) ∧ J.stop ds.length H ∧ ∀ i x H', i < ds.length → J.yld i H x H' → Ext N' ρ H ρ H' ∧ Sim K N' ρ S H' ∧ ∃ d, ds[i]? = some d ∧ Rep K N' ρ H' d x
abbrev RepI (K : PySem.W.Frag) (N : Nm) : List Addr → Hp → List D × Ck → L2.It → Prop := fun ρ H p J => WalkD K N ρ H p.2 J p.1
def tI (K : PySem.W.Frag) (N : Nm) (C : Rt) (E : XK) (c : Sa.It) : TI := fun σ H R => ∃ pv ρ S env, EnvR K (N.at pv) ρ H env σ ∧ Sim K (N.at pv) ρ S H ∧ Out K (N.at pv) (RepI K (N.at pv)) E ρ H (evIt C c env S) R
theorem walkD_l (hl : ∀ (N' : Nm) (ρ : List Addr) (S : Sto) (H : Hp), Sub N N' H1 → Ext N' ρ1 H1 ρ H → Sim K N' ρ S H → ck.ok S = true → ∃ ws, SqL K H p ws ∧ Reps K N' ρ H ds ws) : WalkD K N ρ1 H1 ck (Itl K p) ds := by
  intro N' ρ S H sb e s hk
  obtain ⟨ws, q, r⟩ := hl N' ρ S H sb e s hk
  have hlen := r.length
  refine ⟨fun i hi => ?_, ⟨ws, q, by omega⟩, fun i x H' hi y => ?_⟩
  · exact ⟨ws, ws[i]'(by omega), q, by simp [show i < ws.length by omega]⟩
  · obtain ⟨e1, y⟩ := y
    subst e1
    have hx := y ws q
    obtain ⟨d, h1, h2⟩ := r.getV hx
    exact ⟨Ext.refl, s, d, h1, h2⟩
theorem walkD_t (hl : ∀ (N' : Nm) (ρ : List Addr) (S : Sto) (H : Hp), Sub N N' H1 → Ext N' ρ1 H1 ρ H → Sim K N' ρ S H → ck.ok S = true → ∃ ws, SqT K H p ws ∧ Reps K N' ρ H ds ws) : WalkD K N ρ1 H1 ck (Itt K p) ds := by
  intro N' ρ S H sb e s hk
  obtain ⟨ws, q, r⟩ := hl N' ρ S H sb e s hk
  have hlen := r.length
  refine ⟨fun i hi => ?_, ⟨ws, q, by omega⟩, fun i x H' hi y => ?_⟩
  · exact ⟨ws, ws[i]'(by omega), q, by simp [show i < ws.length by omega]⟩
  · obtain ⟨e1, y⟩ := y
    subst e1
    have hx := y ws q
    obtain ⟨d, h1, h2⟩ := r.getV hx
    exact ⟨Ext.refl, s, d, h1, h2⟩
/-- a tuple's items, as they stand later -/
theorem span_t {xs : List D} {v : V} (r : Rep K N ρ1 H1 (.tup xs) v) : ∃ p, v = .ref p ∧ ∀ (N' : Nm) (ρ : List Addr) (S : Sto) (H : Hp), Sub N N' H1 → Ext N' ρ1 H1 ρ H → Sim K N' ρ S H → ck.ok S = true → ∃ ws, SqT K H p ws ∧ Reps K N' ρ H xs ws := by
  obtain ⟨p, vs, e, t, q⟩ := r
  subst e
  refine ⟨p, rfl, fun N' ρ S H sb e s' _ => ⟨vs, ?_, (q.sub sb).mono e⟩⟩
  have t' : TupAt K N' ρ1 H1 p vs := ⟨t.1, by
    rcases t.2 with ⟨t2, n⟩ | t2
    · obtain ⟨o, ho⟩ := rd_some t2
      exact .inl ⟨t2, sb.fr p (by rw [ho]; simp) n⟩
    · exact .inr t2⟩
  exact (t'.mono e).1
theorem span_l {d : D} {v : V} (s : Sim K N ρ1 S1 H1) (r : Rep K N ρ1 H1 d v) (h : spans S1 d = some (ds, ck)) (hn : ∀ xs, d ≠ .tup xs) : ck.ok S1 = true ∧ ∃ p, v = .ref p ∧ ∀ (N' : Nm) (ρ : List Addr) (S : Sto) (H : Hp), Sub N N' H1 → Ext N' ρ1 H1 ρ H → Sim K N' ρ S H → ck.ok S = true → ∃ ws, SqL K H p ws ∧ Reps K N' ρ H ds ws := by
  cases d with
  | tup xs => exact absurd rfl (hn xs)
  | ro xs =>
    obtain ⟨p, vs, e, t, q⟩ := r
    cases h; subst e
    refine ⟨rfl, p, rfl, fun N' ρ S H sb e s' _ => ⟨vs, ?_, (q.sub sb).mono e⟩⟩
    have t' : RoAt K N' ρ1 H1 p vs := ⟨t.1, by
      rcases t.2 with ⟨t2, n⟩ | t2
      · obtain ⟨o, ho⟩ := rd_some t2
        exact .inl ⟨t2, sb.fr p (by rw [ho]; simp) n⟩
      · exact .inr t2⟩
    exact (t'.mono e).1
  | lst xs =>
    obtain ⟨p, vs, e, ⟨t, n⟩, q⟩ := r
    cases h; subst e
    exact ⟨rfl, p, rfl, fun N' ρ S H sb e s' _ => ⟨vs, SqL.of (e.keep p _ t (fun ps z => by cases z) (sb.fr p (by rw [t]; simp) n)), (q.sub sb).mono e⟩⟩
  | loc a =>
    obtain ⟨p, e, g⟩ := r
    simp only [spans] at h
    split at h
    · rename_i hs
      cases h; subst e
      refine ⟨by simp [Ck.ok, hs], p, rfl, fun N' ρ S H sb e s' hk => ?_⟩
      have hk : S[a]? = some (.lst ds) := by simpa [Ck.ok] using hk
      obtain ⟨vs, h1, q⟩ := s'.obs a _ p hk (e.get g)
      exact ⟨vs, SqL.of h1, q⟩
    · cases h
  | _ => simp [spans] at h
theorem Out.err_of {α β γ δ : Type} {rep : List Addr → Hp → α → β → Prop} {rep2 : List Addr → Hp → γ → δ → Prop} {e : D} {T : Sto} {Q : β → Hp → Prop} {Q2 : δ → Hp → Prop} (h : Out K N rep E ρ H (.err e T) Q) : Out K N rep2 E ρ H (.err e T) Q2 := h
section
variable {x : Expr} {e : Sa.E} {tg : Expr}
theorem pi_of (he : PE X x (tE X.K N C E e)) : PI X tg x (tI X.K N C E (.of e)) := by
  refine ⟨fun pins s σ H W I h => ?_⟩
  obtain ⟨pv, ρ, S, env, hv, sm, h⟩ := h
  simp only [evIt] at h
  by_cases hn : ∃ d S1, evE C e env S = .ok d S1 ∧ ∃ xs, d = D.tup xs
  · obtain ⟨d, S1, hr, xs, rfl⟩ := hn
    refine (pi_tup he).run pins s σ H W I ⟨pv, ρ, S, env, hv, sm, Out.bind h fun a S2 ρ1 H1 b ho e1 s1 r1 h1 => ?_⟩
    rw [hr] at ho
    cases ho
    simp only [spans, R.lift_some] at h1
    obtain ⟨p, rfl, hl⟩ := span_t (ck := .no) r1
    obtain ⟨ws, hq, _⟩ := hl (N.at pv) ρ1 S1 H1 Sub.refl Ext.refl s1 rfl
    exact ⟨p, rfl, ⟨ws, hq⟩, h1 ρ1 H1 (Itt X.K p) Ext.refl s1 (walkD_t hl)⟩
  · refine (pi_list he).run pins s σ H W I ⟨pv, ρ, S, env, hv, sm, Out.bind h fun d S2 ρ1 H1 b ho e1 s1 r1 h1 => ?_⟩
    cases hs : spans S2 d with
    | none => rw [hs] at h1; exact h1.elim
    | some q =>
      obtain ⟨ds, ck⟩ := q
      rw [hs] at h1
      obtain ⟨hk, p, rfl, hl⟩ := span_l s1 r1 hs (fun xs e => hn ⟨d, S2, ho, xs, e⟩)
      obtain ⟨ws, hq, _⟩ := hl (N.at pv) ρ1 S2 H1 Sub.refl Ext.refl s1 hk
      exact ⟨p, rfl, ⟨ws, hq⟩, h1 ρ1 H1 (Itl X.K p) Ext.refl s1 (walkD_l hl)⟩
theorem tcons1 {R : List V → Hp → Prop} {σ : L2.St} (h : tE K N C E e σ H fun v H1 => R [v] H1) : tCons (tE K N C E e) tNil σ H R := h
theorem walkD_r {a : Int} {n : Nat} : WalkD K N ρ1 H1 ck (Itr a n) (upto a n) := by
  intro N' ρ S H sb e s hk
  have hl : (upto a n).length = n := by simp [upto]
  refine ⟨fun i hi => by rw [hl] at hi; exact hi, by rw [hl]; exact Nat.le_refl _, fun i x H' hi y => ?_⟩
  obtain ⟨e1, y⟩ := y
  subst e1 y
  rw [hl] at hi
  exact ⟨Ext.refl, s, .int (a + (i : Int)), by simp [upto, hi], rfl⟩
theorem pi_rng {p pos : Pos} (hg : Gl X "range") (hm : X.mg "range" = none) (he : PE X x (tE X.K N C E e)) (hs : starEach [x] X.env = [(false, eval x X.env)]) : PI X tg (.Call (.Name "range" p) [x] [] pos) (tI X.K N C E (.rng e)) := by
  refine ⟨fun pins s σ H W I h => ?_⟩
  obtain ⟨pv, ρ, S, env, hv, sm, h⟩ := h
  simp only [evIt] at h
  refine (pi_range1 hg hm (pa_cons he pa_nil (by rw [hs]; rfl)) hs).run pins s σ H W I ?_
  refine tcons1 ⟨pv, ρ, S, env, hv, sm, Out.bind h fun d S2 ρ1 H1 b ho e1 s1 r1 h1 => ?_⟩
  split at h1
  · split at h1
    · cases r1
      rename_i n hn
      have hb : (big : Int) < 2 ^ 62 := by decide
      exact ⟨n, rfl, by omega, by omega, h1 ρ1 H1 _ Ext.refl s1 walkD_r⟩
    · exact h1.elim
  · exact h1.elim
variable {y : Expr} {e2 : Sa.E}
theorem tcons2 {W : List V → Hp → Prop} {σ : L2.St} (h : tE K N C E e σ H fun v H1 => tE K N C E e2 σ H1 fun u H2 => W [v, u] H2) : tCons (tE K N C E e) (tCons (tE K N C E e2) tNil) σ H W := h
theorem pi_rng2 {p pos : Pos} (hg : Gl X "range") (hm : X.mg "range" = none) (he : PE X x (tE X.K N C E e)) (he2 : PE X y (tE X.K N C E e2)) (hs : starEach [x, y] X.env = [(false, eval x X.env), (false, eval y X.env)]) (hs2 : starEach [y] X.env = [(false, eval y X.env)]) :
    PI X tg (.Call (.Name "range" p) [x, y] [] pos) (tI X.K N C E (.rng2 e e2)) := by
  refine ⟨fun pins s σ H W I h => ?_⟩
  obtain ⟨pv, ρ, S, env, hv, sm, h⟩ := h
  simp only [evIt] at h
  refine (pi_range2 hg hm (pa_cons he (pa_cons he2 pa_nil (by rw [hs2]; rfl)) (by rw [hs, hs2])) hs hs2).run pins s σ H W I ?_
  refine tcons2 (two_at hv sm h fun d e ρ2 S2 H2 v u e2 s2 r1 r2 he2 h2 => ?_)
  split at h2
  · split at h2
    · cases r1; cases r2
      rename_i i j hn
      have hb : (big : Int) < 2 ^ 62 := by decide
      exact ⟨i, j, rfl, ⟨by omega, by omega, by omega, by omega⟩, h2 ρ2 H2 _ Ext.refl s2 walkD_r⟩
    · exact h2.elim
  · exact h2.elim
theorem pairUp_at : ∀ (xs ys : List D) (i : Nat), (pairUp xs ys)[i]? = match xs[i]?, ys[i]? with
    | some a, some b => some (.tup [a, b])
    | _, _ => none
  | [], ys, i => by simp [pairUp]
  | x :: r, [], i => by simp [pairUp]
  | x :: r, y :: s, 0 => by simp [pairUp]
  | x :: r, y :: s, i + 1 => by simpa [pairUp] using pairUp_at r s i
theorem pairUp_len : ∀ (xs ys : List D), (pairUp xs ys).length = min xs.length ys.length
  | [], ys => by simp [pairUp]
  | x :: r, [] => by simp [pairUp]
  | x :: r, y :: s => by simp [pairUp, pairUp_len r s]
theorem numbered_at : ∀ (xs : List D) (k i : Nat), (numbered k xs)[i]? = xs[i]?.map fun d => .tup [.int ((k + i : Nat) : Int), d]
  | [], k, i => by simp [numbered]
  | x :: r, k, 0 => by simp [numbered]
  | x :: r, k, i + 1 => by
    have := numbered_at r (k + 1) i
    simp [numbered, this]
    congr 1
    funext d
    congr 3
    omega
theorem numbered_len : ∀ (xs : List D) (k : Nat), (numbered k xs).length = xs.length
  | [], k => rfl
  | x :: r, k => by simp [numbered, numbered_len r]
/-- a new pair -/
theorem pair_new {d e : D} {v u : V} {T : Addr} (s : Sim K N ρ S H) (hT : H T = none) (r1 : Rep K N ρ H d v) (r2 : Rep K N ρ H e u) :
    Ext N ρ H ρ (upd H T (.tup [v, u])) ∧ Sim K N ρ S (upd H T (.tup [v, u])) ∧ Rep K N ρ (upd H T (.tup [v, u])) (.tup [d, e]) (.ref T) := by
  have e1 : Ext N ρ H ρ (upd H T (.tup [v, u])) := Ext.junk hT (s.fresh hT).1
  exact ⟨e1, s.junk hT, T, _, rfl, ⟨SqT.of upd_same, .inl ⟨.inl upd_same, s.fresh hT⟩⟩, (Reps.two r1 r2).mono e1⟩
theorem walkD_zT {a b : Addr} {xs ys : List D}
    (h1 : ∀ (N' : Nm) (ρ : List Addr) (S : Sto) (H : Hp), Sub N N' H1 → Ext N' ρ1 H1 ρ H → Sim K N' ρ S H → ck.ok S = true → ∃ ws, SqT K H a ws ∧ Reps K N' ρ H xs ws)
    (h2 : ∀ (N' : Nm) (ρ : List Addr) (S : Sto) (H : Hp), Sub N N' H1 → Ext N' ρ1 H1 ρ H → Sim K N' ρ S H → ck.ok S = true → ∃ ws, SqT K H b ws ∧ Reps K N' ρ H ys ws) : WalkD K N ρ1 H1 ck (RZ.ItzT K a b) (pairUp xs ys) := by
  intro N' ρ S H sb e s hk
  obtain ⟨ws, q, r⟩ := h1 N' ρ S H sb e s hk
  obtain ⟨us, q', r'⟩ := h2 N' ρ S H sb e s hk
  have hl := r.length
  have hl' := r'.length
  have hm := pairUp_len xs ys
  refine ⟨fun i hi => ?_, ⟨ws, us, q, q', by omega⟩, fun i x H' hi y => ?_⟩
  · exact ⟨ws, us, ws[i]'(by omega), us[i]'(by omega), q, q', by simp [show i < ws.length by omega], by simp [show i < us.length by omega]⟩
  · obtain ⟨T, v, u, rfl, hT, rfl, y1, y2⟩ := y
    obtain ⟨d, g1, k1⟩ := r.getV (y1 ws q)
    obtain ⟨d2, g2, k2⟩ := r'.getV (y2 us q')
    obtain ⟨z1, z2, z3⟩ := pair_new s hT k1 k2
    exact ⟨z1, z2, .tup [d, d2], by rw [pairUp_at, g1, g2], z3⟩
theorem walkD_zL {a b : Addr} {xs ys : List D}
    (h1 : ∀ (N' : Nm) (ρ : List Addr) (S : Sto) (H : Hp), Sub N N' H1 → Ext N' ρ1 H1 ρ H → Sim K N' ρ S H → ck.ok S = true → ∃ ws, SqL K H a ws ∧ Reps K N' ρ H xs ws)
    (h2 : ∀ (N' : Nm) (ρ : List Addr) (S : Sto) (H : Hp), Sub N N' H1 → Ext N' ρ1 H1 ρ H → Sim K N' ρ S H → ck.ok S = true → ∃ ws, SqL K H b ws ∧ Reps K N' ρ H ys ws) : WalkD K N ρ1 H1 ck (Itz K a b) (pairUp xs ys) := by
  intro N' ρ S H sb e s hk
  obtain ⟨ws, q, r⟩ := h1 N' ρ S H sb e s hk
  obtain ⟨us, q', r'⟩ := h2 N' ρ S H sb e s hk
  have hl := r.length
  have hl' := r'.length
  have hm := pairUp_len xs ys
  refine ⟨fun i hi => ?_, ⟨ws, us, q, q', by omega⟩, fun i x H' hi y => ?_⟩
  · exact ⟨ws, us, ws[i]'(by omega), us[i]'(by omega), q, q', by simp [show i < ws.length by omega], by simp [show i < us.length by omega]⟩
  · obtain ⟨T, v, u, rfl, hT, rfl, y1, y2⟩ := y
    obtain ⟨d, g1, k1⟩ := r.getV (y1 ws q)
    obtain ⟨d2, g2, k2⟩ := r'.getV (y2 us q')
    obtain ⟨z1, z2, z3⟩ := pair_new s hT k1 k2
    exact ⟨z1, z2, .tup [d, d2], by rw [pairUp_at, g1, g2], z3⟩
theorem walkD_eL {a : Addr} {xs : List D}
    (h1 : ∀ (N' : Nm) (ρ : List Addr) (S : Sto) (H : Hp), Sub N N' H1 → Ext N' ρ1 H1 ρ H → Sim K N' ρ S H → ck.ok S = true → ∃ ws, SqL K H a ws ∧ Reps K N' ρ H xs ws) : WalkD K N ρ1 H1 ck (Ite K a) (numbered 0 xs) := by
  intro N' ρ S H sb e s hk
  obtain ⟨ws, q, r⟩ := h1 N' ρ S H sb e s hk
  have hl := r.length
  have hm := numbered_len xs 0
  refine ⟨fun i hi => ?_, ⟨ws, q, by omega⟩, fun i x H' hi y => ?_⟩
  · exact ⟨ws, ws[i]'(by omega), q, by simp [show i < ws.length by omega]⟩
  · obtain ⟨T, v, rfl, hT, rfl, y1⟩ := y
    obtain ⟨d, g1, k1⟩ := r.getV (y1 ws q)
    obtain ⟨z1, z2, z3⟩ := pair_new (d := .int (i : Nat)) (v := .int (i : Nat)) s hT rfl k1
    exact ⟨z1, z2, .tup [.int (i : Nat), d], by rw [numbered_at, g1]; simp, z3⟩
theorem walkD_eT {a : Addr} {xs : List D}
    (h1 : ∀ (N' : Nm) (ρ : List Addr) (S : Sto) (H : Hp), Sub N N' H1 → Ext N' ρ1 H1 ρ H → Sim K N' ρ S H → ck.ok S = true → ∃ ws, SqT K H a ws ∧ Reps K N' ρ H xs ws) : WalkD K N ρ1 H1 ck (IteT K a) (numbered 0 xs) := by
  intro N' ρ S H sb e s hk
  obtain ⟨ws, q, r⟩ := h1 N' ρ S H sb e s hk
  have hl := r.length
  have hm := numbered_len xs 0
  refine ⟨fun i hi => ?_, ⟨ws, q, by omega⟩, fun i x H' hi y => ?_⟩
  · exact ⟨ws, ws[i]'(by omega), q, by simp [show i < ws.length by omega]⟩
  · obtain ⟨T, v, rfl, hT, rfl, y1⟩ := y
    obtain ⟨d, g1, k1⟩ := r.getV (y1 ws q)
    obtain ⟨z1, z2, z3⟩ := pair_new (d := .int (i : Nat)) (v := .int (i : Nat)) s hT rfl k1
    exact ⟨z1, z2, .tup [.int (i : Nat), d], by rw [numbered_at, g1]; simp, z3⟩
theorem lst_later {xs : List D} {v : V} (r : Rep K N ρ1 H1 (.lst xs) v) : ∃ p, v = .ref p ∧ ∀ (N' : Nm) (ρ : List Addr) (S : Sto) (H : Hp), Sub N N' H1 → Ext N' ρ1 H1 ρ H → Sim K N' ρ S H → ck.ok S = true → ∃ ws, SqL K H p ws ∧ Reps K N' ρ H xs ws := by
  obtain ⟨p, vs, e, ⟨t, n⟩, q⟩ := r
  subst e
  exact ⟨p, rfl, fun N' ρ S H sb e s' _ => ⟨vs, SqL.of (e.keep p _ t (fun ps z => by cases z) (sb.fr p (by rw [t]; simp) n)), (q.sub sb).mono e⟩⟩
theorem assign_sub {env : PySem.Env} {pos : Pos} (h : (match y with | .Slice .. => false | _ => true) = true) (v : Value) : assign (.Subscript x y pos) env v = (do
      let ov ← holding [v] (eval x env)
      let iv ← holding [v, ov] (eval y env)
      standAt pos
      holding [v, ov, iv] (setItem ov iv v)
      release [v, ov, iv] []) := by
  cases y <;> first
    | rfl
    | (cases h)
theorem pi_zip' {p pos tpos : Pos} {elts : List Expr} {kk : Nat} (hg : Gl X "zip") (hm : X.mg "zip" = none) (he : PE X x (tE X.K N C E e)) (he2 : PE X y (tE X.K N C E e2)) (hs : starEach [x, y] X.env = [(false, eval x X.env), (false, eval y X.env)]) (hs2 : starEach [y] X.env = [(false, eval y X.env)]) :
    PI X (.Tuple elts kk tpos) (.Call (.Name "zip" p) [x, y] [] pos) (tI X.K N C E (.zip e e2)) := by
  refine ⟨fun pins s σ H W I h => ?_⟩
  obtain ⟨pv, ρ, S, env, hv, sm, h⟩ := h
  simp only [evIt] at h
  refine (RZ.pi_zipA hg hm (pa_cons he (pa_cons he2 pa_nil (by rw [hs2]; rfl)) (by rw [hs, hs2])) (by rw [hs, hs2]) (by rw [hs2]; rfl)).run pins s σ H W I ?_
  refine tcons2 (two_at hv sm h fun d e ρ2 S2 H2 v u e2 s2 r1 r2 he2 h2 => ?_)
  split at h2
  · obtain ⟨p, rfl, l1⟩ := span_t (ck := .no) r1
    obtain ⟨q, rfl, l2⟩ := span_t (ck := .no) r2
    obtain ⟨ws, q1, _⟩ := l1 (N.at pv) ρ2 S2 H2 Sub.refl Ext.refl s2 rfl
    obtain ⟨us, q2, _⟩ := l2 (N.at pv) ρ2 S2 H2 Sub.refl Ext.refl s2 rfl
    exact ⟨p, q, ws, us, rfl, .inr ⟨q1, q2, h2 ρ2 H2 _ Ext.refl s2 (walkD_zT l1 l2)⟩⟩
  · obtain ⟨p, rfl, l1⟩ := lst_later (ck := .no) r1
    obtain ⟨q, rfl, l2⟩ := lst_later (ck := .no) r2
    obtain ⟨ws, q1, _⟩ := l1 (N.at pv) ρ2 S2 H2 Sub.refl Ext.refl s2 rfl
    obtain ⟨us, q2, _⟩ := l2 (N.at pv) ρ2 S2 H2 Sub.refl Ext.refl s2 rfl
    exact ⟨p, q, ws, us, rfl, .inl ⟨q1, q2, h2 ρ2 H2 _ Ext.refl s2 (walkD_zL l1 l2)⟩⟩
  · exact h2.elim
theorem pi_enum' {p pos tpos : Pos} {elts : List Expr} {kk : Nat} (hg : Gl X "enumerate") (hm : X.mg "enumerate" = none) (he : PE X x (tE X.K N C E e)) (hs : starEach [x] X.env = [(false, eval x X.env)]) :
    PI X (.Tuple elts kk tpos) (.Call (.Name "enumerate" p) [x] [] pos) (tI X.K N C E (.enum e)) := by
  have ha : PA X [x] (tCons (tE X.K N C E e) tNil) := pa_cons he pa_nil (by rw [hs]; rfl)
  refine ⟨fun pins s σ H W I h => ?_⟩
  obtain ⟨pv, ρ, S, env, hv, sm, h⟩ := h
  simp only [evIt] at h
  by_cases hn : ∃ d S1, evE C e env S = .ok d S1 ∧ ∃ xs, d = D.tup xs
  · obtain ⟨d, S1, hr, xs, rfl⟩ := hn
    refine (pi_enumT hg hm ha hs).run pins s σ H W I (tcons1 ⟨pv, ρ, S, env, hv, sm, Out.bind h fun a S2 ρ1 H1 b ho e1 s1 r1 h1 => ?_⟩)
    rw [hr] at ho
    cases ho
    simp only [spans] at h1
    obtain ⟨p, rfl, hl⟩ := span_t (ck := .no) r1
    obtain ⟨ws, hq, _⟩ := hl (N.at pv) ρ1 S1 H1 Sub.refl Ext.refl s1 rfl
    exact ⟨p, ws, rfl, hq, h1 ρ1 H1 (IteT X.K p) Ext.refl s1 (walkD_eT hl)⟩
  · refine (pi_enum hg hm ha hs).run pins s σ H W I (tcons1 ⟨pv, ρ, S, env, hv, sm, Out.bind h fun d S2 ρ1 H1 b ho e1 s1 r1 h1 => ?_⟩)
    cases hs : spans S2 d with
    | none => rw [hs] at h1; exact h1.elim
    | some q =>
      obtain ⟨ds, ck⟩ := q
      rw [hs] at h1
      obtain ⟨hk, p, rfl, hl⟩ := span_l s1 r1 hs (fun xs e => hn ⟨d, S2, ho, xs, e⟩)
      obtain ⟨ws, hq, _⟩ := hl (N.at pv) ρ1 S2 H1 Sub.refl Ext.refl s1 hk
      cases ck with
      | no => exact ⟨p, ws, rfl, hq, h1 ρ1 H1 (Ite X.K p) Ext.refl s1 (walkD_eL hl)⟩
      | lst a ys =>
        have hy : ys = ds := by
          cases d <;> simp [spans] at hs
          split at hs <;> cases hs
          rfl
        subst hy
        exact ⟨p, ws, rfl, hq, h1 ρ1 H1 (Ite X.K p) Ext.refl s1 (walkD_eL hl)⟩
      | dct a kvs => exact h1.elim
/-! ### targets -/
mutual
/-- the names that are stored to -/
def Tg.slots : Sa.Tg → List Nat
  | .nm i => [i]
  | .tp ts => Tgs.slots ts
  | .sub _ _ => []
  | .fld _ _ => []
def Tgs.slots : Sa.Tgs → List Nat
  | .nil => []
  | .cons t r => Tg.slots t ++ Tgs.slots r
end
theorem wipe_set (σ : L2.St) (i : Nat) (x : Option V) : ∀ vs : List Nat, L2.wipe (σ.set i x) vs = if i ∈ vs then L2.wipe σ vs else (L2.wipe σ vs).set i x
  | [] => by simp [L2.wipe]
  | v :: vs => by
    unfold L2.wipe
    rw [wipe_set σ i x vs]
    by_cases hi : i = v
    · subst hi
      by_cases h2 : i ∈ vs
      · simp [h2]
      · simp [h2]
    · by_cases h2 : i ∈ vs
      · simp [h2]
      · simp [h2, hi]
        exact List.set_comm _ _ hi
abbrev RepE (K : PySem.W.Frag) (N : Nm) (σ₀ : L2.St) (sl : List Nat) : List Addr → Hp → Env → L2.St → Prop := fun ρ H env σ => EnvR K N ρ H env σ ∧ ∀ vs : List Nat, (∀ i ∈ sl, i ∈ vs) → L2.wipe σ vs = L2.wipe σ₀ vs
theorem Out.rep_imp {α β : Type} {rep rep' : List Addr → Hp → α → β → Prop} {r : R α} {Q : β → Hp → Prop} (h : Out K N rep E ρ H r Q) (f : ∀ ρ' H' a b, rep' ρ' H' a b → rep ρ' H' a b) : Out K N rep' E ρ H r Q := by
  cases r with
  | ok a T => exact fun ρ' H' b e' s rp => h ρ' H' b e' s (f _ _ _ _ rp)
  | err a T => exact h
  | bad => exact h
def tG (K : PySem.W.Frag) (N : Nm) (C : Rt) (E : XK) (c : Sa.Tg) : TG := fun v σ H Q => ∃ pv ρ S env d, EnvR K (N.at pv) ρ H env σ ∧ Sim K (N.at pv) ρ S H ∧ Rep K (N.at pv) ρ H d v ∧ Out K (N.at pv) (RepE K (N.at pv) σ c.slots) E ρ H (evTg C c d env S) Q
def tGs (K : PySem.W.Frag) (N : Nm) (C : Rt) (E : XK) (c : Sa.Tgs) : TGs := fun vs σ H Q => ∃ pv ρ S env ds, EnvR K (N.at pv) ρ H env σ ∧ Sim K (N.at pv) ρ S H ∧ Reps K (N.at pv) ρ H ds vs ∧ Out K (N.at pv) (RepE K (N.at pv) σ c.slots) E ρ H (evTgs C c ds env S) Q
theorem pg_imp {e : Expr} {t t' : TG} (h : PG X e t) (f : ∀ v σ H Q, t' v σ H Q → t v σ H Q) : PG X e t' := ⟨fun pins s σ H v u Q I r q => h.run pins s σ H v u Q I r (f v σ H Q q)⟩
theorem pgs_imp {e : List Expr} {t t' : TGs} (h : PGs X e t) (f : ∀ v σ H Q, t' v σ H Q → t v σ H Q) : PGs X e t' := ⟨fun pins s σ H v u Q I r q => h.run pins s σ H v u Q I r (f v σ H Q q)⟩
theorem s_gname {i : Nat} {z : Str} {pos : Pos} (hN : X.N.Nodup) (hi : X.N[i]? = some z) (hx : Loc X.env.scope z) (hf : X.fn z = true ∨ X.env.scope.names.lookup z = some .local) : PG X (.Name z pos) (tG X.K N C E (.nm i)) := by
  refine pg_imp (pg_name hN hi hx hf) fun v σ H Q h => ?_
  obtain ⟨pv, ρ, S, env, d, he, sm, r, h⟩ := h
  simp only [evTg] at h
  refine h ρ H _ Ext.refl sm ⟨he.set r, fun vs hv => ?_⟩
  rw [wipe_set, if_pos (hv i (by simp [Tg.slots]))]
theorem s_gnil : PGs X [] (tGs X.K N C E .nil) := by
  refine pgs_imp pgs_nil fun v σ H Q h => ?_
  obtain ⟨pv, ρ, S, env, d, he, sm, r, h⟩ := h
  simp only [evTgs] at h
  split at h
  · exact ⟨r, h ρ H _ Ext.refl sm ⟨he, fun _ _ => rfl⟩⟩
  · exact h.elim
theorem s_gcons {t : Sa.Tg} {r : Sa.Tgs} {x : Expr} {xs : List Expr} (h1 : PG X x (tG X.K N C E t)) (h2 : PGs X xs (tGs X.K N C E r)) (hs : (assignEach (x :: xs) X.env).map (·.2) = assign x X.env :: (assignEach xs X.env).map (·.2)) : PGs X (x :: xs) (tGs X.K N C E (.cons t r)) := by
  refine pgs_imp (pgs_cons h1 h2 hs) fun vs σ H Q h => ?_
  obtain ⟨pv, ρ, S, env, ds, he, sm, q, h⟩ := h
  simp only [evTgs] at h
  split at h
  · rename_i d rest
    obtain ⟨v, w, rfl, a, b⟩ := q
    exact ⟨v, w, rfl, pv, ρ, S, env, d, he, sm, a, Out.bind h fun env' S1 ρ1 H1 σ1 _ e1 s1 r1 h1 => ⟨pv, ρ1, S1, env', rest, r1.1, s1, b.mono e1, h1.rep_imp fun _ _ _ _ q => ⟨q.1, fun vs hv => (q.2 vs fun i hi => hv i (by simp [Tgs.slots, hi])).trans (r1.2 vs fun i hi => hv i (by simp [Tgs.slots, hi]))⟩⟩⟩
  · exact h.elim
theorem s_gtup {ts : Sa.Tgs} {xs : List Expr} {k : Nat} {pos : Pos} (hc : X.calm = true) (h : PGs X xs (tGs X.K N C E ts)) (hn : (assignEach xs X.env).length = ts.len) (hst : (assignEach xs X.env).findIdx? (·.1) = none) : PG X (.Tuple xs k pos) (tG X.K N C E (.tp ts)) := by
  refine pg_imp (pg_tup hc h hn hst) fun v σ H Q h => ?_
  obtain ⟨pv, ρ, S, env, d, he, sm, r, h⟩ := h
  simp only [evTg] at h
  split at h
  · split at h
    · rename_i ds hl
      obtain ⟨p, vs, rfl, t, q⟩ := r
      exact ⟨p, vs, rfl, t.1, by rw [q.length]; exact hl, pv, ρ, S, env, ds, he, sm, q, h⟩
    · exact h.elim
  · exact h.elim
/-- o[i] = v, a list or a dict -/
def rSetA : TSet := fun o i v H Q => rSetL o i v H Q ∨ rSetD o i v H Q
theorem set_any (hu : X.A.units + 1 < cLine) : PSet X rSetA := by
  intro pins s σ H o i v ov iv u Q I ro ri rv h
  rcases h with h | h
  · exact set_list pins s σ H o i v ov iv u Q I ro ri rv h
  · exact set_dict hu pins s σ H o i v ov iv u Q I ro ri rv h
theorem s_gsub {o i : Sa.E} {x y : Expr} {pos : Pos} (hu : X.A.units + 1 < cLine) (ho : PE X x (tE X.K N C E o)) (hi : PE X y (tE X.K N C E i))
    (ha : ∀ v, assign (.Subscript x y pos) X.env v = (do
      let ov ← holding [v] (eval x X.env)
      let iv ← holding [v, ov] (eval y X.env)
      standAt pos
      holding [v, ov, iv] (setItem ov iv v)
      release [v, ov, iv] [])) : PG X (.Subscript x y pos) (tG X.K N C E (.sub o i)) := by
  refine pg_imp (pg_sub ho hi (set_any hu) ha) fun v σ H Q h => ?_
  obtain ⟨pv, ρ, S, env, d, he, sm, r, h⟩ := h
  simp only [evTg] at h
  refine two_at he sm h fun x k ρ2 S2 H2 v1 u1 e2 s2 r1 r2 he2 h2 => ?_
  have rd := r.mono e2
  split at h2
  · rename_i a
    obtain ⟨p, rfl, g⟩ := r1
    split at h2
    · rename_i xs hs
      obtain ⟨vs, hp, q⟩ := s2.obs a _ p hs g
      split at h2
      · rename_i j
        cases r2
        split at h2
        · rename_i n hn
          refine .inl ⟨p, vs, j, n, rfl, rfl, hp, by rw [q.length, ← hn]; rfl, ?_⟩
          have hz : ∀ od u, H2 p ≠ some (.frz od u) := fun od u z => by rw [hp] at z; cases z
          have e3 : Ext (N.at pv) ρ2 H2 ρ2 (upd H2 p (.lst (vs.set n v))) := Ext.write (List.mem_of_getElem? g) (fun ps z => by cases z) hz (by rw [khoA_eq hp]; rfl)
          exact h2 _ _ _ e3 (s2.write g hz (by rw [khoA_eq hp]; rfl) ⟨_, upd_same, (q.set n rd).mono e3⟩) ⟨he2.mono e3, fun _ _ => rfl⟩
        · exact h2.elim
      · exact h2.elim
    · rename_i kvs hs
      obtain ⟨kws, hp, q⟩ := s2.obs a _ p hs g
      simp only [Bool.false_eq_true, if_false] at hp
      split at h2
      · rename_i hc
        simp only [Bool.and_eq_true, decide_eq_true_eq] at hc
        obtain ⟨k', rfl, rfl⟩ := isKey_at hc.1 r2
        have hz : ∀ od u, H2 p ≠ some (.frz od u) := fun od u z => by rw [hp] at z; cases z
        have e3 : Ext (N.at pv) ρ2 H2 ρ2 (upd H2 p (.dK (putK kws k' v))) := Ext.write (List.mem_of_getElem? g) (fun ps z => by cases z) hz (by rw [khoA_eq hp]; rfl)
        have hq := put_at k' q rd
        refine .inr ⟨p, _, rfl, DPut.k hp ?_, h2 _ _ _ e3 (s2.write g hz (by rw [khoA_eq hp]; rfl) ⟨putK kws k' v, by simpa using upd_same, hq.1, hq.2.mono e3⟩) ⟨he2.mono e3, fun _ _ => rfl⟩⟩
        rw [RepKv.length q]
        exact Nat.lt_trans hc.2 big_line
      · exact h2.elim
    · exact h2.elim
  · exact h2.elim
end
end Sa
set_option maxHeartbeats 1000000
/-! Comprehensions. -/
namespace Sa
open PySem L2
variable {K : PySem.W.Frag} {N N' : Nm} {P : Prog} {ρ ρ' ρ1 : List Addr} {H H' H1 : Hp} {S S' S1 : Sto} {X : Cx} {E : XK} {C : Rt} {ck : Ck} {ds : List D} {p : Addr} {J : L2.It} {σ : L2.St} {env : Env}

abbrev E0 : XK := fun _ _ _ => False
theorem wipe_get (σ : L2.St) (i : Nat) : ∀ vs : List Nat, (L2.wipe σ vs)[i]? = if i ∈ vs then σ[i]?.map (fun _ => none) else σ[i]?
  | [] => by simp [L2.wipe]
  | v :: vs => by
    unfold L2.wipe
    by_cases hv : i = v
    · subst hv
      rw [List.getElem?_set, L2.wipe_length]
      simp
      by_cases hl : i < σ.length
      · simp [hl]
      · simp [hl, List.getElem?_eq_none (Nat.le_of_not_lt hl)]
    · rw [List.getElem?_set_ne (Ne.symm hv), wipe_get σ i vs]
      simp [hv]
theorem wipe_wipe (σ : L2.St) (vs : List Nat) : L2.wipe (L2.wipe σ vs) vs = L2.wipe σ vs := by
  apply List.ext_getElem?
  intro i
  rw [wipe_get, wipe_get]
  by_cases h : i ∈ vs
  · simp only [h, if_true, Option.map_map]; rfl
  · simp [h]
/-- one's tests: none or one -/
def tC (K : PySem.W.Frag) (N : Nm) (C : Rt) (c : Sa.Es) : TT := match c with
  | .nil => tYes
  | .cons b _ => tTest (tE K N C E0 b)
def few : Sa.Es → Bool
  | .nil => true
  | .cons _ .nil => true
  | _ => false
theorem R.bind_ok_inv {α β : Type} {r : R α} {k : α → Sto → R β} {b : β} {T : Sto} (h : r.bind k = .ok b T) : ∃ a S, r = .ok a S ∧ k a S = .ok b T := by
  cases r with
  | ok a S => exact ⟨a, S, rfl, h⟩
  | err e S => cases h
  | bad => cases h
/-- a comprehension's turn -/
def turnC (C : Rt) (own : List Nat) (t : Sa.Tg) (c : Sa.Es) (e : Sa.E) (env : Env) (x : D) (S2 : Sto) : R (Option D) := (evTg C t x (wipeE env own) S2).bind fun env' S3 => (evEs C c env' S3).bind fun bs S4 => match bs with
      | [] => (evE C e env' S4).bind fun v S5 => .ok (some v) S5
      | [.bl true] => (evE C e env' S4).bind fun v S5 => .ok (some v) S5
      | [.bl false] => .ok none S4
      | _ => .bad
theorem loop_cons {turn : D → Sto → R (Option D)} {x : D} {r acc ys : List D} {S S6 : Sto} (h : loopC ck turn (x :: r) acc S = .ok ys S6) :
    ck.ok S = true ∧ ((∃ S', turn x S = .ok none S' ∧ loopC ck turn r acc S' = .ok ys S6) ∨ ∃ v S', turn x S = .ok (some v) S' ∧ acc.length < big ∧ loopC ck turn r (acc ++ [v]) S' = .ok ys S6) := by
  unfold loopC at h
  split at h
  · rename_i hk
    refine ⟨hk, ?_⟩
    split at h
    · split at h
      · rename_i v S' ht hl
        exact .inr ⟨v, S', ht, hl, h⟩
      · cases h
    · rename_i S' ht
      exact .inl ⟨S', ht, h⟩
    · cases h
  · cases h
theorem loop_nil {turn : D → Sto → R (Option D)} {acc ys : List D} {S S6 : Sto} (h : loopC ck turn [] acc S = .ok ys S6) : ck.ok S = true ∧ acc = ys ∧ S = S6 := by
  unfold loopC at h
  split at h
  · cases h; exact ⟨by assumption, rfl, rfl⟩
  · cases h
theorem loop_ck {turn : D → Sto → R (Option D)} {a : Nat} {kvs : List (D × D)} : ∀ {xs acc ys : List D} {S S6 : Sto}, loopC (.dct a kvs) turn xs acc S = .ok ys S6 → S6[a]? = some (.dct kvs true)
  | [], acc, ys, S, S6, h => by
    obtain ⟨h1, _, rfl⟩ := loop_nil h
    simpa [Ck.ok] using h1
  | x :: r, acc, ys, S, S6, h => by
    obtain ⟨_, h | h⟩ := loop_cons h
    · obtain ⟨S', _, h⟩ := h; exact loop_ck h
    · obtain ⟨v, S', _, _, h⟩ := h; exact loop_ck h
theorem upd_comm {H : Hp} {a b : Addr} {x y : HO} (h : a ≠ b) : upd (upd H a x) b y = upd (upd H b y) a x := by
  funext c
  unfold upd
  by_cases h1 : c = b
  · by_cases h2 : c = a
    · exact absurd (h2.symm.trans h1) h
    · simp [h1, Ne.symm h]
  · by_cases h2 : c = a
    · simp [h2, h]
    · simp [h1, h2]
theorem lc_run {own : List Nat} {t : Sa.Tg} {c : Sa.Es} {e : Sa.E} {L : Addr} {Qd : Hp → Prop} {pv : List (Addr × HO)} (hf : few c = true) (ho : ∀ i ∈ t.slots, i ∈ own)
    (hJ : WalkD K (N.at pv) ρ1 H1 ck J ds) (he : EnvR K (N.at pv) ρ1 H1 env σ) (sm : Sim K (N.at pv) ρ1 S1 H1) (hL : H1 L = none)
    {ys : List D} {S6 : Sto} (hl : loopC ck (turnC C own t c e env) ds [] S1 = .ok ys S6)
    (hd : ∀ ρ' H' vs, Ext (N.at ((L, .lst vs) :: pv)) ρ1 (upd H1 L (.lst [])) ρ' H' → Sim K (N.at ((L, .lst vs) :: pv)) ρ' S6 H' → Reps K (N.at ((L, .lst vs) :: pv)) ρ' H' ys vs → Qd H') :
    ∃ W : Nat → Nat → Hp → Prop, (∃ m, W 0 m (upd H1 L (.lst []))) ∧ ∀ i m H, W i m H →
      (J.stop i H ∧ Qd H) ∨ (J.go i H ∧ ∃ Nx : Hp → Prop, (∀ H', Nx H' → ∃ m', m' < m ∧ W (i + 1) m' H') ∧ ∀ x H', J.yld i H x H' → tG K N C E0 t x (L2.wipe σ own) H' fun σ2 H2 => L2.wipe σ2 own = L2.wipe σ own ∧ tC K N C c σ2 H2 fun b H3 =>
        if b = true then tE K N C E0 e σ2 H3 fun y H4 => ∃ acc, H4 L = some (.lst acc) ∧ acc.length < sizeLine ∧ Nx (upd H4 L (.lst (acc ++ [y]))) else Nx H3) := by
  have hpv : L ∉ (N.at pv).pv.map Prod.fst := (sm.fresh hL).2
  have e0 : Ext (N.at ((L, .lst []) :: pv)) ρ1 H1 ρ1 (upd H1 L (.lst [])) := Ext.junk hL (sm.fresh hL).1
  have hsub : ∀ o, Sub (N.at pv) (N.at ((L, o) :: pv)) H1 := fun o => Sub.hide (N := N.at pv) hL
  -- what stands at turn i
  let W : Nat → Nat → Hp → Prop := fun i m Hc => m = ds.length - i ∧ i ≤ ds.length ∧ ∃ ρc Sc acc vs, Ext (N.at ((L, .lst vs) :: pv)) ρ1 (upd H1 L (.lst [])) ρc Hc ∧ Sim K (N.at ((L, .lst vs) :: pv)) ρc Sc Hc ∧ Reps K (N.at ((L, .lst vs) :: pv)) ρc Hc acc vs ∧
    loopC ck (turnC C own t c e env) (ds.drop i) acc Sc = .ok ys S6
  refine ⟨W, ⟨ds.length, ?_⟩, fun i m Hc ⟨hm, hi, ρc, Sc, acc, vs, ex, sc, ra, lp⟩ => ?_⟩
  · exact ⟨by simp, Nat.zero_le _, ρ1, S1, [], [], Ext.refl, Sim.hide (N := N.at pv) sm hL (fun ps z => by cases z), rfl, by simpa using hl⟩
  have ex1 : Ext (N.at ((L, .lst vs) :: pv)) ρ1 H1 ρc Hc := Ext.trans (Ext.pvc (N := N.at pv) (o := .lst []) e0) ex
  by_cases hlt : i < ds.length
  · rw [List.drop_eq_getElem_cons hlt] at lp
    obtain ⟨hk, hc⟩ := loop_cons lp
    obtain ⟨w1, w2, w3⟩ := hJ _ ρc Sc Hc (hsub _) ex1 sc hk
    refine .inr ⟨w1 i hlt, W (i + 1) (ds.length - (i + 1)), fun H' hW => ⟨_, by omega, hW⟩, fun x H' y => ?_⟩
    obtain ⟨z1, z2, d, z3, z4⟩ := w3 i x H' hlt y
    have hd' : d = ds[i] := by rw [List.getElem?_eq_getElem hlt] at z3; exact (Option.some.inj z3).symm
    subst hd'
    have he2 : EnvR K (N.at ((L, .lst vs) :: pv)) ρ1 H1 env σ := ⟨he.1, fun j dj g => let ⟨v, a, b⟩ := he.2 j dj g; ⟨v, a, b.sub (hsub _)⟩⟩
    have he3 : EnvR K (N.at ((L, .lst vs) :: pv)) ρc H' (wipeE env own) (L2.wipe σ own) := ((he2.mono ex1).mono z1).wipe own
    have hwip : ∀ {σ2 : L2.St}, (∀ vs : List Nat, (∀ i ∈ t.slots, i ∈ vs) → L2.wipe σ2 vs = L2.wipe (L2.wipe σ own) vs) → L2.wipe σ2 own = L2.wipe σ own := fun {σ2} h => by
      rw [h own ho]
      exact wipe_wipe σ own
    -- the list at L, behind a run of the body
    have put : ∀ {ρ4 : List Addr} {S5 : Sto} {H4 : Hp} {v : D} {y : V}, Ext (N.at ((L, .lst vs) :: pv)) ρc H' ρ4 H4 → Sim K (N.at ((L, .lst vs) :: pv)) ρ4 S5 H4 → Rep K (N.at ((L, .lst vs) :: pv)) ρ4 H4 v y → acc.length < big → loopC ck (turnC C own t c e env) (ds.drop (i + 1)) (acc ++ [v]) S5 = .ok ys S6 →
        ∃ acc, H4 L = some (.lst acc) ∧ acc.length < sizeLine ∧ W (i + 1) (ds.length - (i + 1)) (upd H4 L (.lst (acc ++ [y]))) := fun {ρ4 S5 H4 v y} e4 s4 r4 hb l4 => by
      have hL4 := s4.pv (L, .lst vs) List.mem_cons_self
      have eW : Ext (N.at ((L, .lst vs) :: pv)) ρ4 H4 ρ4 (upd H4 L (.lst (vs ++ [y]))) := Ext.pvw hL4.1 (by simp) (fun ps z => by cases z) (fun od u z => by rw [hL4.2.1] at z; cases z)
      have ra4 := ((ra.mono z1).mono e4).append (Reps.one r4)
      refine ⟨vs, hL4.2.1, ?_, rfl, hlt, ρ4, S5, acc ++ [v], vs ++ [y], ?_, ?_, ?_, l4⟩
      · rw [ra.length]; exact Nat.lt_trans hb big_line
      · exact Ext.pvc (N := N.at pv) (o := .lst vs) (Ext.trans (Ext.trans (Ext.trans ex z1) e4) eW)
      · exact Sim.pvw (N := N.at pv) hpv s4 (fun ps z => by cases z) (fun od u z => by cases z) (fun φ z => by cases z) (fun ps z => by cases z)
      · exact Reps.pvc (N := N.at pv) (o := .lst vs) (ra4.mono eW)
    have stay : ∀ {ρ4 : List Addr} {S5 : Sto} {H4 : Hp}, Ext (N.at ((L, .lst vs) :: pv)) ρc H' ρ4 H4 → Sim K (N.at ((L, .lst vs) :: pv)) ρ4 S5 H4 → loopC ck (turnC C own t c e env) (ds.drop (i + 1)) acc S5 = .ok ys S6 → W (i + 1) (ds.length - (i + 1)) H4 := fun {ρ4 S5 H4} e4 s4 l4 =>
      ⟨rfl, hlt, ρ4, S5, acc, vs, Ext.trans (Ext.trans ex z1) e4, s4, (ra.mono z1).mono e4, l4⟩
    -- the turn's parts
    have ht : ∃ o S', turnC C own t c e env ds[i] Sc = .ok o S' ∧ match o with
      | none => loopC ck (turnC C own t c e env) (ds.drop (i + 1)) acc S' = .ok ys S6
      | some v => acc.length < big ∧ loopC ck (turnC C own t c e env) (ds.drop (i + 1)) (acc ++ [v]) S' = .ok ys S6 := by
      rcases hc with ⟨S', h1, h2⟩ | ⟨v, S', h1, h2, h3⟩
      · exact ⟨none, S', h1, h2⟩
      · exact ⟨some v, S', h1, h2, h3⟩
    obtain ⟨o, S', ht, hn⟩ := ht
    unfold turnC at ht
    obtain ⟨env', S3, h1, ht⟩ := R.bind_ok_inv ht
    obtain ⟨bs, S4, h2, ht⟩ := R.bind_ok_inv ht
    refine ⟨_, ρc, Sc, _, _, he3, z2, z4, ?_⟩
    rw [h1]
    intro ρ2 H2 σ2 e2 s2 ⟨en2, sl2⟩
    refine ⟨hwip sl2, ?_⟩
    have e2' := e2
    -- the value, taken
    have fin : ∀ {ρ3 : List Addr} {S4 : Sto} {H3 : Hp}, Ext (N.at ((L, .lst vs) :: pv)) ρc H' ρ3 H3 → Sim K (N.at ((L, .lst vs) :: pv)) ρ3 S4 H3 → EnvR K (N.at ((L, .lst vs) :: pv)) ρ3 H3 env' σ2 → ((evE C e env' S4).bind fun v S5 => .ok (some v) S5) = .ok o S' →
        tE K N C E0 e σ2 H3 fun y H4 => ∃ acc, H4 L = some (.lst acc) ∧ acc.length < sizeLine ∧ W (i + 1) (ds.length - (i + 1)) (upd H4 L (.lst (acc ++ [y]))) := fun {ρ3 S4 H3} e3 s3 en3 hv => by
      obtain ⟨v, S5, h5, h6⟩ := R.bind_ok_inv hv
      cases h6
      refine ⟨_, ρ3, S4, env', en3, s3, ?_⟩
      rw [h5]
      exact fun ρ4 H4 y e4 s4 r4 => put (Ext.trans e3 e4) s4 r4 hn.1 hn.2
    cases c with
    | nil =>
      simp only [evEs] at h2
      cases h2
      simp only [tC, tYes, if_true]
      exact fin e2 s2 en2 ht
    | cons b r =>
      cases r with
      | cons _ _ => cases hf
      | nil =>
        simp only [evEs] at h2
        obtain ⟨bv, S5, h5, h6⟩ := R.bind_ok_inv h2
        simp only [R.bind_ok] at h6
        cases h6
        refine ⟨_, ρ2, S3, env', en2, s2, ?_⟩
        rw [h5]
        intro ρ3 H3 v e3 s3 r3
        split at ht
        · rename_i hh; cases hh
        · rename_i hh; cases hh
          exact ⟨true, r3, L2.iteT (fin (Ext.trans e2 e3) s3 (en2.mono e3) ht)⟩
        · rename_i hh; cases hh
          cases ht
          exact ⟨false, r3, L2.iteF (stay (Ext.trans e2 e3) s3 hn)⟩
        · cases ht
  · have hi' : i = ds.length := by omega
    subst hi'
    rw [List.drop_length] at lp
    obtain ⟨hk, rfl, rfl⟩ := loop_nil lp
    obtain ⟨w1, w2, w3⟩ := hJ _ ρc Sc Hc (hsub _) ex1 sc hk
    exact .inl ⟨w2, hd ρc Hc vs ex sc ra⟩
def noKeys : Sa.It → Bool
  | .keys _ => false
  | _ => true
theorem spans_free {S : Sto} {d : D} {q : List D × Ck} (h : spans S d = some q) : (∀ T, q.2.lock T = T) ∧ ∀ T, q.2.free T = T := by
  cases d <;> simp [spans] at h <;> first
    | (subst h; exact ⟨fun _ => rfl, fun _ => rfl⟩)
    | skip
  split at h <;> cases h
  exact ⟨fun _ => rfl, fun _ => rfl⟩
theorem noLock {it : Sa.It} (h : noKeys it = true) {env : Env} {S S1 : Sto} {p : List D × Ck} (hv : evIt C it env S = .ok p S1) : (∀ T, p.2.lock T = T) ∧ ∀ T, p.2.free T = T := by
  cases it with
  | keys i => cases h
  | of e =>
    simp only [evIt] at hv
    obtain ⟨d, S2, h1, h2⟩ := R.bind_ok_inv hv
    obtain ⟨h3, _⟩ := R.lift_inv h2
    exact spans_free h3
  | rng e =>
    simp only [evIt] at hv
    obtain ⟨d, S2, h1, h2⟩ := R.bind_ok_inv hv
    split at h2
    · split at h2
      · cases h2; exact ⟨fun _ => rfl, fun _ => rfl⟩
      · cases h2
    · cases h2
  | rng2 a b =>
    simp only [evIt] at hv
    obtain ⟨d, S2, h1, h2⟩ := R.bind_ok_inv hv
    obtain ⟨d', S3, h1, h2⟩ := R.bind_ok_inv h2
    split at h2
    · split at h2
      · cases h2; exact ⟨fun _ => rfl, fun _ => rfl⟩
      · cases h2
    · cases h2
  | zip a b =>
    simp only [evIt] at hv
    obtain ⟨d, S2, h1, h2⟩ := R.bind_ok_inv hv
    obtain ⟨d', S3, h1, h2⟩ := R.bind_ok_inv h2
    split at h2
    · cases h2; exact ⟨fun _ => rfl, fun _ => rfl⟩
    · cases h2; exact ⟨fun _ => rfl, fun _ => rfl⟩
    · cases h2
  | enum e =>
    simp only [evIt] at hv
    obtain ⟨d, S2, h1, h2⟩ := R.bind_ok_inv hv
    split at h2
    · cases h2; exact ⟨fun _ => rfl, fun _ => rfl⟩
    · cases h2; exact ⟨fun _ => rfl, fun _ => rfl⟩
    · cases h2
theorem Out.ok_of {α β : Type} {rep : List Addr → Hp → α → β → Prop} {r : R α} {Q : β → Hp → Prop} (h : Out K N rep E ρ H r Q) (hn : ∀ e S, r ≠ .err e S) : ∃ a S, r = .ok a S := by
  cases r with
  | ok a S => exact ⟨a, S, rfl⟩
  | err e S => exact absurd rfl (hn e S)
  | bad => exact h.elim
theorem loopC_calm {turn : D → Sto → R (Option D)} : ∀ (xs acc : List D) (S : Sto) (e : D) (T : Sto), loopC ck turn xs acc S ≠ .err e T
  | [], acc, S, e, T, h => by
    unfold loopC at h
    split at h <;> cases h
  | x :: r, acc, S, e, T, h => by
    unfold loopC at h
    split at h
    · split at h
      · split at h
        · exact loopC_calm r _ _ e T h
        · cases h
      · exact loopC_calm r _ _ e T h
      · cases h
    · cases h
theorem newL_calm {al : Bool} {xs : List D} {S : Sto} {e : D} {T : Sto} (h : newL al xs S = .err e T) : False := by
  unfold Sa.newL at h
  split at h
  · cases al <;> cases h
  · cases h
/-- the new list, told -/
theorem lst_end {al : Bool} {ys : List D} {ws : List V} {S6 T : Sto} {d : D} {L : Addr} {pv : List (Addr × HO)} {Q : VK} (hpv : L ∉ pv.map Prod.fst) (hn : L ∉ ρ1) (hL : H1 L = none) (hv : newL al ys S6 = .ok d T)
    (h : ∀ ρ' H' v, Ext (N.at pv) ρ1 H1 ρ' H' → Sim K (N.at pv) ρ' T H' → Rep K (N.at pv) ρ' H' d v → Q v H')
    (e : Ext (N.at ((L, .lst ws) :: pv)) ρ1 (upd H1 L (.lst [])) ρ' H') (s : Sim K (N.at ((L, .lst ws) :: pv)) ρ' S6 H') (r : Reps K (N.at ((L, .lst ws) :: pv)) ρ' H' ys ws) : Q (.ref L) H' := by
  have hL4 := s.pv (L, .lst ws) List.mem_cons_self
  unfold Sa.newL at hv
  split at hv
  · cases al with
    | true =>
      simp only [if_true] at hv
      cases hv
      have s' : Sim K (N.at pv) (ρ' ++ [L]) (S6 ++ [.lst ys]) H' := Sim.adopt (N := N.at pv) hpv s ⟨ws, hL4.2.1, r⟩
      refine h _ H' _ (Ext.adopt (N := N.at pv) e hL hn) s' ⟨L, rfl, ?_⟩
      rw [← s.len]; simp
    | false =>
      simp only [Bool.false_eq_true, if_false] at hv
      cases hv
      exact h _ H' _ (Ext.unhide (N := N.at pv) e hL hn) (Sim.unhide (N := N.at pv) s) ⟨L, ws, rfl, ⟨hL4.2.1, hL4.1, hpv⟩, Reps.unhide (N := N.at pv) r⟩
  · cases hv
theorem comp_at {al : Bool} {own : List Nat} {t : Sa.Tg} {it : Sa.It} {c : Sa.Es} {e : Sa.E} {Q : VK} (hf : few c = true) (ho : ∀ i ∈ t.slots, i ∈ own) (hk : noKeys it = true) (h : tE K N C E (.comp al own t it c e) σ H Q) :
    tLc (tI K N C E it) (tG K N C E0 t) (tC K N C c) (tE K N C E0 e) own σ H Q := by
  obtain ⟨pv, ρ, S, env, he, sm, h⟩ := h
  simp only [evE] at h
  refine ⟨pv, ρ, S, env, he, sm, Out.bind h fun p S1 ρ1 H1 J hi e1 s1 hJ h1 => fun L hL => ?_⟩
  obtain ⟨hlk, hfr⟩ := noLock hk hi
  rw [hlk] at h1
  have h1 : Out K (N.at pv) (RepV K (N.at pv)) E ρ1 H1 ((loopC p.2 (turnC C own t c e env) p.1 [] S1).bind fun ys S6 => newL al ys (p.2.free S6)) Q := h1
  clear h
  have hb : ∃ ys S6 d T, loopC p.2 (turnC C own t c e env) p.1 [] S1 = .ok ys S6 ∧ newL al ys S6 = .ok d T ∧ ∀ ρ' H' v, Ext (N.at pv) ρ1 H1 ρ' H' → Sim K (N.at pv) ρ' T H' → Rep K (N.at pv) ρ' H' d v → Q v H' := by
    cases hl : loopC p.2 (turnC C own t c e env) p.1 [] S1 with
    | err x T => exact absurd hl (loopC_calm _ _ _ _ _)
    | bad => rw [hl] at h1; exact h1.elim
    | ok ys S6 =>
      rw [hl, R.bind_ok, hfr] at h1
      cases hn : Sa.newL al ys S6 with
      | ok d T => rw [hn] at h1; exact ⟨ys, S6, d, T, rfl, hn, h1⟩
      | err x T => exact (newL_calm hn).elim
      | bad => rw [hn] at h1; exact h1.elim
  obtain ⟨ys, S6, d, T, hl, hn, hq⟩ := hb
  exact lc_run (Qd := Q (.ref L)) hf ho hJ (he.mono e1) s1 hL hl fun ρ' H' vs e' s' r' => lst_end (N := N) (s1.fresh hL).2 (s1.fresh hL).1 hL hn hq e' s' r'
theorem walkD_k {kws : List (Key × V)} {od : Obj} (hp : H1 p = some (.frz od (.dK kws))) : WalkD K N ρ1 H1 ck (Itk p od kws) (kws.map fun q => keyD q.1) := by
  intro N' ρ S H sb e s hk
  have hq := e.frz p od _ hp
  refine ⟨fun i hi => ⟨hq, by simpa using hi⟩, ⟨hq, by simp⟩, fun i x H' hi y => ?_⟩
  obtain ⟨rfl, k, v, h1, rfl⟩ := y
  refine ⟨Ext.refl, s, keyD k, by simp [h1], ?_⟩
  cases k <;> rfl
/-- a comprehension over a dict's keys, the dict a name's -/
theorem comp_keys_at {al : Bool} {own : List Nat} {t : Sa.Tg} {i : Nat} {c : Sa.Es} {e : Sa.E} {Q : VK} (hf : few c = true) (ho : ∀ i ∈ t.slots, i ∈ own) (h : tE K N C E (.comp al own t (.keys i) c e) σ H Q) :
    tLockE (tLc (iKeys (tVar i)) (tG K N C E0 t) (tC K N C c) (tE K N C E0 e) own) σ H Q := by
  obtain ⟨pv, ρ, S, env, he, sm, h⟩ := h
  simp only [evE] at h
  cases hv : evIt C (.keys i) env S with
  | err x T =>
    simp only [evIt] at hv
    split at hv
    · cases hk : keysAt S _ with
      | none => rw [hk] at hv; cases hv
      | some q => rw [hk] at hv; cases hv
    · cases hv
  | bad => rw [hv] at h; exact h.elim
  | ok q S1 =>
  rw [hv, R.bind_ok] at h
  simp only [evIt] at hv
  split at hv
  · rename_i d hd
    obtain ⟨hk, hS⟩ := R.lift_inv hv
    replace hS := hS.symm
    subst hS
    cases d <;> simp [keysAt] at hk
    rename_i a
    split at hk <;> cases hk
    rename_i kvs hs
    obtain ⟨v, hσ, p, rfl, hp⟩ := he.2 i _ hd
    obtain ⟨kws, hH, r⟩ := sm.obs a _ p hs hp
    simp only [Bool.false_eq_true, if_false] at hH
    have hm : p ∈ ρ := List.mem_of_getElem? hp
    refine ⟨p, .dK kws, hH, trivial, fun od => ?_⟩
    have hz : ∀ od u, H p ≠ some (.frz od u) := fun od u z => by rw [hH] at z; cases z
    have eL : Ext (N.at pv) ρ H ρ (upd H p (.frz od (.dK kws))) := Ext.write hm (fun ps z => by cases z) hz (by rw [khoA_eq hH]; rfl)
    have sL : Sim K (N.at pv) ρ (S.set a (.dct kvs true)) (upd H p (.frz od (.dK kws))) := sm.write hp hz (by rw [khoA_eq hH]; rfl) ⟨kws, ⟨od, upd_same⟩, r.1, r.2.mono eL⟩
    refine ⟨.ref p, hσ, p, od, rfl, .inl ⟨kws, upd_same, fun L hL => ?_⟩⟩
    have h1 : Out K (N.at pv) (RepV K (N.at pv)) E ρ H ((loopC (.dct a kvs) (turnC C own t c e env) (kvs.map (·.1)) [] (S.set a (.dct kvs true))).bind fun ys S6 => newL al ys (Ck.free (.dct a kvs) S6)) Q := h
    clear h
    have hb : ∃ ys S6 d T, loopC (.dct a kvs) (turnC C own t c e env) (kvs.map (·.1)) [] (S.set a (.dct kvs true)) = .ok ys S6 ∧ newL al ys (S6.set a (.dct kvs false)) = .ok d T ∧ ∀ ρ' H' v, Ext (N.at pv) ρ H ρ' H' → Sim K (N.at pv) ρ' T H' → Rep K (N.at pv) ρ' H' d v → Q v H' := by
      cases hl : loopC (.dct a kvs) (turnC C own t c e env) (kvs.map (·.1)) [] (S.set a (.dct kvs true)) with
      | err x T => exact absurd hl (loopC_calm _ _ _ _ _)
      | bad => rw [hl] at h1; exact h1.elim
      | ok ys S6 =>
        rw [hl, R.bind_ok] at h1
        cases hn : Sa.newL al ys (Ck.free (.dct a kvs) S6) with
        | ok d T => rw [hn] at h1; exact ⟨ys, S6, d, T, rfl, hn, h1⟩
        | err x T => exact (newL_calm hn).elim
        | bad => rw [hn] at h1; exact h1.elim
    obtain ⟨ys, S6, d, T, hl, hn, hq⟩ := hb
    have hkeys : kvs.map (·.1) = kws.map fun q => keyD q.1 := r.1
    rw [hkeys] at hl
    -- the dict stays as it is while it is gone over
    have hS6 : S6[a]? = some (.dct kvs true) := loop_ck hl
    refine lc_run (Qd := fun Hc => Hc p = some (.frz od (.dK kws)) ∧ Q (.ref L) (upd Hc p (.dK kws))) hf ho (walkD_k upd_same) (he.mono eL) sL hL hl fun ρ' H' vs e' s' r' => ?_
    have ep : H' p = some (.frz od (.dK kws)) := e'.frz p od _ (by rw [upd_ne (ne_of_none upd_same hL)]; exact upd_same)
    refine ⟨ep, ?_⟩
    have hLp : p ≠ L := ne_of_none upd_same hL
    have hH1 : H L = none := by rw [upd_ne (Ne.symm hLp)] at hL; exact hL
    have ec : upd (upd H p (.frz od (.dK kws))) L (.lst []) = upd (upd H L (.lst [])) p (.frz od (.dK kws)) := upd_comm hLp
    rw [ec] at e'
    have e2 : Ext (N.at ((L, .lst vs) :: pv)) ρ (upd H L (.lst [])) ρ' (upd H' p (.dK kws)) := Ext.unlock hm (by rw [upd_ne hLp]; exact hH) (fun ps z => by cases z) (fun od v z => by cases z) rfl e'
    have gp : ρ'[a]? = some p := e'.get hp
    obtain ⟨kws', hw, rk⟩ := s'.obs a _ p hS6 gp
    have hkk : kws' = kws := by
      obtain ⟨od', hw⟩ := hw
      rw [ep] at hw
      cases hw; rfl
    subst hkk
    have s2 : Sim K (N.at ((L, .lst vs) :: pv)) ρ' (S6.set a (.dct kvs false)) (upd H' p (.dK kws')) := s'.unlock gp ep rk
    have hm' : p ∈ ρ' := List.mem_of_getElem? gp
    refine lst_end (N := N) (sm.fresh hH1).2 (sm.fresh hH1).1 hH1 hn hq e2 s2 (r'.heap fun q o e _ n => ?_)
    rw [upd_ne (fun z => n.1 (by rw [z]; exact hm'))]; exact e
  · cases hv
end Sa
set_option maxHeartbeats 1000000
/-! Dict comprehensions; two clauses. -/
namespace Sa
open PySem L2
variable {K : PySem.W.Frag} {N N' : Nm} {P : Prog} {ρ ρ' ρ1 : List Addr} {H H' H1 : Hp} {S S' S1 : Sto} {X : Cx} {E : XK} {C : Rt} {ck : Ck} {ds : List D} {p : Addr} {J : L2.It} {σ : L2.St} {env : Env}
def turnD (C : Rt) (own : List Nat) (t : Sa.Tg) (k v : Sa.E) (env : Env) (x : D) (S2 : Sto) : R (Option D) := (evTg C t x (wipeE env own) S2).bind fun env' S3 => (evE C k env' S3).bind fun y S4 => (evE C v env' S4).bind fun z S5 =>
      if isKey y then .ok (some (.tup [y, z])) S5 else .bad
theorem put_len (kvs : List (D × D)) (k v : D) : (put kvs k v).length ≤ kvs.length + 1 := by
  unfold put
  split <;> simp
theorem pairsOf_snoc (acc : List D) (k v : D) : pairsOf (acc ++ [.tup [k, v]]) = put (pairsOf acc) k v := by
  unfold pairsOf
  rw [List.foldl_append]; rfl
theorem putP_len (m : List (D × D)) (d : D) : (putP m d).length ≤ m.length + 1 := by
  unfold putP
  split
  · exact put_len _ _ _
  · omega
theorem pairsOf_len' : ∀ (acc : List D) (m : List (D × D)), (acc.foldl putP m).length ≤ m.length + acc.length
  | [], m => by simp
  | x :: r, m => by
    rw [List.foldl_cons]
    refine Nat.le_trans (pairsOf_len' r _) ?_
    have := putP_len m x
    simp only [List.length_cons]
    omega
theorem pairsOf_len (acc : List D) : (pairsOf acc).length ≤ acc.length := by
  have := pairsOf_len' acc []
  simpa [pairsOf] using this
theorem RepKv.pvc {L : Addr} {o o' : HO} {x : List (D × D)} {v : List (Key × V)} (h : RepKv K (N.hide L o) ρ H x v) : RepKv K (N.hide L o') ρ H x v := ⟨h.1, Reps.pvc h.2⟩
theorem RepKv.mono {x : List (D × D)} {v : List (Key × V)} (e : Ext N ρ H ρ' H') (h : RepKv K N ρ H x v) : RepKv K N ρ' H' x v := ⟨h.1, h.2.mono e⟩
theorem dc_run {own : List Nat} {t : Sa.Tg} {k v : Sa.E} {L : Addr} {Qd : Hp → Prop} {pv : List (Addr × HO)} (ho : ∀ i ∈ t.slots, i ∈ own)
    (hJ : WalkD K (N.at pv) ρ1 H1 ck J ds) (he : EnvR K (N.at pv) ρ1 H1 env σ) (sm : Sim K (N.at pv) ρ1 S1 H1) (hL : H1 L = none)
    {ys : List D} {S6 : Sto} (hl : loopC ck (turnD C own t k v env) ds [] S1 = .ok ys S6)
    (hd : ∀ ρ' H' vs, Ext (N.at ((L, .dK vs) :: pv)) ρ1 (upd H1 L (.dK [])) ρ' H' → Sim K (N.at ((L, .dK vs) :: pv)) ρ' S6 H' → RepKv K (N.at ((L, .dK vs) :: pv)) ρ' H' (pairsOf ys) vs → Qd H') :
    ∃ W : Nat → Nat → Hp → Prop, (∃ m, W 0 m (upd H1 L (.dK []))) ∧ ∀ i m H, W i m H →
      (J.stop i H ∧ Qd H) ∨ (J.go i H ∧ ∃ Nx : Hp → Prop, (∀ H', Nx H' → ∃ m', m' < m ∧ W (i + 1) m' H') ∧ ∀ x H', J.yld i H x H' → tG K N C E0 t x (L2.wipe σ own) H' fun σ2 H2 => L2.wipe σ2 own = L2.wipe σ own ∧ tYes σ2 H2 fun b H3 =>
        if b = true then tE K N C E0 k σ2 H3 fun y H4 => tE K N C E0 v σ2 H4 fun z H5 => ∃ kvs k, y = kV k ∧ H5 L = some (.dK kvs) ∧ kvs.length < sizeLine ∧ Nx (upd H5 L (.dK (putK kvs k z))) else Nx H3) := by
  have hpv : L ∉ (N.at pv).pv.map Prod.fst := (sm.fresh hL).2
  have e0 : Ext (N.at ((L, .dK []) :: pv)) ρ1 H1 ρ1 (upd H1 L (.dK [])) := Ext.junk hL (sm.fresh hL).1
  have hsub : ∀ o, Sub (N.at pv) (N.at ((L, o) :: pv)) H1 := fun o => Sub.hide (N := N.at pv) hL
  let W : Nat → Nat → Hp → Prop := fun i m Hc => m = ds.length - i ∧ i ≤ ds.length ∧ ∃ ρc Sc acc vs, Ext (N.at ((L, .dK vs) :: pv)) ρ1 (upd H1 L (.dK [])) ρc Hc ∧ Sim K (N.at ((L, .dK vs) :: pv)) ρc Sc Hc ∧ RepKv K (N.at ((L, .dK vs) :: pv)) ρc Hc (pairsOf acc) vs ∧
    loopC ck (turnD C own t k v env) (ds.drop i) acc Sc = .ok ys S6
  refine ⟨W, ⟨ds.length, ?_⟩, fun i m Hc ⟨hm, hi, ρc, Sc, acc, vs, ex, sc, ra, lp⟩ => ?_⟩
  · exact ⟨by simp, Nat.zero_le _, ρ1, S1, [], [], Ext.refl, Sim.hide (N := N.at pv) sm hL (fun ps z => by cases z), ⟨rfl, rfl⟩, by simpa using hl⟩
  have ex1 : Ext (N.at ((L, .dK vs) :: pv)) ρ1 H1 ρc Hc := Ext.trans (Ext.pvc (N := N.at pv) (o := .dK []) e0) ex
  by_cases hlt : i < ds.length
  · rw [List.drop_eq_getElem_cons hlt] at lp
    obtain ⟨hk, hc⟩ := loop_cons lp
    obtain ⟨w1, w2, w3⟩ := hJ _ ρc Sc Hc (hsub _) ex1 sc hk
    refine .inr ⟨w1 i hlt, W (i + 1) (ds.length - (i + 1)), fun H' hW => ⟨_, by omega, hW⟩, fun x H' y => ?_⟩
    obtain ⟨z1, z2, d, z3, z4⟩ := w3 i x H' hlt y
    have hd' : d = ds[i] := by rw [List.getElem?_eq_getElem hlt] at z3; exact (Option.some.inj z3).symm
    subst hd'
    have he2 : EnvR K (N.at ((L, .dK vs) :: pv)) ρ1 H1 env σ := ⟨he.1, fun j dj g => let ⟨v, a, b⟩ := he.2 j dj g; ⟨v, a, b.sub (hsub _)⟩⟩
    have he3 : EnvR K (N.at ((L, .dK vs) :: pv)) ρc H' (wipeE env own) (L2.wipe σ own) := ((he2.mono ex1).mono z1).wipe own
    have hwip : ∀ {σ2 : L2.St}, (∀ vs : List Nat, (∀ i ∈ t.slots, i ∈ vs) → L2.wipe σ2 vs = L2.wipe (L2.wipe σ own) vs) → L2.wipe σ2 own = L2.wipe σ own := fun {σ2} h => by
      rw [h own ho]
      exact wipe_wipe σ own
    obtain ⟨o, S', ht, hn⟩ : ∃ o S', turnD C own t k v env ds[i] Sc = .ok o S' ∧ match o with
      | none => loopC ck (turnD C own t k v env) (ds.drop (i + 1)) acc S' = .ok ys S6
      | some u => acc.length < big ∧ loopC ck (turnD C own t k v env) (ds.drop (i + 1)) (acc ++ [u]) S' = .ok ys S6 := by
      rcases hc with ⟨S', h1, h2⟩ | ⟨v, S', h1, h2, h3⟩
      · exact ⟨none, S', h1, h2⟩
      · exact ⟨some v, S', h1, h2, h3⟩
    unfold turnD at ht
    obtain ⟨env', S3, h1, ht⟩ := R.bind_ok_inv ht
    obtain ⟨a, S4, h2, ht⟩ := R.bind_ok_inv ht
    obtain ⟨b, S5, h3, ht⟩ := R.bind_ok_inv ht
    obtain ⟨hky, ht⟩ := if_inv ht
    cases ht
    obtain ⟨hb, l4⟩ := hn
    refine ⟨_, ρc, Sc, _, _, he3, z2, z4, ?_⟩
    rw [h1]
    intro ρ2 H2 σ2 e2 s2 ⟨en2, sl2⟩
    refine ⟨hwip sl2, ?_⟩
    simp only [tYes, if_true]
    refine ⟨_, ρ2, S3, env', en2, s2, ?_⟩
    rw [h2]
    intro ρ3 H3 u e3 s3 r3
    refine ⟨_, ρ3, S4, env', en2.mono e3, s3, ?_⟩
    rw [h3]
    intro ρ4 H4 z e4 s4 r4
    obtain ⟨k', rfl, rfl⟩ := isKey_at hky r3
    have hL4 := s4.pv (L, .dK vs) List.mem_cons_self
    have ra4 := ((ra.mono z1).mono e2).mono (e3.trans e4)
    have eW : Ext (N.at ((L, .dK vs) :: pv)) ρ4 H4 ρ4 (upd H4 L (.dK (putK vs k' z))) := Ext.pvw hL4.1 (by simp) (fun ps z => by cases z) (fun od u z => by rw [hL4.2.1] at z; cases z)
    have rp := put_at k' ra4 r4
    refine ⟨vs, k', rfl, hL4.2.1, ?_, rfl, hlt, ρ4, S', acc ++ [.tup [keyD k', b]], putK vs k' z, ?_, ?_, ?_, l4⟩
    · rw [RepKv.length ra]
      exact Nat.lt_of_le_of_lt (pairsOf_len acc) (Nat.lt_trans hb big_line)
    · exact Ext.pvc (N := N.at pv) (o := .dK vs) (((((ex.trans z1).trans e2).trans e3).trans e4).trans eW)
    · exact Sim.pvw (N := N.at pv) hpv s4 (fun ps z => by cases z) (fun od u z => by cases z) (fun φ z => by cases z) (fun ps z => by cases z)
    · rw [pairsOf_snoc]
      exact RepKv.pvc (N := N.at pv) (o := .dK vs) (rp.mono eW)
  · have hi' : i = ds.length := by omega
    subst hi'
    rw [List.drop_length] at lp
    obtain ⟨hk, rfl, rfl⟩ := loop_nil lp
    obtain ⟨w1, w2, w3⟩ := hJ _ ρc Sc Hc (hsub _) ex1 sc hk
    exact .inl ⟨w2, hd ρc Hc vs ex sc ra⟩
theorem newD_calm {al : Bool} {xs : List (D × D)} {S : Sto} {e : D} {T : Sto} (h : newD al xs S = .err e T) : False := by
  unfold Sa.newD at h
  split at h
  · cases al <;> cases h
  · cases h
theorem dct_end {al : Bool} {kvs : List (D × D)} {ws : List (Key × V)} {S6 T : Sto} {d : D} {L : Addr} {pv : List (Addr × HO)} {Q : VK} (hpv : L ∉ pv.map Prod.fst) (hn : L ∉ ρ1) (hL : H1 L = none) (hv : newD al kvs S6 = .ok d T)
    (h : ∀ ρ' H' v, Ext (N.at pv) ρ1 H1 ρ' H' → Sim K (N.at pv) ρ' T H' → Rep K (N.at pv) ρ' H' d v → Q v H')
    (e : Ext (N.at ((L, .dK ws) :: pv)) ρ1 (upd H1 L (.dK [])) ρ' H') (s : Sim K (N.at ((L, .dK ws) :: pv)) ρ' S6 H') (r : RepKv K (N.at ((L, .dK ws) :: pv)) ρ' H' kvs ws) : Q (.ref L) H' := by
  have hL4 := s.pv (L, .dK ws) List.mem_cons_self
  unfold Sa.newD at hv
  split at hv
  · cases al with
    | true =>
      simp only [if_true] at hv
      cases hv
      have s' : Sim K (N.at pv) (ρ' ++ [L]) (S6 ++ [.dct kvs false]) H' := Sim.adopt (N := N.at pv) hpv s ⟨ws, by simpa using hL4.2.1, r⟩
      refine h _ H' _ (Ext.adopt (N := N.at pv) e hL hn) s' ⟨L, rfl, ?_⟩
      rw [← s.len]; simp
    | false =>
      simp only [Bool.false_eq_true, if_false] at hv
      cases hv
      exact h _ H' _ (Ext.unhide (N := N.at pv) e hL hn) (Sim.unhide (N := N.at pv) s) ⟨L, ws, rfl, .inl hL4.2.1, ⟨hL4.1, hpv⟩, r.1, Reps.unhide (N := N.at pv) r.2⟩
  · cases hv
theorem dcomp_at {al : Bool} {own : List Nat} {t : Sa.Tg} {it : Sa.It} {k v : Sa.E} {Q : VK} (ho : ∀ i ∈ t.slots, i ∈ own) (hk : noKeys it = true) (h : tE K N C E (.dcomp al own t it k v) σ H Q) :
    tDc (tI K N C E it) (tG K N C E0 t) tYes (tE K N C E0 k) (tE K N C E0 v) own σ H Q := by
  obtain ⟨pv, ρ, S, env, he, sm, h⟩ := h
  simp only [evE] at h
  refine ⟨pv, ρ, S, env, he, sm, Out.bind h fun p S1 ρ1 H1 J hi e1 s1 hJ h1 => fun L hL => ?_⟩
  obtain ⟨hlk, hfr⟩ := noLock hk hi
  rw [hlk] at h1
  have h1 : Out K (N.at pv) (RepV K (N.at pv)) E ρ1 H1 ((loopC p.2 (turnD C own t k v env) p.1 [] S1).bind fun ys S6 => newD al (pairsOf ys) (p.2.free S6)) Q := h1
  clear h
  have hb : ∃ ys S6 d T, loopC p.2 (turnD C own t k v env) p.1 [] S1 = .ok ys S6 ∧ newD al (pairsOf ys) S6 = .ok d T ∧ ∀ ρ' H' v, Ext (N.at pv) ρ1 H1 ρ' H' → Sim K (N.at pv) ρ' T H' → Rep K (N.at pv) ρ' H' d v → Q v H' := by
    cases hl : loopC p.2 (turnD C own t k v env) p.1 [] S1 with
    | err x T => exact absurd hl (loopC_calm _ _ _ _ _)
    | bad => rw [hl] at h1; exact h1.elim
    | ok ys S6 =>
      rw [hl, R.bind_ok, hfr] at h1
      cases hn : Sa.newD al (pairsOf ys) S6 with
      | ok d T => rw [hn] at h1; exact ⟨ys, S6, d, T, rfl, hn, h1⟩
      | err x T => exact (newD_calm hn).elim
      | bad => rw [hn] at h1; exact h1.elim
  obtain ⟨ys, S6, d, T, hl, hn, hq⟩ := hb
  exact dc_run (Qd := Q (.ref L)) ho hJ (he.mono e1) s1 hL hl fun ρ' H' vs e' s' r' => dct_end (N := N) (s1.fresh hL).2 (s1.fresh hL).1 hL hn hq e' s' r'
end Sa
set_option maxHeartbeats 1000000
/-! Statements. -/
namespace Sa
open PySem L2
variable {K : PySem.W.Frag} {N N' : Nm} {P : Prog} {ρ ρ' ρ1 : List Addr} {H H' H1 : Hp} {S S' S1 : Sto} {X : Cx} {E : XK} {C : Rt} {ck : Ck} {ds : List D} {p : Addr} {J : L2.It} {σ : L2.St} {env : Env} {D₀ : Ends}
inductive FV where
  | nx | rt (v : V) | bk | ct
def RepF (K : PySem.W.Frag) (N : Nm) (ρ : List Addr) (H : Hp) : Fl → FV → Prop
  | .nx, .nx => True
  | .rt d, .rt v => Rep K N ρ H d v
  | .bk, .bk => True
  | .ct, .ct => True
  | _, _ => False
abbrev RepFE (K : PySem.W.Frag) (N : Nm) : List Addr → Hp → Fl × Env → FV × L2.St → Prop := fun ρ H p q => RepF K N ρ H p.1 q.1 ∧ EnvR K N ρ H p.2 q.2
/-- what is wanted behind a statement -/
def endsQ (D₀ : Ends) (q : FV × L2.St) (H : Hp) : Prop := match q.1 with
  | .nx => D₀.nx q.2 H
  | .rt v => D₀.rt v H
  | .bk => D₀.bk q.2 H
  | .ct => D₀.ct q.2 H
def tS (K : PySem.W.Frag) (N : Nm) (C : Rt) (E : XK) (c : Sa.Sm) : TS := fun D₀ σ H => ∃ pv ρ S env, EnvR K (N.at pv) ρ H env σ ∧ Sim K (N.at pv) ρ S H ∧ Out K (N.at pv) (RepFE K (N.at pv)) E ρ H (evS C c env S) (endsQ D₀)
def tSs (K : PySem.W.Frag) (N : Nm) (C : Rt) (E : XK) (c : Sa.Sms) : TS := fun D₀ σ H => ∃ pv ρ S env, EnvR K (N.at pv) ρ H env σ ∧ Sim K (N.at pv) ρ S H ∧ Out K (N.at pv) (RepFE K (N.at pv)) E ρ H (evSs C c env S) (endsQ D₀)
theorem ps_imp {e : Stmt} {t t' : TS} (h : PS X e t) (f : ∀ D σ H, t' D σ H → t D σ H) : PS X e t' := ⟨fun pins s σ H D I q => h.run pins s σ H D I (f D σ H q)⟩
theorem pss_imp {e : List Stmt} {t t' : TS} (h : PSs X e t) (f : ∀ D σ H, t' D σ H → t D σ H) : PSs X e t' := ⟨fun pins s σ H D I q => h.run pins s σ H D I (f D σ H q)⟩
theorem nx_at {S : Sto} (h : Out K N (RepFE K N) E ρ H (.ok (.nx, env) S) (endsQ D₀)) (s : Sim K N ρ S H) (he : EnvR K N ρ H env σ) : D₀.nx σ H := h ρ H (.nx, σ) Ext.refl s ⟨trivial, he⟩
theorem s_pass {pos : Pos} : PS X (.Pass pos) (tS X.K N C E .pass) := ps_imp ps_pass fun D σ H ⟨pv, ρ, S, env, he, sm, h⟩ => by
  simp only [evS] at h
  exact nx_at h sm he
theorem s_brk {pos : Pos} : PS X (.Break pos) (tS X.K N C E .brk) := ps_imp ps_break fun D σ H ⟨pv, ρ, S, env, he, sm, h⟩ => by
  simp only [evS] at h
  exact h ρ H (.bk, σ) Ext.refl sm ⟨trivial, he⟩
theorem s_cnt {pos : Pos} : PS X (.Continue pos) (tS X.K N C E .cnt) := ps_imp ps_continue fun D σ H ⟨pv, ρ, S, env, he, sm, h⟩ => by
  simp only [evS] at h
  exact h ρ H (.ct, σ) Ext.refl sm ⟨trivial, he⟩
theorem s_retN {pos : Pos} : PS X (.Return none pos) (tS X.K N C E .retN) := ps_imp ps_retN fun D σ H ⟨pv, ρ, S, env, he, sm, h⟩ => by
  simp only [evS] at h
  exact h ρ H (.rt .non, σ) Ext.refl sm ⟨rfl, he⟩
theorem s_ret {e : Sa.E} {x : Expr} {pos : Pos} (h : PE X x (tE X.K N C E e)) : PS X (.Return (some x) pos) (tS X.K N C E (.ret e)) := ps_imp (ps_ret h) fun D σ H ⟨pv, ρ, S, env, he, sm, h⟩ => by
  simp only [evS] at h
  exact ⟨pv, ρ, S, env, he, sm, Out.bind h fun d S1 ρ1 H1 v _ e1 s1 r1 h1 => h1 ρ1 H1 (.rt v, σ) Ext.refl s1 ⟨r1, he.mono e1⟩⟩
theorem s_expr {e : Sa.E} {x : Expr} {pos : Pos} (h : PE X x (tE X.K N C E e)) (hs : swapsWith x none pos.line X.env = pure false) : PS X (.Expr x pos) (tS X.K N C E (.expr e)) := ps_imp (ps_expr h hs) fun D σ H ⟨pv, ρ, S, env, he, sm, h⟩ => by
  simp only [evS] at h
  exact ⟨pv, ρ, S, env, he, sm, Out.bind h fun d S1 ρ1 H1 v _ e1 s1 r1 h1 => nx_at h1 s1 (he.mono e1)⟩
theorem s_nil : PSs X [] (tSs X.K N C E .nil) := pss_imp pss_nil fun D σ H ⟨pv, ρ, S, env, he, sm, h⟩ => by
  simp only [evSs] at h
  exact nx_at h sm he
theorem s_cons {s : Sa.Sm} {r : Sa.Sms} {x : Stmt} {xs : List Stmt} (h1 : PS X x (tS X.K N C E s)) (h2 : PSs X xs (tSs X.K N C E r)) : PSs X (x :: xs) (tSs X.K N C E (.cons s r)) := pss_imp (pss_cons h1 h2) fun D σ H ⟨pv, ρ, S, env, he, sm, h⟩ => by
  simp only [evSs] at h
  refine ⟨pv, ρ, S, env, he, sm, Out.bind h fun q S1 ρ1 H1 fv _ e1 s1 r1 h1 => ?_⟩
  obtain ⟨fl, env1⟩ := q
  obtain ⟨fw, σ1⟩ := fv
  obtain ⟨r1, r2⟩ := r1
  cases fl with
  | nx =>
    cases fw <;> first | exact r1.elim | skip
    exact ⟨pv, ρ1, S1, env1, r2, s1, h1⟩
  | rt d =>
    cases fw <;> first | exact r1.elim | skip
    exact h1 ρ1 H1 (.rt _, σ1) Ext.refl s1 ⟨r1, r2⟩
  | bk =>
    cases fw <;> first | exact r1.elim | skip
    exact h1 ρ1 H1 (.bk, σ1) Ext.refl s1 ⟨r1, r2⟩
  | ct =>
    cases fw <;> first | exact r1.elim | skip
    exact h1 ρ1 H1 (.ct, σ1) Ext.refl s1 ⟨r1, r2⟩
theorem asg_at {t : Sa.Tg} {e : Sa.E} (h : tS K N C E (.asg t e) D₀ σ H) : tAsg (tE K N C E e) (tG K N C E t) D₀ σ H := by
  obtain ⟨pv, ρ, S, env, he, sm, h⟩ := h
  simp only [evS] at h
  refine ⟨pv, ρ, S, env, he, sm, Out.bind h fun d S1 ρ1 H1 v _ e1 s1 r1 h1 => ?_⟩
  exact ⟨pv, ρ1, S1, env, d, he.mono e1, s1, r1, Out.bind h1 fun env' S2 ρ2 H2 σ' _ e2 s2 r2 h2 => nx_at h2 s2 r2.1⟩
theorem s_asg {t : Sa.Tg} {e : Sa.E} {tg x : Expr} {pos : Pos} (h : PE X x (tE X.K N C E e)) (hg : PG X tg (tG X.K N C E t)) (hs : swapsWithSole [tg] x pos.line X.env = pure false) (hw : swappedStores [tg] x X.env = pure none)
    (h1 : (assignEach [tg] X.env).map (·.2) = [assign tg X.env]) : PS X (.Assign [tg] x pos) (tS X.K N C E (.asg t e)) := ps_imp (ps_asg h hg hs hw h1) fun D σ H => asg_at
/-- name = value: the reading -/
theorem set_at {i : Nat} {e : Sa.E} (h : tS K N C E (.asg (.nm i) e) D₀ σ H) : tAsg (tE K N C E e) (gName i) D₀ σ H := by
  obtain ⟨pv, ρ, S, env, he, sm, h⟩ := h
  simp only [evS] at h
  refine ⟨pv, ρ, S, env, he, sm, Out.bind h fun d S1 ρ1 H1 v _ e1 s1 r1 h1 => ?_⟩
  simp only [evTg, R.bind_ok] at h1
  exact nx_at h1 s1 ((he.mono e1).set r1)
theorem s_set {i : Nat} {e : Sa.E} {x : Expr} {z : Str} {pos pos' : Pos} (hN : X.N.Nodup) (hi : X.N[i]? = some z) (hx : Loc X.env.scope z) (h : PE X x (tE X.K N C E e)) (hs : swapsWith x (some (.Name z pos')) pos.line X.env = pure false) (hf : X.fn z = true ∨ X.env.scope.names.lookup z = some .local) :
    PS X (.Assign [.Name z pos'] x pos) (tS X.K N C E (.asg (.nm i) e)) := ps_imp (ps_set hN hi hx h hs hf) fun D σ H => set_at
/-- a, b = x, y, two locals -/
theorem s_par {i j : Nat} {a b : Sa.E} {xa xb : Expr} {x y : Str} {px py pt pos : Pos} {kt k2 : Nat} {pt2 : Pos} (hc : X.calm = true) (hN : X.N.Nodup) (hi : X.N[i]? = some x) (hj : X.N[j]? = some y) (hij : i ≠ j)
    (hx : X.env.scope.names.lookup x = some .local) (hy : X.env.scope.names.lookup y = some .local) (ha : PA X [xa, xb] (tEs X.K N C E (.cons a (.cons b .nil))))
    (hw : swappedStores [.Tuple [.Name x px, .Name y py] kt pt] (.Tuple [xa, xb] k2 pt2) X.env = pure (some [x, y]))
    (hs : swapsWithSole [.Tuple [.Name x px, .Name y py] kt pt] (.Tuple [xa, xb] k2 pt2) pos.line X.env = pure false) :
    PS X (.Assign [.Tuple [.Name x px, .Name y py] kt pt] (.Tuple [xa, xb] k2 pt2) pos) (tS X.K N C E (.asg (.tp (.cons (.nm i) (.cons (.nm j) .nil))) (.tup (.cons a (.cons b .nil))))) := by
  refine ps_imp (ps_par hc hN hi hj hij hx hy ha hw hs) fun D σ H h => ?_
  obtain ⟨pv, ρ, S, env, he, sm, h⟩ := h
  have h : Out X.K (N.at pv) (RepFE X.K (N.at pv)) E ρ H (((evEs C (.cons a (.cons b .nil)) env S).bind fun ds S' => .ok (Sa.D.tup ds) S').bind fun d S1 => (evTg C (.tp (.cons (.nm i) (.cons (.nm j) .nil))) d env S1).bind fun env' S2 => .ok (.nx, env') S2) (endsQ D) := by
    simpa only [evS, evE] using h
  rw [R.bind_assoc] at h
  refine ⟨pv, ρ, S, env, he, sm, Out.bind h fun ds S1 ρ1 H1 vs _ e1 s1 r1 h1 => ?_⟩
  rcases ds with _ | ⟨d1, _ | ⟨d2, _ | ⟨d3, r⟩⟩⟩
  · simp [evTg, Tgs.len] at h1; exact h1.elim
  · simp [evTg, Tgs.len] at h1; exact h1.elim
  · obtain ⟨v, w, rfl, q1, u, w', rfl, q2, rfl⟩ := r1
    simp [evTg, Tgs.len, evTgs] at h1
    exact ⟨v, u, rfl, nx_at h1 s1 (((he.mono e1).set q1).set q2)⟩
  · simp [evTg, Tgs.len] at h1; exact h1.elim
theorem s_if {c : Sa.E} {a b : Sa.Sms} {x : Expr} {xa xb : List Stmt} {pos : Pos} (hc : PT X x (tTest (tE X.K N C E c))) (ha : PSs X xa (tSs X.K N C E a)) (hb : PSs X xb (tSs X.K N C E b)) : PS X (.If x xa xb pos) (tS X.K N C E (.ite c a b)) := by
  refine ps_imp (ps_if hc ha hb) fun D σ H ⟨pv, ρ, S, env, he, sm, h⟩ => ?_
  simp only [evS] at h
  refine ⟨pv, ρ, S, env, he, sm, Out.bind h fun d S1 ρ1 H1 v _ e1 s1 r1 h1 => ?_⟩
  split at h1
  · exact ⟨true, r1, L2.iteT ⟨pv, ρ1, S1, env, he.mono e1, s1, h1⟩⟩
  · exact ⟨false, r1, L2.iteF ⟨pv, ρ1, S1, env, he.mono e1, s1, h1⟩⟩
  · exact h1.elim
theorem putF_at {f : Nat} {d : D} {v : V} (hnd : ∀ f g, N.fl f = N.fl g → f = g) : ∀ {fs : List (Nat × D)} {us : List (Str × V)}, RepFs K N ρ H fs us → Rep K N ρ H d v → RepFs K N ρ H (putFd f d fs) (putF (N.fl f) v us)
  | [], us, h, r => by
    have : us = [] := by simpa using h.1
    subst this
    exact ⟨rfl, v, [], rfl, r, rfl⟩
  | (g, w) :: fs, us, h, r => by
    obtain ⟨h1, u, ws, hu, q, qs⟩ := h
    cases us with
    | nil => cases hu
    | cons x us =>
      obtain ⟨k, x⟩ := x
      simp at h1 hu
      obtain ⟨rfl, h1⟩ := h1
      obtain ⟨rfl, rfl⟩ := hu
      by_cases hg : g = f
      · subst hg
        simp only [putFd, putF, if_true]
        exact ⟨by simp [h1], v, _, rfl, r, qs⟩
      · have hg' : N.fl g ≠ N.fl f := fun e => hg (hnd _ _ e)
        simp only [putFd, putF, if_neg hg, if_neg hg']
        obtain ⟨z1, z2⟩ := putF_at (f := f) hnd (fs := fs) (us := us) ⟨h1, qs⟩ r
        exact ⟨by simp [z1], _, _, rfl, q, z2⟩
theorem s_fld {f : Nat} {o e : Sa.E} {x y : Expr} {z : Str} {pos pos' : Pos} (hz : z = N.fl f) (ho : PE X x (tE X.K N C E o)) (hv : PE X y (tE X.K N C E e)) (hs : swapsWith y (some (.Attribute x z pos')) pos.line X.env = pure false)
    (hc : ∀ (c : Nat) (cl : Cl), C.P.cls[c]? = some cl → cl.flds.contains f = true → Cls X.K (N.cA c) ∧ NoAttr X.K (N.cA c) (N.fl f)) (hnd : ∀ f g, N.fl f = N.fl g → f = g) :
    PS X (.Assign [.Attribute x z pos'] y pos) (tS X.K N C E (.asg (.fld f o) e)) := by
  subst hz
  refine ps_imp (ps_fld ho hv hs) fun D σ H ⟨pv, ρ, S, env, he, sm, h⟩ => ?_
  simp only [evS, evTg] at h
  refine ⟨pv, ρ, S, env, he, sm, Out.bind h fun d S1 ρ1 H1 v _ e1 s1 r1 h1 => ?_⟩
  rw [R.bind_assoc] at h1
  refine ⟨pv, ρ1, S1, env, he.mono e1, s1, Out.bind h1 fun d2 S2 ρ2 H2 v2 ho2 e2 s2 r2 h2 => ?_⟩
  clear ho2
  split at h2
  · rename_i a
    obtain ⟨p, rfl, g⟩ := r2
    split at h2
    · rename_i c fs hS
      split at h2
      · rename_i cl hcl
        split at h2
        · rename_i hcond
          simp only [Bool.and_eq_true, decide_eq_true_eq] at hcond
          obtain ⟨dx, us, hp, q1, q2⟩ := s2.obs a _ p hS g
          obtain ⟨k1, k2⟩ := hc c cl hcl hcond.1
          have hlen : us.length = fs.length := by
            have := congrArg List.length q1
            simpa using this
          refine ⟨p, N.cA c, dx, us, rfl, hp, k1, k2, by omega, ?_⟩
          have hz : ∀ od u, H2 p ≠ some (.frz od u) := fun od u z => by rw [hp] at z; cases z
          have e3 : Ext (N.at pv) ρ2 H2 ρ2 (upd H2 p (.ins (N.cA c) dx (putF (N.fl f) v us))) := Ext.write (List.mem_of_getElem? g) (fun ps z => by cases z) hz (by rw [khoA_eq hp]; rfl)
          have rf : RepFs X.K (N.at pv) ρ2 H2 (putFd f d fs) (putF (N.fl f) v us) := putF_at (N := N.at pv) hnd ⟨q1, q2⟩ (r1.mono e2)
          have h3 := h2 ρ2 (upd H2 p (.ins (N.cA c) dx (putF (N.fl f) v us))) (.nx, σ) e3 (s2.write g hz (by rw [khoA_eq hp]; rfl) ⟨dx, _, upd_same, rf.1, rf.2.mono e3⟩) ⟨trivial, ((he.mono e1).mono e2).mono e3⟩
          exact h3
        · exact h2.elim
      · exact h2.elim
    · exact h2.elim
  · exact h2.elim
end Sa
set_option maxHeartbeats 1000000
/-! Loops, raise. -/
namespace Sa
open PySem L2
variable {K : PySem.W.Frag} {N N' : Nm} {P : Prog} {ρ ρ' ρ1 : List Addr} {H H' H1 : Hp} {S S' S1 : Sto} {X : Cx} {E : XK} {C : Rt} {ck : Ck} {ds : List D} {p : Addr} {J : L2.It} {σ : L2.St} {env : Env} {D₀ : Ends}
def bodyF (C : Rt) (t : Sa.Tg) (b : Sa.Sms) (x : D) (env1 : Env) (S2 : Sto) : R (Fl × Env) := (evTg C t x env1 S2).bind fun env2 S3 => evSs C b env2 S3
theorem EnvR.sub {env : Env} (s : Sub N N' H) (h : EnvR K N ρ H env σ) : EnvR K N' ρ H env σ := ⟨h.1, fun i d g => let ⟨v, a, b⟩ := h.2 i d g; ⟨v, a, b.sub s⟩⟩
theorem ends_map {Dn : Ends} {r : R (Fl × Env)} {k : Fl × Env → Sto → R (Fl × Env)} {nx : L2.St → Hp → Prop} (h : Out K N (RepFE K N) E ρ H (r.bind k) (endsQ D₀))
    (hnx : ∀ env S1 ρ1 H1 σ, Ext N ρ H ρ1 H1 → Sim K N ρ1 S1 H1 → EnvR K N ρ1 H1 env σ → Out K N (RepFE K N) E ρ1 H1 (k (.nx, env) S1) (endsQ D₀) → Dn.nx σ H1)
    (hct : ∀ env S1 ρ1 H1 σ, Ext N ρ H ρ1 H1 → Sim K N ρ1 S1 H1 → EnvR K N ρ1 H1 env σ → Out K N (RepFE K N) E ρ1 H1 (k (.ct, env) S1) (endsQ D₀) → Dn.ct σ H1)
    (hbk : ∀ env S1 ρ1 H1 σ, Ext N ρ H ρ1 H1 → Sim K N ρ1 S1 H1 → EnvR K N ρ1 H1 env σ → Out K N (RepFE K N) E ρ1 H1 (k (.bk, env) S1) (endsQ D₀) → Dn.bk σ H1)
    (hrt : ∀ d env S1 ρ1 H1 σ v, Ext N ρ H ρ1 H1 → Sim K N ρ1 S1 H1 → EnvR K N ρ1 H1 env σ → Rep K N ρ1 H1 d v → Out K N (RepFE K N) E ρ1 H1 (k (.rt d, env) S1) (endsQ D₀) → Dn.rt v H1) :
    Out K N (RepFE K N) E ρ H r (endsQ Dn) := by
  refine Out.bind h fun q S1 ρ1 H1 fv _ e1 s1 r1 h1 => ?_
  obtain ⟨fl, env1⟩ := q
  obtain ⟨fw, σ1⟩ := fv
  obtain ⟨r1, r2⟩ := r1
  cases fl with
  | nx =>
    cases fw <;> first | exact r1.elim | skip
    exact hnx _ _ _ _ _ e1 s1 r2 h1
  | rt d =>
    cases fw <;> first | exact r1.elim | skip
    exact hrt _ _ _ _ _ _ _ e1 s1 r2 r1 h1
  | bk =>
    cases fw <;> first | exact r1.elim | skip
    exact hbk _ _ _ _ _ e1 s1 r2 h1
  | ct =>
    cases fw <;> first | exact r1.elim | skip
    exact hct _ _ _ _ _ e1 s1 r2 h1
/-- behind a turn -/
def stepF (C : Rt) (ck : Ck) (t : Sa.Tg) (b : Sa.Sms) (r : List D) (p : Fl × Env) (S' : Sto) : R (Fl × Env) := match p.1 with
      | .nx => loopF ck (bodyF C t b) r p.2 S'
      | .ct => loopF ck (bodyF C t b) r p.2 S'
      | .bk => .ok (.nx, p.2) S'
      | .rt d => .ok (.rt d, p.2) S'
theorem for_run {t : Sa.Tg} {b : Sa.Sms} {pv : List (Addr × HO)} (hJ : WalkD K (N.at pv) ρ1 H1 ck J ds) (he : EnvR K (N.at pv) ρ1 H1 env σ) (sm : Sim K (N.at pv) ρ1 S1 H1)
    (hl : Out K (N.at pv) (RepFE K (N.at pv)) E ρ1 H1 (loopF ck (bodyF C t b) ds env S1) (endsQ D₀)) :
    ∃ W : Nat → Nat → L2.St → Hp → Prop, (∃ m, W 0 m σ H1) ∧ ∀ i m σ H, W i m σ H →
      (J.stop i H ∧ D₀.nx σ H) ∨ (J.go i H ∧ ∃ Nx : L2.St → Hp → Prop, (∀ σ' H', Nx σ' H' → ∃ m', m' < m ∧ W (i + 1) m' σ' H') ∧ ∀ x H', J.yld i H x H' → tG K N C E t x σ H' fun σ2 H2 => tSs K N C E b { D₀ with nx := Nx, ct := Nx, bk := D₀.nx } σ2 H2) := by
  let W : Nat → Nat → L2.St → Hp → Prop := fun i m σc Hc => m = ds.length - i ∧ i ≤ ds.length ∧ ∃ ρc Sc envc, Ext (N.at pv) ρ1 H1 ρc Hc ∧ Sim K (N.at pv) ρc Sc Hc ∧ EnvR K (N.at pv) ρc Hc envc σc ∧
    Out K (N.at pv) (RepFE K (N.at pv)) E ρc Hc (loopF ck (bodyF C t b) (ds.drop i) envc Sc) (endsQ D₀)
  refine ⟨W, ⟨ds.length, by simp, Nat.zero_le _, ρ1, S1, env, Ext.refl, sm, he, by simpa using hl⟩, fun i m σc Hc ⟨hm, hi, ρc, Sc, envc, ex, sc, ec, lp⟩ => ?_⟩
  by_cases hlt : i < ds.length
  · rw [List.drop_eq_getElem_cons hlt] at lp
    unfold loopF at lp
    split at lp
    rotate_left
    · exact lp.elim
    rename_i hk
    have lp : Out K (N.at pv) (RepFE K (N.at pv)) E ρc Hc ((bodyF C t b ds[i] envc Sc).bind (stepF C ck t b (ds.drop (i + 1)))) (endsQ D₀) := lp
    obtain ⟨w1, w2, w3⟩ := hJ (N.at pv) ρc Sc Hc Sub.refl ex sc hk
    refine .inr ⟨w1 i hlt, W (i + 1) (ds.length - (i + 1)), fun σ' H' hW => ⟨_, by omega, hW⟩, fun x H' y => ?_⟩
    obtain ⟨z1, z2, d, z3, z4⟩ := w3 i x H' hlt y
    have hd' : d = ds[i] := by rw [List.getElem?_eq_getElem hlt] at z3; exact (Option.some.inj z3).symm
    subst hd'
    unfold bodyF at lp
    rw [R.bind_assoc] at lp
    refine ⟨pv, ρc, Sc, envc, _, ec.mono z1, z2, z4, Out.bind (Out.ext z1 lp) fun env2 S3 ρ2 H2 σ2 _ e2 s2 r2 h2 => ?_⟩
    refine ⟨pv, ρ2, S3, env2, r2.1, s2, ?_⟩
    have ex2 := (ex.trans z1).trans e2
    have again : ∀ (env : Env) (S1 : Sto) (ρ3 : List Addr) (H3 : Hp) (σ : L2.St), Ext (N.at pv) ρ2 H2 ρ3 H3 → Sim K (N.at pv) ρ3 S1 H3 → EnvR K (N.at pv) ρ3 H3 env σ → Out K (N.at pv) (RepFE K (N.at pv)) E ρ3 H3 (loopF ck (bodyF C t b) (ds.drop (i + 1)) env S1) (endsQ D₀) → W (i + 1) (ds.length - (i + 1)) σ H3 :=
      fun env S1 ρ3 H3 σ e3 s3 r3 h3 => ⟨rfl, hlt, ρ3, S1, env, ex2.trans e3, s3, r3, h3⟩
    refine ends_map (nx := fun _ _ => True) h2 again again ?_ ?_
    · intro env S1 ρ3 H3 σ e3 s3 r3 h3
      exact nx_at (show Out K (N.at pv) (RepFE K (N.at pv)) E ρ3 H3 (.ok (.nx, env) S1) (endsQ D₀) from h3) s3 r3
    · intro d env S1 ρ3 H3 σ v e3 s3 r3 q3 h3
      exact (show Out K (N.at pv) (RepFE K (N.at pv)) E ρ3 H3 (.ok (.rt d, env) S1) (endsQ D₀) from h3) ρ3 H3 (.rt v, σ) Ext.refl s3 ⟨q3, r3⟩
  · have hi' : i = ds.length := by omega
    subst hi'
    rw [List.drop_length] at lp
    unfold loopF at lp
    split at lp
    · rename_i hk
      obtain ⟨w1, w2, w3⟩ := hJ (N.at pv) ρc Sc Hc Sub.refl ex sc hk
      exact .inl ⟨w2, nx_at lp sc ec⟩
    · exact lp.elim
theorem R.bind_id {α : Type} (r : R α) : (r.bind fun a S => .ok a S) = r := by cases r <;> rfl
theorem for_at {t : Sa.Tg} {it : Sa.It} {b : Sa.Sms} (hk : noKeys it = true) (h : tS K N C E (.forS t it b) D₀ σ H) : tFor (tI K N C E it) (tG K N C E t) (tSs K N C E b) D₀ σ H := by
  obtain ⟨pv, ρ, S, env, he, sm, h⟩ := h
  simp only [evS] at h
  refine ⟨pv, ρ, S, env, he, sm, Out.bind h fun p S1 ρ1 H1 J hi e1 s1 hJ h1 => ?_⟩
  obtain ⟨hlk, hfr⟩ := noLock hk hi
  rw [hlk] at h1
  have h1 : Out K (N.at pv) (RepFE K (N.at pv)) E ρ1 H1 ((loopF p.2 (bodyF C t b) p.1 env S1).bind fun q S3 => .ok q (p.2.free S3)) (endsQ D₀) := h1
  simp only [hfr] at h1
  rw [R.bind_id] at h1
  exact for_run hJ (he.mono e1) s1 h1
theorem s_for {t : Sa.Tg} {it : Sa.It} {b : Sa.Sms} {tg x : Expr} {xs : List Stmt} {pos : Pos} (hk : noKeys it = true) (hp : PassesOwn (model X.prog X.w) X.A X.env X.xe) (hc : X.calm = true) (hi : PI X tg x (tI X.K N C E it)) (hg : PG X tg (tG X.K N C E t)) (hb : PSs X xs (tSs X.K N C E b))
    (hs : ∀ y, foldedSetIterable x X.env y = pure y) : PS X (.For tg x xs [] pos) (tS X.K N C E (.forS t it b)) := ps_imp (ps_for hp hc hi hg hb hs) fun D σ H => for_at hk
/-- while: by the fuel -/
theorem s_while {c : Sa.E} {b : Sa.Sms} {x : Expr} {xs : List Stmt} {pos : Pos} (hp : PassesOwn (model X.prog X.w) X.A X.env X.xe) (hc : PT X x (tTest (tE X.K N C E c))) (hb : PSs X xs (tSs X.K N C E b)) : PS X (.While x xs [] pos) (tS X.K N C E (.whl c b)) := by
  refine ps_imp (ps_while hp hc hb) fun D₀ σ H ⟨pv, ρ, S, env, he, sm, h⟩ => ?_
  simp only [evS] at h
  let W : Nat → L2.St → Hp → Prop := fun m σc Hc => ∃ ρc Sc envc, Sim X.K (N.at pv) ρc Sc Hc ∧ EnvR X.K (N.at pv) ρc Hc envc σc ∧ Out X.K (N.at pv) (RepFE X.K (N.at pv)) E ρc Hc (loopW (evE C c) (evSs C b) m envc Sc) (endsQ D₀)
  refine ⟨W, ⟨C.W, ρ, S, env, sm, he, h⟩, fun m σc Hc ⟨ρc, Sc, envc, sc, ec, lp⟩ => ?_⟩
  cases m with
  | zero => unfold loopW at lp; exact lp.elim
  | succ m =>
    unfold loopW at lp
    refine ⟨pv, ρc, Sc, envc, ec, sc, Out.bind lp fun d S1 ρ1 H1 v ho e1 s1 r1 h1 => ?_⟩
    clear ho
    split at h1
    · refine ⟨true, r1, L2.iteT ⟨W m, fun σ' H' hW => ⟨m, Nat.lt_succ_self m, hW⟩, pv, ρ1, S1, envc, ec.mono e1, s1, ?_⟩⟩
      have again : ∀ (env : Env) (S1 : Sto) (ρ3 : List Addr) (H3 : Hp) (σ : L2.St), Ext (N.at pv) ρ1 H1 ρ3 H3 → Sim X.K (N.at pv) ρ3 S1 H3 → EnvR X.K (N.at pv) ρ3 H3 env σ → Out X.K (N.at pv) (RepFE X.K (N.at pv)) E ρ3 H3 (loopW (evE C c) (evSs C b) m env S1) (endsQ D₀) → W m σ H3 :=
        fun env S1 ρ3 H3 σ e3 s3 r3 h3 => ⟨ρ3, S1, env, s3, r3, h3⟩
      refine ends_map (nx := fun _ _ => True) h1 again again ?_ ?_
      · intro env S1 ρ3 H3 σ e3 s3 r3 h3
        exact nx_at (show Out X.K (N.at pv) (RepFE X.K (N.at pv)) E ρ3 H3 (.ok (.nx, env) S1) (endsQ D₀) from h3) s3 r3
      · intro d env S1 ρ3 H3 σ v e3 s3 r3 q3 h3
        exact (show Out X.K (N.at pv) (RepFE X.K (N.at pv)) E ρ3 H3 (.ok (.rt d, env) S1) (endsQ D₀) from h3) ρ3 H3 (.rt v, σ) Ext.refl s3 ⟨q3, r3⟩
    · exact ⟨false, r1, L2.iteF (nx_at h1 s1 (ec.mono e1))⟩
    · exact h1.elim
/-- raise X(..), X without fields of its own -/
theorem s_raise {c : Nat} {es : Sa.Es} {x : Expr} {pos : Pos} (hc : X.calm = true) (tk : L2.Takes X (fun cls d _ H => E cls d H)) (hl : es.len ≤ 1000) (hm : PMk X x (fun σ H Q => tEs X.K N C E es σ H fun vs H1 => vs.length ≤ sizeLine ∧ Q (.ref (N.cA c)) none H1)) :
    PS X (.Raise (some x) none pos) (tS X.K N C E (.raise c es)) := by
  refine ps_imp (ps_raise hc tk hm) fun D₀ σ H ⟨pv, ρ, S, env, he, sm, h⟩ => ?_
  simp only [evS] at h
  refine ⟨pv, ρ, S, env, he, sm, Out.bind h fun ds S1 ρ1 H1 vs ho e1 s1 r1 h1 => ?_⟩
  split at h1
  · split at h1
    · refine ⟨?_, h1 ρ1 H1 _ none Ext.refl s1 ⟨c, [], rfl, rfl, rfl⟩⟩
      rw [r1.length, evEs_len es env S ho, sizeLine_eq]; omega
    · exact h1.elim
  · exact h1.elim
end Sa
set_option maxHeartbeats 2000000
/-! An error that is caught and kept. -/
namespace Sa
open PySem PySem.Spec PyProof.Rows L2
section
variable {X : Cx} {pins : List (Addr × Obj)} {σ : L2.St} {H : Hp} {s : Shared} {a : Addr} {o : HO}
/-- a thing that was there is told from now on -/
theorem track (I : L2.Inv X pins σ H s) (na : H a = none) (n0 : X.s_0.heap.get? a = none) (nL : a ≠ X.env.locals) (nc : ∀ x c, X.env.cells.lookup x = some c → c ≠ a) (np : ∀ p ∈ X.pn ++ pins, p.1 ≠ a)
    (ok : ObjOk X.prog X.w (upd H a o) s.heap a o) : L2.Inv X pins σ (upd H a o) s := by
  refine ⟨I.ok, I.os, I.bare, ⟨I.base.keep, I.base.slot, fun b ob e n hx => ?_, I.base.there, fun b xs e => ?_, fun b ob u e => ?_, fun b ps e => ?_⟩, I.loc, I.cell, ?_, fun x c e => ?_, fun p hp => ?_, fun b u e => ?_, I.len⟩
  · rw [upd_ne (fun z => by rw [z, n0] at e; cases e)]
    exact I.base.free b ob e n hx
  · have z := I.base.tups b xs e
    rw [upd_ne (ne_of_none z na)]; exact z
  · have z := I.base.frzs b ob u e
    rw [upd_ne (ne_of_none z na)]; exact z
  · obtain ⟨more, z⟩ := I.base.tbls b ps e
    exact ⟨more, by rw [upd_ne (ne_of_none z na)]; exact z⟩
  · rw [upd_ne (Ne.symm nL)]; exact I.free
  · rw [upd_ne (nc x c e)]; exact I.freeC x c e
  · obtain ⟨h1, h2, h3⟩ := I.pin p hp
    exact ⟨h1, by rw [upd_ne (np p hp)]; exact h2, h3⟩
  · by_cases hb : b = a
    · subst hb
      rw [upd_same] at e
      cases e
      exact ok
    · rw [upd_ne hb] at e
      exact (I.hok b u e).stay (fun d v _ q => q) (fun d q => by rw [upd_ne (ne_of_none q na)]; exact q) fun d xs q => by rw [upd_ne (ne_of_none q na)]; exact q
/-- what 'except x as n: m = n' wishes of an error of the body: slot i is n's, slot j is m's -/
def wC (K : PySem.W.Frag) (c : Value) (i j : Nat) (Wout : WX) (D : Ends) : WX := fun cls d σ H =>
  ∃ b, PySem.W.exmOne K cls c = some b ∧ (b = true → ∀ a, H a = none → D.nx (((σ.set i (some (.ref a))).set j (some (.ref a))).set i none) (upd H a (ExV cls d a))) ∧ (b = false → Wout cls d σ H)
theorem ps_keep {x n m : Str} {c : Value} {i j : Nat} {body : List Stmt} {np ep mp ap pos pos' : Pos} {tb : WX → TS} {Wout : WX} (hs : X.stack = X.env :: X.outer) (hf : X.env.frame = some X.env.locals) (hex : X.ex = []) (hN : X.N.Nodup) (hi : X.N[i]? = some n) (hj : X.N[j]? = some m) (hij : i ≠ j)
    (hln : X.env.kindOf n = some .local) (hlm : X.env.kindOf m = some .local) (hdn : (n == ("__debug__" : Str)) = false) (hcn : (n == ("__classdict__" : Str)) = false) (hc : Names X x c) (tk : Takes X Wout)
    (hb : ∀ (W : WX) (pn : List (Addr × Obj)) (xe : Value → Shared → Prop), Takes (X.tr pn xe) W → PassesOwn (model X.prog X.w) X.A X.env xe → PSs (X.tr pn xe) body (tb W)) :
    PS X (.Try body [.ExceptHandler (some (.Name x np)) (some n) [.Assign [.Name m mp] (.Name n ep) ap] pos'] [] [] pos) (fun D σ H => tb (wC X.K c i j Wout D) D σ H) := by
  refine ⟨fun pins s σ H D I h => ?_⟩
  have ok := I.ok
  have hfr : X.A.frames = some (X.env :: X.outer) := by rw [ok.frames, hs]
  refine wpAny_Try_except ?_
  let K' : Value → Shared → Prop := fun e s₁ => wpAny (model X.prog X.w) X.A (noteFrame e X.env) (fun _ s₂ => wpAny (model X.prog X.w) X.A (setFlight e none) (fun _ s₃ =>
    wpAny (model X.prog X.w) X.A (handleBy e X.env [.ExceptHandler (some (.Name x np)) (some n) [.Assign [.Name m mp] (.Name n ep) ap] pos']) (SP X pins D) X.xe s₃) X.xe s₂) X.xe s₁
  have take : Takes (X.tr (X.pn ++ pins) K') (wC X.K c i j Wout D) := fun u s' xx => by
    obtain ⟨a, B, sI, pins', σ', H', cls, d, rfl, J', nb, up, sky, na, os, ag, b, hb1, hyes, hno⟩ := xx
    have J : L2.Inv X pins σ' H' sI := J'.ofTry ok
    rw [show (X.tr (X.pn ++ pins) K').stack = X.env :: X.outer from hs] at sky
    show wpAny (model X.prog X.w) X.A (noteFrame (.ref a) X.env) _ _ _
    refine Sky.land Zc.steady hfr hf sky fun h3 fl3 up3 => ?_
    have J3 : L2.Inv X pins σ' H' { s' with heap := h3 } := J.landed nb fl3.1 (up.trans up3) os ag
    obtain ⟨oe3, vs3, he3, hz3, hd3⟩ := fl3.there
    have gone : a ∉ frs (X.env :: X.outer) := fun hm => by
      obtain ⟨_, o', e', hnf⟩ := fl3.2.2.1.mem hm
      rw [he3] at e'; cases e'
      exact hnf _ hd3
    have new : B.get? a = none := fl3.2.1
    have nL : a ≠ X.env.locals := fun z => gone (List.mem_filterMap.mpr ⟨X.env, List.mem_cons_self, by rw [hf, z]⟩)
    have nF : a ∉ X.fs := fun hm => by
      obtain ⟨e, he, q⟩ := List.mem_filterMap.mp hm
      exact gone (List.mem_filterMap.mpr ⟨e, List.mem_cons_of_mem _ he, q⟩)
    have apart : ∀ o, sI.heap.get? a ≠ some o := fun o e => by
      have z := nb a o e (by rw [show (X.tr (X.pn ++ pins) K').stack = X.env :: X.outer from hs]; exact gone)
      rw [new] at z; cases z
    have n0 : X.s_0.heap.get? a = none := by
      cases e : X.s_0.heap.get? a with
      | none => rfl
      | some o =>
        obtain ⟨o', e'⟩ := J.base.there a o e (by rw [hex]; simp)
        exact absurd e' (apart o')
    have npin : ∀ p ∈ X.pn ++ pins, p.1 ≠ a := fun p hp z => apart p.2 (by rw [← z]; exact (J.pin p hp).1)
    have S3 := J3.suite he3 hd3 na nL nF
    refine wpAny_handleBy_cons (codeAny_handlers_test ?_) (by intro q; cases q)
    have LT : PySem.W.Looks (model X.prog X.w) h3 (typeOf (.ref a)) cls := fun A Q E s k q => wpAny_typeOf_ref (k _ _ he3) (by rw [hz3.1]; exact q)
    have LM := PySem.W.exm_one (M := model X.prog X.w) (J3.kIn) LT hb1
    have test : ∀ {Q : Value → Shared → Prop} {E : Value → Shared → Prop}, Q c { s' with heap := h3 } → wpAny (model X.prog X.w) (X.A.mark (some (.ref a))) (eval (.Name x np) X.env) Q E { s' with heap := h3 } := fun {Q E} q => by
      obtain ⟨hg, hdbg, hm | ⟨hm, hv, hnn⟩⟩ := hc
      · exact ld_glob (X := X.suite a ((a, oe3) :: (X.pn ++ pins))) S3 hg hm q hdbg
      · exact ld_blt (X := X.suite a ((a, oe3) :: (X.pn ++ pins))) S3 hg hm hv q hnn hdbg
    refine test (LM.here ?_)
    cases b with
    | true =>
      refine codeAny_handlers_suite_as (HandSPX.lands_againZ fl3 fun h4 fl4 up4 => ?_)
      have J4 : L2.Inv X pins σ' H' { s' with heap := h4 } := J.landed nb fl4.1 ((up.trans up3).trans up4) os ag
      obtain ⟨oe4, vs4, he4, hz4, hd4⟩ := fl4.there
      have S4 := J4.suite he4 hd4 na nL nF
      refine store_ok (X := X.suite a ((a, oe4) :: (X.pn ++ pins))) (v := .ref a) S4 hN hi (.inl hln) rfl (fun s5 S5 => ?_) (.inr hln)
      have line : PSs (X.suite a ((a, oe4) :: (X.pn ++ pins))) [.Assign [.Name m mp] (.Name n ep) ap] (tAsg (tVar i) (gName j)) := pss_one (ps_set hN hj (.inl hlm) (pe_var hi (.inl hln) hdn hcn) rfl (.inr hlm))
      have hlen : i < σ'.length := by rw [J.len]; exact (List.getElem?_eq_some_iff.mp hi).1
      refine wpAny_mono (line.run [] s5 _ H' { nx := fun σ6 H6 => σ6 = (σ'.set i (some (.ref a))).set j (some (.ref a)) ∧ H6 = H', rt := fun _ _ => False } S5 ⟨.ref a, List.getElem?_set_self hlen, rfl, rfl⟩) (fun f s6 hsp => ?_) (fun _ _ z => False.elim z)
      cases f with
      | next =>
        obtain ⟨σ6, H6, S6, e6, e7⟩ := hsp
        subst e6 e7
        have ha6 : s6.heap.get? a = some oe4 := (S6.pin (a, oe4) (List.mem_append_left _ List.mem_cons_self)).1
        refine gone_ok (track (o := ExV cls d a) (S6.unsuite ok) na n0 nL (fun y c' e z => ?_) npin ?_) hN hi hln fun s7 J7 => ⟨_, _, J7, hyes rfl a na⟩
        · obtain ⟨v, oc, hoc, hdc⟩ := S6.cell y c' e
          rw [z, ha6] at hoc
          cases hoc
          rw [hd4] at hdc; cases hdc
        · exact ⟨⟨oe4, vs4, ha6, hz4.1, hz4.2, hd4⟩, ⟨oe4, ha6⟩, fun h1 h2 ⟨oe, vs, q1, q2⟩ st => ⟨oe, vs, st _ q1, q2⟩⟩
      | brk => obtain ⟨_, _, _, q⟩ := hsp; exact q.elim
      | cont => obtain ⟨_, _, _, q⟩ := hsp; exact q.elim
      | ret u => obtain ⟨_, _, _, _, _, q⟩ := hsp; exact q.elim
    | false =>
      show wpAny _ X.A (handleBy (.ref a) X.env []) _ _ _
      refine wpAny_handleBy_nil ?_
      obtain ⟨k1, k2, k3, oe, vs, T, oT, ts', he, hz, hd, h1, hr⟩ := id fl3
      unfold PySem.passOn
      refine wpAny_bind (wpAny_field he hd h1 ?_)
      rw [if_neg (show ¬ ((Value.ref T == Value.none) = true) from by simp)]
      have fin : wpAny (model X.prog X.w) X.A (setFlight (.ref a) X.env.frame) (fun _ s4 => wpAny (model X.prog X.w) X.A (throw (.ref a) : Sem Flow) (SP X pins D) X.xe s4) X.xe { s' with heap := h3 } := by
        rw [hf]
        refine HandSPX.setFlight_upZ fl3 fun h4 hh4 up4 => wpAny_throw (tk _ _ ?_)
        exact ⟨a, B, sI, pins, σ', H', cls, d, rfl, J, nb, (up.trans up3).trans up4, .inr (.inr (by rw [hs]; exact hh4)), na, os, ag, hno rfl⟩
      first
        | exact wpAny_bind (wpAny_pure (wpAny_bind fin))
        | exact wpAny_bind fin
  refine wpAny_mono ((hb (wC X.K c i j Wout D) (X.pn ++ pins) K' take PassesOwn.looking).run [] s σ H D (I.toTry _) h) (fun f s1 hsp => ?_) (fun e s1 he => he)
  cases f with
  | next =>
    obtain ⟨σ', H', J', q⟩ := hsp
    exact wpAny_execs_nil ⟨σ', H', J'.ofTry ok, q⟩
  | brk =>
    obtain ⟨σ', H', J', q⟩ := hsp
    exact ⟨σ', H', J'.ofTry ok, q⟩
  | cont =>
    obtain ⟨σ', H', J', q⟩ := hsp
    exact ⟨σ', H', J'.ofTry ok, q⟩
  | ret u =>
    obtain ⟨v, σ', H', J', r, q⟩ := hsp
    exact ⟨v, σ', H', J'.ofTry ok, r, q⟩
end

/-! ### the def that catches -/
theorem takes_len {X : Cx} {W : WX} (t : Takes X W) : Takes X (fun cls d σ H => σ.length = X.N.length → W cls d σ H) := fun u s' ⟨a, B, sI, pins, σ, H, cls, d, e, I, nb, up, sky, na, os, ag, w⟩ =>
  t u s' ⟨a, B, sI, pins, σ, H, cls, d, e, I, nb, up, sky, na, os, ag, w I.len⟩
/-- caught: None, or the error itself -/
def TTc (K : PySem.W.Frag) (CS : Addr) : (XK → Hp → VK → Prop) → Hp → VK → Prop := fun tl H Q =>
  tl (fun cls d H' => ∃ b, PySem.W.exmOne K cls (.ref CS) = some b ∧ (b = true → ∀ p, H' p = none → Q (.ref p) (upd H' p (ExV cls d p))) ∧ (b = false → False)) H (fun _ H' => Q .non H')
/-- what is seen of its text -/
structure CatchT (sg : Scope) (Ng : List Str) (a m n e : Str) (i j : Nat) : Prop where
  nd : Ng.Nodup
  ha : Ng[0]? = some a
  hi : Ng[i]? = some n
  hj : Ng[j]? = some m
  hij : i ≠ j
  h0i : 0 ≠ i
  h0j : 0 ≠ j
  kind : sg.kind = .function
  lm : sg.names.lookup m = some .local
  ln : sg.names.lookup n = some .local
  dn : (n == ("__debug__" : Str)) = false
  cn : (n == ("__classdict__" : Str)) = false
  dm : (m == ("__debug__" : Str)) = false
  cm : (m == ("__classdict__" : Str)) = false
  ge : sg.names.lookup e = some .globalImplicit
  de : (e == ("__debug__" : Str)) = false
theorem caught_gives {X : Cx} {Ng : List Str} {x a m n e q : Str} {sg : Scope} {g CS : Addr} {cdg : Value} {i j k1 : Nat} {p0 p1 p2 p3 p4 p5 p6 p7 p8 p9 p10 p11 p12 p13 : Pos} (C : CatchT sg Ng a m n e i j) (hme : X.mg e = some (.ref CS)) :
    LamX.GivesTo X Ng x sg g cdg [.Assign [.Name m p0] (.Constant .none k1 p1) p2, .Try [.Expr (.Call (.Name a p3) [] [] p4) p5] [.ExceptHandler (some (.Name e p6)) (some n) [.Assign [.Name m p7] (.Name n p8) p9] p10] [] [] p11, .Return (some (.Name m p12)) p13] a q (TTc X.K CS) := by
  intro f c' s H Q tl act hc h
  let Y : Cx := (cxOf C8.CX0 X.prog X.w X.K X.mg X.base Ng x sg g cdg X.A X.stack s H C8.E0).nox
  have hgl : Gl Y e := C.ge
  have lm : Y.env.scope.names.lookup m = some .local := C.lm
  have hjl : j < Ng.length := (List.getElem?_eq_some_iff.mp C.hj).1
  have h0l : 0 < Ng.length := (List.getElem?_eq_some_iff.mp C.ha).1
  have hlen : (L2.start Ng [V.ref f]).length = Ng.length := by
    unfold L2.start
    simp
    omega
  have h0 : (L2.start Ng [V.ref f])[0]? = some (some (V.ref f)) := by simp [L2.start]
  have q1 : PS Y (.Assign [.Name m p0] (.Constant .none k1 p1) p2) (tAsg (L2.tC .non) (gName j)) := ps_set C.nd C.hj (.inl lm) pe_non rfl (.inr lm)
  have q3 : PS Y (.Return (some (.Name m p12)) p13) (tRet (tVar j)) := ps_ret (pe_var C.hj (.inl C.lm) C.dm C.cm)
  have q2 : PS Y (.Try [.Expr (.Call (.Name a p3) [] [] p4) p5] [.ExceptHandler (some (.Name e p6)) (some n) [.Assign [.Name m p7] (.Name n p8) p9] p10] [] [] p11)
      (fun D σ H => ∃ Ech : XK, (∀ cls d σ' H', Ech cls d H' → σ'.length = Ng.length → wC X.K (.ref CS) i j (fun _ _ _ _ => False) D cls d σ' H') ∧ σ[0]? = some (some (.ref f)) ∧ H c' = some (LamX.CodeO c' q) ∧ tl Ech H fun _ H1 => D.nx σ H1) := by
    refine ps_keep (X := Y) (tb := fun W D σ H => ∃ Ech : XK, (∀ cls d σ' H', Ech cls d H' → σ'.length = Ng.length → W cls d σ' H') ∧ σ[0]? = some (some (.ref f)) ∧ H c' = some (LamX.CodeO c' q) ∧ tl Ech H fun _ H1 => D.nx σ H1)
      rfl rfl rfl C.nd C.hi C.hj C.hij C.ln C.lm C.dn C.cn ⟨hgl, C.de, .inl hme⟩ LamX.takes0 fun W pn xe tk _ => ?_
    refine ⟨fun pins s' σ' H' D I h' => ?_⟩
    obtain ⟨Ech, hW, h1, h2, h3⟩ := h'
    have hp := act (fun cls d σ H => σ.length = Ng.length → W cls d σ H) pn xe Ech p3 p4 (takes_len tk) hW
    exact (pss_one (ps_expr (pos := p5) hp rfl)).run pins s' σ' H' D I ⟨h1, h2, h3⟩
  refine ⟨_, pss_cons q1 (pss_cons q2 (pss_one q3)), ?_⟩
  have hj2 : ((L2.start Ng [V.ref f]).set j (some V.non))[j]? = some (some V.non) := List.getElem?_set_self (by rw [hlen]; exact hjl)
  refine ⟨fun cls d H' => ∃ b, PySem.W.exmOne X.K cls (.ref CS) = some b ∧ (b = true → ∀ p, H' p = none → Q (.ref p) (upd H' p (ExV cls d p))) ∧ (b = false → False), fun cls d σ' H' hE hl => ?_, ?_, hc, ?_⟩
  · obtain ⟨b, e1, e2, e3⟩ := hE
    refine ⟨b, e1, fun hb p hp => ⟨.ref p, ?_, e2 hb p hp⟩, fun hb => e3 hb⟩
    rw [List.getElem?_set_ne C.hij, List.getElem?_set_self (by simpa [hl] using hjl)]
  · show ((L2.start Ng [V.ref f]).set j (some V.non))[0]? = _
    rw [List.getElem?_set_ne (Ne.symm C.h0j)]; exact h0
  · have ht : (fun _ H1 => (tRet (tVar j) { nx := fun _ H' => Q .non H', rt := Q } ((L2.start Ng [V.ref f]).set j (some V.non)) H1 : Prop)) = fun (_ : V) (H1 : Hp) => Q .non H1 := by
      funext v H1
      apply propext
      constructor
      · rintro ⟨w, hw, hq⟩
        rw [hj2] at hw
        cases hw; exact hq
      · exact fun hq => ⟨.non, hj2, hq⟩
    show tl _ H (fun _ H1 => (tRet (tVar j) { nx := fun _ H' => Q .non H', rt := Q } ((L2.start Ng [V.ref f]).set j (some V.non)) H1 : Prop))
    rw [ht]
    exact h
theorem caught_at {K : PySem.W.Frag} {N : Nm} {E : XK} {C : Rt} {e : Sa.E} {σ : L2.St} {H : Hp} {Q : VK} (hx : ∀ (c : Nat) (cl : Cl), C.P.cls[c]? = some cl → cl.up.contains C.P.top = true → PySem.W.exmOne K (.ref (N.cA c)) (.ref (N.cA C.P.top)) = some true) (h : tE K N C E (.caught e) σ H Q) :
    LamX.tLam N.tb (TTc K (N.cA C.P.top)) (fun E => tE K N C E e) σ H Q := by
  obtain ⟨pv, ρ, S, env, he, sm, h⟩ := h
  refine ⟨sm.tabs, fun H1 eN T1 => ?_⟩
  obtain ⟨eT, s1⟩ := sm.tabsE (K := K) (N := N.at pv) eN T1
  refine ⟨pv, ρ, S, env, he.mono eT, s1, ?_⟩
  simp only [evE] at h
  split at h
  · rename_i v S' hv
    rw [hv]
    exact fun ρ' H' b e' s' r' => h ρ' H' .non (eT.trans e') s' rfl
  · rename_i x S' hv
    rw [hv]
    intro ρ' H' cls dd e' s' r'
    split at h
    · rename_i c fs
      split at h
      · rename_i hsub
        obtain ⟨k, gs, e1, rfl, hd⟩ := r'
        cases e1
        unfold isSub at hsub
        split at hsub
        · rename_i cl hcl
          refine ⟨true, by rw [show (N.at pv).cA = N.cA from rfl, hx c cl hcl hsub], fun _ p hp => ?_, fun z => by cases z⟩
          have hf := s'.fresh hp
          have e2 : Ext (N.at pv) ρ' H' ρ' (upd H' p (ExV (.ref ((N.at pv).cA c)) dd p)) := Ext.junk hp hf.1
          refine h ρ' _ (.ref p) ((eT.trans e').trans e2) (s'.junk hp) ⟨p, rfl, hf, dd, upd_same, ?_⟩
          cases dd with
          | none => exact hd
          | some dx =>
            obtain ⟨n, us, h1, h2⟩ := hd
            exact ⟨n, us, by rw [upd_ne (ne_of_none h1 hp)]; exact h1, h2.mono e2⟩
        · cases hsub
      · exact h.elim
    · exact h.elim
  · exact h.elim
end Sa
set_option maxHeartbeats 1000000
/-! The other readings of expressions. -/
namespace Sa
open PySem L2
variable {K : PySem.W.Frag} {N N' : Nm} {P : Prog} {ρ ρ' ρ1 : List Addr} {H H' H1 : Hp} {S S' S1 : Sto} {X : Cx} {E : XK} {C : Rt} {σ : L2.St} {env : Env} {Q : VK} {a b c : Sa.E} {es ks : Sa.Es}
theorem var_at {i : Nat} (h : tE K N C E (.var i) σ H Q) : tVar i σ H Q := by
  obtain ⟨pv, ρ, S, env, he, sm, h⟩ := h
  simp only [evE] at h
  split at h
  · rename_i d hd
    obtain ⟨v, hv, r⟩ := he.2 i d hd
    exact ⟨v, hv, h _ _ _ Ext.refl sm r⟩
  · exact h.elim
theorem cst_at {d : D} {v : V} (hr : ∀ pv ρ H, Rep K (N.at pv) ρ H d v) (h : tE K N C E (.cst d) σ H Q) : L2.tC v σ H Q := by
  obtain ⟨pv, ρ, S, env, he, sm, h⟩ := h
  simp only [evE] at h
  exact h _ _ _ Ext.refl sm (hr pv ρ H)
theorem neg_at (h : tE K N C E (.op .neg (.cons a .nil)) σ H Q) : tUn (fun x H Q => rOp K N C.P .neg [x] H Q) (tE K N C E a) σ H Q := op1_at h
theorem cb1_at {o : Op} (h : tE K N C E (.op o (.cons a .nil)) σ H Q) : tCB (c1 K N C.P o) (tCons (tE K N C E a) tNil) σ H Q := by
  have h := op1_at h
  exact tcons1 (by
    obtain ⟨pv, ρ, S, env, he, sm, h⟩ := h
    exact ⟨pv, ρ, S, env, he, sm, h.imp fun v H' q => ⟨v, rfl, q⟩⟩)
theorem cb2_at {o : Op} (h : tE K N C E (.op o (.cons a (.cons b .nil))) σ H Q) : tCB (c2 K N C.P o) (tCons (tE K N C E a) (tCons (tE K N C E b) tNil)) σ H Q := by
  obtain ⟨pv, ρ, S, env, he, sm, h⟩ := h
  rw [ev2] at h
  exact tcons2 (two_at he sm h fun d e ρ2 S2 H2 v u e2 s2 r1 r2 _ h2 => ⟨v, u, rfl, out_op s2 (Reps.two r1 r2) h2⟩)
theorem isin_at {k : Kd} {cv : V} (h : tE K N C E (.op (.isin k) (.cons a .nil)) σ H Q) : tCB (fun xs H Q => ∃ x, xs = [x, cv] ∧ rOp K N C.P (.isin k) [x] H Q) (tCons (tE K N C E a) (tCons (L2.tC cv) tNil)) σ H Q := by
  have h := op1_at h
  obtain ⟨pv, ρ, S, env, he, sm, h⟩ := h
  exact ⟨pv, ρ, S, env, he, sm, h.imp fun v H' q => ⟨v, rfl, q⟩⟩
/-- cuts -/
def tO (K : PySem.W.Frag) (N : Nm) (C : Rt) (E : XK) (c : Option Sa.E) : TO := match c with
  | none => tNoPart
  | some c => tPart (tE K N C E c)
theorem ev3 (o : Op) (a b c : Sa.E) (env : Env) (S : Sto) : evE C (.op o (.cons a (.cons b (.cons c .nil)))) env S = (evE C a env S).bind fun d S1 => (evE C b env S1).bind fun e S2 => (evE C c env S2).bind fun f S3 => (opSem C.P o [d, e, f] S3).calm := by
  simp only [evE, evEs, R.bind_assoc, R.bind_ok]
theorem slc_out {x : D} {v : V} {lo hi : Option Int} {r : R D} {pv : List (Addr × HO)} (sm : Sim K (N.at pv) ρ S H) (q : Rep K (N.at pv) ρ H x v) (h : Out K (N.at pv) (RepV K (N.at pv)) E ρ H r.calm Q) (hr : r = cutS S x lo hi) : rSlO K N v lo hi H Q := by
  subst hr
  cases e : cutS S x lo hi with
  | ok z T => rw [e] at h; exact ⟨pv, ρ, S, x, z, T, q, sm, e, h⟩
  | err z T => rw [e] at h; exact h.elim
  | bad => rw [e] at h; exact h.elim
theorem int_out {pv : List (Addr × HO)} {d : D} {v : V} {f : Int → R D} {P : Int → Prop} (q : Rep K (N.at pv) ρ H d v) (h : Out K (N.at pv) (RepV K (N.at pv)) E ρ H (int1 d f).calm Q) (k : ∀ i, d = .int i → Out K (N.at pv) (RepV K (N.at pv)) E ρ H (f i).calm Q → P i) : ∃ i, v = .int i ∧ P i := by
  cases d with
  | int i => cases q; exact ⟨i, rfl, k i rfl h⟩
  | _ => exact h.elim
theorem slc00_at (h : tE K N C E (.op (.slc false false) (.cons a .nil)) σ H Q) : tSl (rSlO K N) (tE K N C E a) tNoPart tNoPart σ H Q := by
  obtain ⟨pv, ρ, S, env, he, sm, h⟩ := h
  rw [ev1] at h
  exact ⟨pv, ρ, S, env, he, sm, Out.bind h fun d S1 ρ1 H1 v _ e1 s1 r1 h1 => slc_out s1 r1 h1 rfl⟩
theorem slc10_at (h : tE K N C E (.op (.slc true false) (.cons a (.cons b .nil))) σ H Q) : tSl (rSlO K N) (tE K N C E a) (tPart (tE K N C E b)) tNoPart σ H Q := by
  obtain ⟨pv, ρ, S, env, he, sm, h⟩ := h
  rw [ev2] at h
  exact two_at he sm h fun d e ρ2 S2 H2 v u e2 s2 r1 r2 _ h2 => int_out (f := fun i => cutS S2 d (some i) none) r2 h2 fun i _ h3 => slc_out s2 r1 h3 rfl
theorem slc01_at (h : tE K N C E (.op (.slc false true) (.cons a (.cons b .nil))) σ H Q) : tSl (rSlO K N) (tE K N C E a) tNoPart (tPart (tE K N C E b)) σ H Q := by
  obtain ⟨pv, ρ, S, env, he, sm, h⟩ := h
  rw [ev2] at h
  exact two_at he sm h fun d e ρ2 S2 H2 v u e2 s2 r1 r2 _ h2 => int_out (f := fun i => cutS S2 d none (some i)) r2 h2 fun i _ h3 => slc_out s2 r1 h3 rfl
mutual
/-- code that lets no error out -/
def calmE : Sa.E → Bool
  | .var _ => true
  | .cst _ => true
  | .op _ es => calmEs es
  | _ => false
def calmEs : Sa.Es → Bool
  | .nil => true
  | .cons e r => calmE e && calmEs r
end
theorem R.calm_err {α : Type} {r : R α} {e : D} {T : Sto} : r.calm ≠ .err e T := by cases r <;> simp [R.calm]
mutual
theorem calmE_ok : ∀ {c : Sa.E}, calmE c = true → ∀ (env : Env) (S : Sto) (e : D) (T : Sto), evE C c env S ≠ .err e T
  | .var i, _, env, S, e, T => by
    simp only [evE]
    split <;> (intro h; cases h)
  | .cst d, _, env, S, e, T => by simp [evE]
  | .op o es, h, env, S, e, T => by
    simp only [evE]
    intro hh
    cases hr : evEs C es env S with
    | ok ds S1 => rw [hr] at hh; exact R.calm_err hh
    | err x T' => exact calmEs_ok (by simpa [calmE] using h) env S _ _ hr
    | bad => rw [hr] at hh; cases hh
theorem calmEs_ok : ∀ {c : Sa.Es}, calmEs c = true → ∀ (env : Env) (S : Sto) (e : D) (T : Sto), evEs C c env S ≠ .err e T
  | .nil, _, env, S, e, T => by simp [evEs]
  | .cons a r, h, env, S, e, T => by
    simp only [calmEs, Bool.and_eq_true] at h
    simp only [evEs]
    intro hh
    cases hr : evE C a env S with
    | ok d S1 =>
      rw [hr, R.bind_ok] at hh
      cases hr2 : evEs C r env S1 with
      | ok ds S2 => rw [hr2] at hh; cases hh
      | err x T' => exact calmEs_ok h.2 env S1 _ _ hr2
      | bad => rw [hr2] at hh; cases hh
    | err x T' => exact calmE_ok h.1 env S _ _ hr
    | bad => rw [hr] at hh; cases hh
end
theorem slc11_at (hcalm : calmE c = true) (h : tE K N C E (.op (.slc true true) (.cons a (.cons b (.cons c .nil)))) σ H Q) : tSl (rSlO K N) (tE K N C E a) (tPart (tE K N C E b)) (tPart (tE K N C E c)) σ H Q := by
  obtain ⟨pv, ρ, S, env, he, sm, h⟩ := h
  rw [ev3] at h
  have key : ∀ d e S2, ((evE C c env S2).bind fun f S3 => (opSem C.P (.slc true true) [d, e, f] S3).calm) = ((evE C c env S2).bind fun f S3 => (int2 e f fun i j => cutS S3 d (some i) (some j)).calm) := fun _ _ _ => rfl
  refine two_at he sm h fun d e ρ2 S2 H2 v u e2 s2 r1 r2 he2 h2 => ?_
  rw [key] at h2
  cases e with
  | int i =>
    cases r2
    refine ⟨i, rfl, pv, ρ2, S2, env, he2, s2, Out.bind h2 fun f S3 ρ3 H3 w _ e3 s3 r3 h3 => ?_⟩
    cases f with
    | int j =>
      cases r3
      exact ⟨j, rfl, slc_out s3 (r1.mono e3) h3 rfl⟩
    | _ => exact h3.elim
  | _ =>
    exfalso
    cases hc : evE C c env S2 with
    | ok f S3 => rw [hc] at h2; exact h2
    | bad => rw [hc] at h2; exact h2
    | err x T => exact calmE_ok hcalm _ _ _ _ hc
/-- x[::-1]: a tuple, or a list -/
theorem s_rev {x : Expr} {k : Nat} {p1 p2 p3 pos : Pos} (he : PE X x (tE X.K N C E a)) : PE X (.Subscript x (.Slice none none (some (.UnaryOp .USub (.Constant (.int 1) k p1) p2)) p3) pos) (tE X.K N C E (.op .rev (.cons a .nil))) := by
  refine ⟨fun pins s σ H Q I h => ?_⟩
  obtain ⟨pv, ρ, S, env, hv, sm, h⟩ := h
  rw [ev1] at h
  by_cases hn : ∃ d S1, evE C a env S = .ok d S1 ∧ ∃ xs, d = D.tup xs
  · obtain ⟨d, S1, hr, xs, rfl⟩ := hn
    refine (pe_revT he).run pins s σ H Q I ⟨pv, ρ, S, env, hv, sm, Out.bind h fun d S2 ρ1 H1 b ho e1 s1 r1 h1 => ?_⟩
    rw [hr] at ho
    cases ho
    obtain ⟨p, vs, rfl, t, q⟩ := r1
    refine ⟨p, vs, rfl, t.1, fun l hl => ?_⟩
    exact Go.tup (show Go X.K (N.at pv) ρ1 H1 (.tup xs.reverse) S1 Q from h1) s1 hl q.reverse
  · refine (pe_revL he).run pins s σ H Q I ⟨pv, ρ, S, env, hv, sm, Out.bind h fun d S2 ρ1 H1 b ho e1 s1 r1 h1 => ?_⟩
    have h2 : Out X.K (N.at pv) (RepV X.K (N.at pv)) E ρ1 H1 (revS S2 d).calm Q := h1
    unfold revS at h2
    split at h2
    · rename_i xs
      exact absurd ⟨_, S2, ho, xs, rfl⟩ hn
    · cases hi : items S2 d with
      | none => rw [hi] at h2; exact h2.elim
      | some xs =>
        rw [hi] at h2
        obtain ⟨p, vs, rfl, hH, q⟩ := items_at s1 r1 hi
        refine ⟨p, vs, rfl, SqL.of hH, fun l hl => ?_⟩
        exact Go.lst (show Go X.K (N.at pv) ρ1 H1 (.lst xs.reverse) S2 Q from h2) s1 hl q.reverse
/-- a def's promise, told by the evaluator -/
def spF (K : PySem.W.Frag) (N : Nm) (C : Rt) (f : Nat) : Sp := fun vs H Q E => ∃ pv ρ S ds, Reps K (N.at pv) ρ H ds vs ∧ Sim K (N.at pv) ρ S H ∧ Out K (N.at pv) (RepV K (N.at pv)) E ρ H (C.call f ds S) Q
theorem call_at {f : Nat} (h : tE K N C E (.call f es) σ H Q) : tCa (spF K N C f) E (tEs K N C E es) σ H Q := by
  obtain ⟨pv, ρ, S, env, he, sm, h⟩ := h
  simp only [evE] at h
  exact ⟨pv, ρ, S, env, he, sm, Out.bind h fun ds S1 ρ1 H1 vs _ e1 s1 r1 h1 => ⟨pv, ρ1, S1, ds, r1, s1, h1⟩⟩
theorem callK_at {f n m : Nat} (hn : es.len = n) (hm : ks.len = m) (h : tE K N C E (.callK f es ks) σ H Q) : tCaK (spF K N C f) E n m (tEs K N C E es) (tEs K N C E ks) σ H Q := by
  obtain ⟨pv, ρ, S, env, he, sm, h⟩ := h
  simp only [evE] at h
  refine ⟨pv, ρ, S, env, he, sm, Out.bind h fun ds S1 ρ1 H1 vs ho e1 s1 r1 h1 => ?_⟩
  refine ⟨pv, ρ1, S1, env, he.mono e1, s1, Out.bind h1 fun fs S2 ρ2 H2 zs ho2 e2 s2 r2 h2 => ?_⟩
  have q := r1.mono e2
  exact ⟨by rw [r1.length, evEs_len es env S ho, hn], by rw [r2.length, evEs_len ks env S1 ho2, hm], pv, ρ2, S2, ds ++ fs, q.append r2, s2, h2⟩
/-- a new instance is laid, its def runs -/
theorem new_out {pv : List (Addr × HO)} {c f : Nat} {ds : List D} {vs : List V} (sm : Sim K (N.at pv) ρ S H) (q : Reps K (N.at pv) ρ H ds vs)
    (h : Out K (N.at pv) (RepV K (N.at pv)) E ρ H ((C.call f (.loc S.length :: ds) (S ++ [.ins c []])).bind fun d S2 => match d with
      | .non => .ok (.loc S.length) S2
      | _ => .bad) Q) (x dx : Addr) (hx : H x = none) (hd : H dx = none) (hne : dx ≠ x) :
    spF K N C f (.ref x :: vs) (upd (upd H dx (.own x)) x (.ins (N.cA c) dx [])) (fun v H2 => v = .non ∧ Q (.ref x) H2) E := by
  have fd := sm.fresh hd
  have e1 : Ext (N.at pv) ρ H ρ (upd H dx (.own x)) := Ext.junk hd fd.1
  have s1 : Sim K (N.at pv) ρ S (upd H dx (.own x)) := sm.junk hd
  have hx' : upd H dx (.own x) x = none := by rw [upd_ne (Ne.symm hne)]; exact hx
  have fx := s1.fresh hx'
  have e2 : Ext (N.at pv) ρ (upd H dx (.own x)) (ρ ++ [x]) (upd (upd H dx (.own x)) x (.ins (N.cA c) dx [])) := Ext.new hx' fx.1
  have s2 : Sim K (N.at pv) (ρ ++ [x]) (S ++ [.ins c []]) (upd (upd H dx (.own x)) x (.ins (N.cA c) dx [])) := s1.new hx' ⟨dx, [], upd_same, rfl, rfl⟩
  have hg : (ρ ++ [x])[S.length]? = some x := by rw [← sm.len]; simp
  refine ⟨pv, ρ ++ [x], S ++ [.ins c []], .loc S.length :: ds, ⟨.ref x, vs, rfl, ⟨x, rfl, hg⟩, q.mono (e1.trans e2)⟩, s2, Out.bind (Out.ext (e1.trans e2) h) fun d S3 ρ3 H3 v _ e3 s3 r3 h3 => ?_⟩
  split at h3
  · exact ⟨r3, h3 _ _ _ Ext.refl s3 ⟨x, rfl, e3.get hg⟩⟩
  · exact h3.elim
theorem new_at {c : Nat} {cl : Cl} (hcl : C.P.cls[c]? = some cl) (h : tE K N C E (.new c es) σ H Q) : tMk (N.cA c) (spF K N C cl.init) E (tEs K N C E es) σ H Q := by
  obtain ⟨pv, ρ, S, env, he, sm, h⟩ := h
  simp only [evE] at h
  refine ⟨pv, ρ, S, env, he, sm, Out.bind h fun ds S1 ρ1 H1 vs _ e1 s1 r1 h1 => ?_⟩
  rw [hcl] at h1
  exact new_out s1 r1 h1
theorem newK_at {c n m : Nat} {cl : Cl} (hcl : C.P.cls[c]? = some cl) (hn : es.len + 1 = n) (hm : ks.len = m) (h : tE K N C E (.newK c es ks) σ H Q) : tMkK (N.cA c) (spF K N C cl.init) E n m (tEs K N C E es) (tEs K N C E ks) σ H Q := by
  obtain ⟨pv, ρ, S, env, he, sm, h⟩ := h
  simp only [evE] at h
  refine ⟨pv, ρ, S, env, he, sm, Out.bind h fun ds S1 ρ1 H1 vs ho e1 s1 r1 h1 => ?_⟩
  refine ⟨pv, ρ1, S1, env, he.mono e1, s1, Out.bind h1 fun fs S2 ρ2 H2 zs ho2 e2 s2 r2 h2 => ?_⟩
  rw [hcl] at h2
  have q := r1.mono e2
  exact ⟨by rw [r1.length, evEs_len es env S ho, hn], by rw [r2.length, evEs_len ks env S1 ho2, hm], new_out s2 (q.append r2) h2⟩
end Sa
set_option maxHeartbeats 1000000
/-! Fields, methods, dict displays. -/
namespace Sa
open PySem L2
variable {K : PySem.W.Frag} {N N' : Nm} {P : Prog} {ρ ρ' ρ1 : List Addr} {H H' H1 : Hp} {S S' S1 : Sto} {X : Cx} {E : XK} {C : Rt} {σ : L2.St} {env : Env} {Q : VK} {a b c : Sa.E} {es ks : Sa.Es}
theorem getF_at (hnd : ∀ f g, N.fl f = N.fl g → f = g) (f : Nat) : ∀ {fs : List (Nat × D)} {us : List (Str × V)}, RepFs K N ρ H fs us →
    (getF fs f = none ∧ us.lookup (N.fl f) = none) ∨ ∃ d v, getF fs f = some d ∧ us.lookup (N.fl f) = some v ∧ Rep K N ρ H d v
  | [], us, h => by
    have : us = [] := by simpa using h.1
    subst this
    exact .inl ⟨rfl, rfl⟩
  | (g, w) :: fs, us, h => by
    obtain ⟨h1, u, ws, hu, q, qs⟩ := h
    cases us with
    | nil => cases hu
    | cons x us =>
      obtain ⟨k, x⟩ := x
      simp at h1 hu
      obtain ⟨rfl, h1⟩ := h1
      obtain ⟨rfl, rfl⟩ := hu
      by_cases hg : g = f
      · subst hg
        exact .inr ⟨w, x, by simp [getF], by simp, q⟩
      · have hg' : ¬ N.fl f = N.fl g := fun e => hg (hnd _ _ e.symm)
        have e1 : getF ((g, w) :: fs) f = getF fs f := by simp [getF, hg]
        have e2 : List.lookup (N.fl f) ((N.fl g, x) :: us) = List.lookup (N.fl f) us := by
          rw [List.lookup_cons]
          have : (N.fl f == N.fl g) = false := by simpa using hg'
          rw [this]
        rw [e1, e2]
        exact getF_at hnd f ⟨h1, qs⟩
theorem attr_at {f : Nat} (hnd : ∀ f g, N.fl f = N.fl g → f = g) (hc : ∀ (c : Nat) (cl : Cl), C.P.cls[c]? = some cl → cl.flds.contains f = true → Cls K (N.cA c) ∧ NoAttr K (N.cA c) (N.fl f))
    (h : tE K N C E (.attr f a) σ H Q) : tFld K (tE K N C E a) (N.fl f) σ H Q := by
  obtain ⟨pv, ρ, S, env, he, sm, h⟩ := h
  simp only [evE] at h
  refine ⟨pv, ρ, S, env, he, sm, Out.bind h fun x S1 ρ1 H1 v ho e1 s1 r1 h1 => ?_⟩
  clear ho
  split at h1
  · rename_i ad
    obtain ⟨p, rfl, g⟩ := r1
    split at h1
    · rename_i c fs hS
      split at h1
      · rename_i cl hcl
        split at h1
        · rename_i hf
          obtain ⟨dx, us, hH, q⟩ := s1.obs ad _ p hS g
          obtain ⟨k1, k2⟩ := hc c cl hcl hf
          rcases getF_at (N := N.at pv) hnd f q with ⟨z1, z2⟩ | ⟨d, v, z1, z2, z3⟩
          · rw [z1] at h1; exact h1.elim
          · rw [z1] at h1
            exact ⟨p, _, dx, us, v, rfl, hH, k1, k2, z2, h1 _ _ _ Ext.refl s1 z3⟩
        · exact h1.elim
      · exact h1.elim
    · exact h1.elim
  · exact h1.elim
theorem meth_at {m : Nat} {T : Addr → Addr → FuncData → List Str → Sp → Prop} (hnd : ∀ f g, N.fl f = N.fl g → f = g)
    (hc : ∀ (c : Nat) (cl : Cl) (f : Nat), C.P.cls[c]? = some cl → getN cl.meths m = some f → Cls K (N.cA c) ∧ Meth K (N.cA c) (N.fl m) (N.fA f) ∧ ∃ fd ps, T (N.cA c) (N.fA f) fd ps (spF K N C f))
    (h : tE K N C E (.meth m a es) σ H Q) : tMe K (N.fl m) E T (tE K N C E a) (tEs K N C E es) σ H Q := by
  obtain ⟨pv, ρ, S, env, he, sm, h⟩ := h
  simp only [evE] at h
  refine ⟨pv, ρ, S, env, he, sm, Out.bind h fun x S1 ρ1 H1 v ho e1 s1 r1 h1 => ?_⟩
  clear ho
  split at h1
  · rename_i ad
    obtain ⟨p, rfl, g⟩ := r1
    split at h1
    · rename_i c fs hS
      split at h1
      · rename_i cl hcl
        split at h1
        · rename_i f hf hno
          obtain ⟨dx, us, hH, q⟩ := s1.obs ad _ p hS g
          obtain ⟨k1, k2, fd, ps, k3⟩ := hc c cl f hcl hf
          have z2 : us.lookup (N.fl m) = none := by
            rcases getF_at (N := N.at pv) hnd m q with ⟨z1, z2⟩ | ⟨d, v, z1, z2, z3⟩
            · exact z2
            · rw [hno] at z1; cases z1
          refine ⟨p, _, dx, us, _, fd, ps, _, rfl, hH, z2, k1, k2, k3, ?_⟩
          exact ⟨pv, ρ1, S1, env, he.mono e1, s1, Out.bind h1 fun ds S2 ρ2 H2 vs _ e2 s2 r2 h2 => ⟨pv, ρ2, S2, .loc ad :: ds, ⟨.ref p, vs, rfl, ⟨p, rfl, e2.get g⟩, r2⟩, s2, h2⟩⟩
        · exact h1.elim
      · exact h1.elim
    · exact h1.elim
  · exact h1.elim
/-! ### methods of lists -/
theorem mth_list {S : Sto} {x : D} {v : V} {o : Op} (s : Sim K N ρ S H) (r : Rep K N ρ H x v) (ho : o ≠ .get ∧ o ≠ .get2) (h : mthOk o S x = true) : tyV K "list" v H := by
  have hx : ∃ ad xs, x = .loc ad ∧ S[ad]? = some (.lst xs) := by
    unfold mthOk at h
    split at h
    · exact absurd rfl ho.1
    · exact absurd rfl ho.2
    · split at h
      · split at h
        · exact ⟨_, _, rfl, by assumption⟩
        · cases h
      · cases h
  obtain ⟨ad, xs, rfl, hS⟩ := hx
  obtain ⟨p, rfl, g⟩ := r
  obtain ⟨vs, hH, _⟩ := s.obs ad _ p hS g
  exact .inl ⟨rfl, vs, SqL.of hH⟩
theorem mth1_at {o : Op} (ho : o ≠ .get ∧ o ≠ .get2) (h : tE K N C E (.mth o a (.cons b .nil)) σ H Q) : tBM K "list" (fun x xs H Q => ∃ y, xs = [y] ∧ rM K N C.P o x [y] H Q) (tE K N C E a) (tCons (tE K N C E b) tNil) σ H Q := by
  obtain ⟨pv, ρ, S, env, he, sm, h⟩ := h
  simp only [evE] at h
  refine ⟨pv, ρ, S, env, he, sm, Out.bind h fun x S1 ρ1 H1 v _ e1 s1 r1 h1 => ?_⟩
  split at h1
  · rename_i hk
    refine ⟨mth_list s1 r1 ho hk, ?_⟩
    simp only [evEs, R.bind_assoc, R.bind_ok] at h1
    exact tcons1 ⟨pv, ρ1, S1, env, he.mono e1, s1, Out.bind h1 fun d S2 ρ2 H2 u _ e2 s2 r2 h2 => ⟨u, rfl, out_op s2 (Reps.two (r1.mono e2) r2) h2⟩⟩
  · exact h1.elim
theorem mth0_at {o : Op} (ho : o ≠ .get ∧ o ≠ .get2) (h : tE K N C E (.mth o a .nil) σ H Q) : tBM0 K "list" (fun x xs H Q => xs = [] ∧ rM K N C.P o x [] H Q) (tE K N C E a) σ H Q := by
  obtain ⟨pv, ρ, S, env, he, sm, h⟩ := h
  simp only [evE] at h
  refine ⟨pv, ρ, S, env, he, sm, Out.bind h fun x S1 ρ1 H1 v _ e1 s1 r1 h1 => ?_⟩
  split at h1
  · rename_i hk
    refine ⟨mth_list s1 r1 ho hk, rfl, ?_⟩
    simp only [evEs, R.bind_ok] at h1
    exact out_op s1 (Reps.one r1) h1
  · exact h1.elim
/-! ### get -/
theorem isD_at' {S : Sto} {x : D} {v : V} {kvs : List (D × D)} (s : Sim K N ρ S H) (r : Rep K N ρ H x v) (h : pairs S x = some kvs) : ∃ p, v = .ref p ∧ IsD H p := by
  obtain ⟨p, kws, e, h1, _⟩ := pairs_at s r h
  exact ⟨p, e, .inl ⟨kws, h1⟩⟩
theorem get_go {pv : List (Addr × HO)} {S S' : Sto} {d k z w : D} {x y u : V} (s : Sim K (N.at pv) ρ S H) (r1 : Rep K (N.at pv) ρ H d x) (r2 : Rep K (N.at pv) ρ H k y) (r3 : Rep K (N.at pv) ρ H z u) (h : getS S d k z = .ok w S') :
    S' = S ∧ ∃ p o, x = .ref p ∧ DGet H p y o ∧ Rep K (N.at pv) ρ H w (o.getD u) := by
  unfold getS at h
  split at h
  · rename_i kvs hk
    obtain ⟨hky, h⟩ := if_inv h
    cases h
    obtain ⟨p, kws, rfl, hrd, hkv⟩ := pairs_at s r1 hk
    obtain ⟨key, rfl, rfl⟩ := isKey_at hky r2
    refine ⟨rfl, p, _, rfl, .inl ⟨kws, key, hrd, rfl, rfl⟩, ?_⟩
    rcases look_at key hkv with ⟨e1, e2⟩ | ⟨d, v, e1, e2, e3⟩
    · rw [e1, e2]; exact r3
    · rw [e1, e2]; exact e3
  · cases h
theorem dget1_at (h : tE K N C E (.mth .get a (.cons b .nil)) σ H Q) : tDGet1 (tE K N C E a) (tE K N C E b) σ H Q := by
  obtain ⟨pv, ρ, S, env, he, sm, h⟩ := h
  simp only [evE] at h
  refine ⟨pv, ρ, S, env, he, sm, Out.bind h fun x S1 ρ1 H1 v _ e1 s1 r1 h1 => ?_⟩
  split at h1
  · rename_i hk
    simp only [mthOk, Option.isSome_iff_exists] at hk
    obtain ⟨kvs, hk⟩ := hk
    obtain ⟨p, rfl, hd⟩ := isD_at' s1 r1 hk
    refine ⟨p, rfl, hd, ?_⟩
    simp only [evEs, R.bind_assoc, R.bind_ok] at h1
    refine ⟨pv, ρ1, S1, env, he.mono e1, s1, Out.bind h1 fun d S2 ρ2 H2 u _ e2 s2 r2 h2 => ?_⟩
    have h3 : Out K (N.at pv) (RepV K (N.at pv)) E ρ2 H2 (getS S2 x d .non).calm Q := h2
    cases hg : getS S2 x d .non with
    | ok w T =>
      rw [hg] at h3
      obtain ⟨rfl, q, o, e, z1, z2⟩ := get_go (z := .non) (u := .non) s2 (r1.mono e2) r2 rfl hg
      cases e
      exact ⟨o, z1, h3 _ _ _ Ext.refl s2 z2⟩
    | err w T => rw [hg] at h3; exact h3.elim
    | bad => rw [hg] at h3; exact h3.elim
  · exact h1.elim
theorem dget2_at (h : tE K N C E (.mth .get2 a (.cons b (.cons c .nil))) σ H Q) : tDGet2 (tE K N C E a) (tE K N C E b) (tE K N C E c) σ H Q := by
  obtain ⟨pv, ρ, S, env, he, sm, h⟩ := h
  simp only [evE] at h
  refine ⟨pv, ρ, S, env, he, sm, Out.bind h fun x S1 ρ1 H1 v _ e1 s1 r1 h1 => ?_⟩
  split at h1
  · rename_i hk
    simp only [mthOk, Option.isSome_iff_exists] at hk
    obtain ⟨kvs, hk⟩ := hk
    obtain ⟨p, rfl, hd⟩ := isD_at' s1 r1 hk
    refine ⟨p, rfl, hd, ?_⟩
    simp only [evEs, R.bind_assoc, R.bind_ok] at h1
    refine two_at (he.mono e1) s1 h1 fun d e ρ2 S2 H2 v u e2 s2 r2 r3 _ h2 => ?_
    have h3 : Out K (N.at pv) (RepV K (N.at pv)) E ρ2 H2 (getS S2 x d e).calm Q := h2
    cases hg : getS S2 x d e with
    | ok w T =>
      rw [hg] at h3
      obtain ⟨rfl, q, o, e', z1, z2⟩ := get_go s2 (r1.mono e2) r2 r3 hg
      cases e'
      exact ⟨o, z1, h3 _ _ _ Ext.refl s2 z2⟩
    | err w T => rw [hg] at h3; exact h3.elim
    | bad => rw [hg] at h3; exact h3.elim
  · exact h1.elim

/-! ### dict displays -/
def duo : Sa.Es → List (Sa.E × Sa.E)
  | .cons a (.cons b r) => (a, b) :: duo r
  | _ => []
def evens : Sa.Es → Bool
  | .nil => true
  | .cons _ (.cons _ r) => evens r
  | _ => false
def flatV : List (V × V) → List V
  | [] => []
  | (x, y) :: r => x :: y :: flatV r
theorem tPairs_at {pv : List (Addr × HO)} : ∀ {es : Sa.Es} {ρ : List Addr} {S : Sto} {H : Hp} {Qd : List (V × V) → Hp → Prop}, evens es = true → EnvR K (N.at pv) ρ H env σ → Sim K (N.at pv) ρ S H → Out K (N.at pv) (RepL K (N.at pv)) E ρ H (evEs C es env S) (fun vs H2 => ∀ ps, vs = flatV ps → Qd ps H2) →
    tPairs ((duo es).map fun p => (tE K N C E p.1, tE K N C E p.2)) σ H Qd
  | .nil, ρ, S, H, Qd, _, he, sm, h => by
    simp only [evEs] at h
    exact h _ _ _ Ext.refl sm rfl [] rfl
  | .cons a (.cons b r), ρ, S, H, Qd, hv, he, sm, h => by
    simp only [evEs, R.bind_assoc, R.bind_ok] at h
    show tE K N C E a σ H fun x H1 => tE K N C E b σ H1 fun y H2 => tPairs ((duo r).map fun p => (tE K N C E p.1, tE K N C E p.2)) σ H2 fun ps H3 => Qd ((x, y) :: ps) H3
    refine two_at he sm h fun d e ρ2 S2 H2 v u e2 s2 r1 r2 he2 h2 => ?_
    refine tPairs_at (Qd := fun ps H3 => Qd ((v, u) :: ps) H3) (by simpa [evens] using hv) he2 s2 (Out.bind h2 fun ds S3 ρ3 H3 vs _ e3 s3 r3 h3 => ?_)
    exact fun ps hps => h3 _ _ _ Ext.refl s3 ⟨v, _, rfl, r1.mono e3, u, vs, rfl, r2.mono e3, r3⟩ ((v, u) :: ps) (by rw [hps]; rfl)
  | .cons a .nil, ρ, S, H, Qd, hv, he, sm, h => by simp [evens] at hv
theorem evD_at {al : Bool} {pv : List (Addr × HO)} {d : D} {T : Sto} : ∀ {ps : List (V × V)} {ds : List D} {m : List (D × D)} {mw : List (Key × V)}, evD al ds m S = .ok d T → Reps K (N.at pv) ρ H ds (flatV ps) → RepKv K (N.at pv) ρ H m mw →
    ∃ kws : List (Key × V), ps = kws.map (fun kv => (kV kv.1, kv.2)) ∧ ∃ m', newD al m' S = .ok d T ∧ RepKv K (N.at pv) ρ H m' (mergeK mw kws)
  | [], ds, m, mw, h, r, q => by
    have := reps_nil r
    subst this
    exact ⟨[], rfl, m, h, q⟩
  | (x, y) :: ps, ds, m, mw, h, r, q => by
    match ds, r with
    | [], r => cases r
    | [k], r => obtain ⟨v, w, e, _, e2⟩ := r; cases e; cases e2
    | k :: v :: ds, r =>
      obtain ⟨x', w, e, r1, y', w', e', r2, r3⟩ := r
      cases e; cases e'
      unfold evD at h
      obtain ⟨hk, h⟩ := if_inv h
      obtain ⟨key, rfl, rfl⟩ := isKey_at hk r1
      obtain ⟨kws, rfl, m', h1, h2⟩ := evD_at h r3 (put_at key q r2)
      exact ⟨(key, y) :: kws, rfl, m', h1, h2⟩
theorem evD_calm {al : Bool} {S : Sto} : ∀ {ds : List D} {m : List (D × D)} {e : D} {T : Sto}, evD al ds m S ≠ .err e T
  | [], m, e, T, h => newD_calm h
  | [k], m, e, T, h => by cases h
  | k :: v :: r, m, e, T, h => by
    unfold evD at h
    split at h
    · exact evD_calm h
    · cases h
theorem ErrAt.unhide {L : Addr} {o : HO} {e : D} {c : Value} {dd : Option Addr} (h : ErrAt K (N.hide L o) ρ H e c dd) : ErrAt K N ρ H e c dd := by
  obtain ⟨k, fs, e1, e2, h3⟩ := h
  refine ⟨k, fs, e1, e2, ?_⟩
  cases dd with
  | none => exact h3
  | some dx =>
    obtain ⟨n, us, h1, h2⟩ := h3
    exact ⟨n.unhide, us, h1, h2.unhide⟩
theorem flatV_len : ∀ ps : List (V × V), (flatV ps).length = 2 * ps.length
  | [] => rfl
  | (x, y) :: r => by simp [flatV, flatV_len r]; omega
theorem dct_at {al : Bool} (hv : evens es = true) (h15 : es.len ≤ 30) (h : tE K N C E (.dct al es) σ H Q) : tDisp ((duo es).map fun p => (tE K N C E p.1, tE K N C E p.2)) σ H Q := by
  obtain ⟨pv, ρ, S, env, he, sm, h⟩ := h
  simp only [evE] at h
  intro p hp
  have hf := sm.fresh hp
  have e0 : Ext (N.at ((p, .dK []) :: pv)) ρ H ρ (upd H p (.dK [])) := Ext.junk hp hf.1
  have s0 : Sim K (N.at ((p, .dK []) :: pv)) ρ S (upd H p (.dK [])) := Sim.hide (N := N.at pv) sm hp (fun ps z => by cases z)
  have he0 : EnvR K (N.at ((p, .dK []) :: pv)) ρ H env σ := he.sub (Sub.hide (N := N.at pv) hp)
  refine tPairs_at hv (he0.mono e0) s0 ?_
  cases hr : evEs C es env S with
  | ok ds S1 =>
    rw [hr, R.bind_ok] at h
    intro ρ' H' vs e' s' r' ps hps
    subst hps
    have hL := s'.pv (p, .dK []) List.mem_cons_self
    cases hd : evD al ds [] S1 with
    | ok d T =>
      rw [hd] at h
      obtain ⟨kws, rfl, m', h1, h2⟩ := evD_at (mw := []) hd r' ⟨rfl, rfl⟩
      refine ⟨hL.2.1, kws, rfl, ?_, ?_⟩
      · have l1 := evEs_len es env S hr
        have l2 := r'.length
        rw [flatV_len, List.length_map] at l2
        omega
      · have eW : Ext (N.at ((p, .dK []) :: pv)) ρ' H' ρ' (upd H' p (.dK (mergeK [] kws))) := Ext.pvw hL.1 (by simp) (fun ps z => by cases z) (fun od u z => by rw [hL.2.1] at z; cases z)
        have sW : Sim K (N.at ((p, .dK (mergeK [] kws)) :: pv)) ρ' S1 (upd H' p (.dK (mergeK [] kws))) := Sim.pvw (N := N.at pv) hf.2 s' (fun ps z => by cases z) (fun od u z => by cases z) (fun φ z => by cases z) (fun ps z => by cases z)
        exact dct_end (N := N) hf.2 hf.1 hp h1 h (Ext.pvc (N := N.at pv) (o := .dK []) (e'.trans eW)) sW (RepKv.pvc (N := N.at pv) (o := .dK []) (h2.mono eW))
    | err e T => exact (evD_calm hd).elim
    | bad => rw [hd] at h; exact h.elim
  | err e T =>
    rw [hr, R.bind_err] at h
    exact fun ρ' H' c dd e' s' r' => h ρ' H' c dd (Ext.unhide (N := N.at pv) e' hp hf.1) (Sim.unhide (N := N.at pv) s') (ErrAt.unhide (N := N.at pv) r')
  | bad => rw [hr] at h; exact h.elim
end Sa
set_option maxHeartbeats 1000000
/-! What is seen of a text without running it. -/
namespace Sa
open PySem L2
def isStar : Expr → Bool
  | .Starred .. => true
  | _ => false
def isSlc : Expr → Bool
  | .Slice .. => true
  | _ => false
def isSetX : Expr → Bool
  | .Set .. => true
  | _ => false
def isCmp : Expr → Bool
  | .ListComp .. => true
  | .SetComp .. => true
  | .DictComp .. => true
  | _ => false
def isSup : Expr → Bool
  | .Call _ [] [] _ => true
  | _ => false
def isIf : Expr → Bool
  | .IfExp .. => true
  | _ => false
def isBool : Expr → Bool
  | .BoolOp .. => true
  | _ => false
/-- a test by its value -/
def plainT : Expr → Bool
  | .BoolOp .. => false
  | .UnaryOp .Not _ _ => false
  | .IfExp .. => false
  | .Compare .. => false
  | _ => true
variable {env : PySem.Env} {e o x y v : Expr} {es : List Expr}
theorem star_cons (h : isStar e = false) : starEach (e :: es) env = (false, eval e env) :: starEach es env := by
  cases e <;> first
    | rfl
    | (cases h)
theorem noStar_of : ∀ {es : List Expr}, es.all (fun e => !isStar e) = true → NoStar env es
  | [], _ => rfl
  | e :: es, h => by
    rw [List.all_cons, Bool.and_eq_true] at h
    have ih := noStar_of h.2
    unfold NoStar at ih ⊢
    rw [star_cons (by simpa using h.1), ih]; rfl
theorem attr_base {m : Str} {w : Sem Value} (h : isSup o = false) : attributeBase o m env w = w := by
  unfold attributeBase
  split
  · cases h
  · rfl
theorem plain_ix (h : isSlc y = false) : PlainIx y := by
  intro a b
  cases y <;> first
    | rfl
    | (cases h)
theorem behind_no {op : CmpOp} (h : isSetX y = false) : behindInMarks op y = false := by
  cases y <;> first
    | rfl
    | (cases h)
theorem last_no {p q : CmpOp} {a b : Expr} (h : isSetX b = false) : lastMarks [p, q] [a, b] = false := behind_no h
theorem fold_no (h : isSetX y = false) : ∀ z, foldedSetIterable y env z = pure z := by
  intro z
  cases y <;> first
    | rfl
    | (cases h)
theorem is_true (h : plainT e = true) : ∀ whole, isTrue e env whole = (do let v ← whole; standAt e.pos; holding [v] (truthy v)) := by
  intro whole
  cases e with
  | UnaryOp op a p =>
    cases op <;> first
      | rfl
      | (cases h)
  | BoolOp => cases h
  | IfExp => cases h
  | Compare => cases h
  | _ => rfl
theorem sw_val {t : Option Expr} {l : Nat} (h : isCmp v = false) : swapsWith v t l env = pure false := by
  cases v <;> first
    | rfl
    | (cases h)
def isName : Expr → Bool
  | .Name .. => true
  | _ => false
theorem sw_tg {t : Expr} {l : Nat} (h : isName t = false) : swapsWith v (some t) l env = pure false := by
  cases v <;> cases t <;> first
    | rfl
    | (cases h)
theorem asg_cons (h : isStar e = false) : assignEach (e :: es) env = (false, assign e env) :: assignEach es env := by
  cases e <;> first
    | rfl
    | (cases h)
theorem asg_all : ∀ {es : List Expr}, es.all (fun e => !isStar e) = true → assignEach es env = es.map fun e => (false, assign e env)
  | [], _ => rfl
  | e :: es, h => by
    rw [List.all_cons, Bool.and_eq_true] at h
    rw [asg_cons (by simpa using h.1), asg_all h.2]; rfl
theorem asg_find {es : List Expr} (h : es.all (fun e => !isStar e) = true) : (assignEach es env).findIdx? (·.1) = none := by
  rw [asg_all h, List.findIdx?_eq_none_iff]
  intro x hx
  obtain ⟨e, _, rfl⟩ := List.mem_map.mp hx
  rfl
theorem asg_len {es : List Expr} (h : es.all (fun e => !isStar e) = true) : (assignEach es env).length = es.length := by
  rw [asg_all h, List.length_map]
def isTupX : Expr → Bool
  | .Tuple .. => true
  | _ => false
def isLstX : Expr → Bool
  | .List .. => true
  | _ => false
theorem sw_one (h : isTupX v = false) : swappedStores [x] v env = pure none := by
  cases v <;> first
    | (cases h; done)
    | (cases x <;> rfl)
theorem sw_two' (h : isTupX x = false) (h2 : isLstX x = false) : swappedStores [x] v env = pure none := by
  cases x <;> first
    | (cases h; done)
    | (cases h2; done)
    | (cases v <;> rfl)
def tgNames (sc : Scope) (ts : List Expr) : List Str :=
  let line := (ts.head?.map (·.pos.line)).getD 0
  ts.filterMap fun
    | .Name id pos => if sc.names.lookup id == some .local && pos.line == line then some id else none
    | _ => none
/-- stored one behind another -/
def swN (sc : Scope) (ts vs : List Expr) : Bool :=
  !(ts.length == 2 || ts.length == 3) || vs.length != ts.length || (tgNames sc ts).length != ts.length || vs.all (foldedForSure 8)
theorem sw_none {k k2 : Nat} {p p2 : Pos} {ts vs : List Expr} (h : swN env.scope ts vs = true) : swappedStores [.Tuple ts k p] (.Tuple vs k2 p2) env = pure none := by
  unfold swappedStores
  simp only [swN, Bool.or_eq_true] at h
  simp only []
  split
  · rfl
  · split
    · rfl
    · split
      · rfl
      · rename_i a b c
        split
        · rfl
        · exfalso
          rename_i d
          rcases h with ((h | h) | h) | h
          · simp [h] at a
          · simp [h] at a
          · apply c
            show ((tgNames env.scope ts).length != ts.length || (tgNames env.scope ts).eraseDups.length != (tgNames env.scope ts).length) = true
            rw [h]; rfl
          · exact d h
theorem sw_pair {kt k2 : Nat} {pt p2 px py : Pos} {x y : Str} {xa xb : Expr} (hk : env.scope.kind = .function) (hx : env.scope.names.lookup x = some .local) (hy : env.scope.names.lookup y = some .local) (hl : px.line = py.line) (hxy : x ≠ y)
    (h1 : isStar xa = false) (h2 : isStar xb = false) (hf : [xa, xb].all (foldedForSure 8) = false) (hc : [xa, xb].all (constantsAlone 8) = false) :
    swappedStores [.Tuple [.Name x px, .Name y py] kt pt] (.Tuple [xa, xb] k2 p2) env = pure (some [x, y]) := by
  have hb : env.blockKind = .function := by unfold Env.blockKind; rw [hk]; rfl
  have e1 : env.kindOf x = some .local := hx
  have e2 : env.kindOf y = some .local := hy
  have hs : ([xa, xb].any fun | .Starred .. => true | _ => false) = false := by
    cases xa <;> cases xb <;> first
      | rfl
      | (cases h1; done)
      | (cases h2; done)
  have hd : [x, y].eraseDups.length = 2 := by
    have : (x == y) = false := by simpa using hxy
    have h3 : (y == x) = false := by simpa using (Ne.symm hxy)
    simp [List.eraseDups, List.eraseDupsBy, List.eraseDupsBy.loop, this, h3]
  have hn : tgNames env.scope [.Name x px, .Name y py] = [x, y] := by
    simp [tgNames, hx, hy, Expr.pos, hl]
  unfold swappedStores
  simp only []
  split
  · rename_i c
    rw [hb] at c
    exact Bool.noConfusion (show false = true from c)
  · split
    · rename_i c
      exact Bool.noConfusion ((show true = _ from c.symm).trans hs)
    · split
      · rename_i c
        have c : ((tgNames env.scope [.Name x px, .Name y py]).length != 2 || (tgNames env.scope [.Name x px, .Name y py]).eraseDups.length != (tgNames env.scope [.Name x px, .Name y py]).length) = true := c
        rw [hn, hd] at c
        exact Bool.noConfusion (show false = true from c)
      · split
        · rename_i c
          rw [hf] at c; cases c
        · split
          · rename_i c
            rw [hc] at c; cases c
          · show pure (some (tgNames env.scope [.Name x px, .Name y py])) = _
            rw [hn]
end Sa
set_option maxHeartbeats 1000000
/-! What is known of the world, of a frame; operations seen in a text. -/
namespace Sa
open PySem L2
/-- what a global name of the module is -/
inductive Gk where
  | fn (f : Nat) | cls (c : Nat) | ecls (c : Nat) | val (d : D) | caught
structure Tab where
  gl : List (Str × Gk)
  /-- the defs' parameters -/
  ps : List (List Str)
  /-- which of them show containers -/
  gd : List Bool
  /-- the fields' and methods' names -/
  fl : List Str
def Tab.gdf (T : Tab) (f : Nat) : Bool := match T.gd[f]? with
  | some b => b
  | none => false
def Tab.pars (T : Tab) (f : Nat) : List Str := match T.ps[f]? with
  | some p => p
  | none => []
/-- a frame, as far as its text tells -/
structure Sc where
  N : List Str
  sc : Scope
  fn : Str → Bool
  gd : Bool
  lam : Bool
def bltins : List Str := ["len", "abs", "int", "all", "any", "sum", "min", "max", "tuple", "list", "sorted", "dict", "repr", "isinstance", "range", "zip", "enumerate", "str", "bool"]
/-- the def that calls what it got, under try -/
def CaughtF (K : PySem.W.Frag) (mg : Str → Option Value) (top : Addr) (x : Str) : Prop :=
  ∃ (g : Addr) (pg : Arguments) (bg : List Stmt) (sg : Scope) (dV kV doc pm cdv ct oc : Value) (an od : Option Addr) (osl : Array (Option Value)) (Ng : List Str) (a m n e : Str) (i j k1 : Nat) (p0 p1 p2 p3 p4 p5 p6 p7 p8 p9 p10 p11 p12 p13 : Pos),
    mg x = some (.ref g) ∧ PySem.W.keepIn K (.ref g) = true ∧ K.lookup g = some ⟨oc, od, .func (PySem.W.fnOf x x pg bg sg dV kV doc pm an cdv ct), osl⟩ ∧ PySem.W.codeIn K cdv x = true ∧
    L2.Binds K (PySem.W.fnOf x x pg bg sg dV kV doc pm an cdv ct) [a] [] ∧ FnScope Ng [a] sg ∧ Vis sg a ∧ CatchT sg Ng a m n e i j ∧ mg e = some (.ref top) ∧ (a == ("__debug__" : Str)) = false ∧ (a == ("__classdict__" : Str)) = false ∧
    bg = [.Assign [.Name m p0] (.Constant .none k1 p1) p2, .Try [.Expr (.Call (.Name a p3) [] [] p4) p5] [.ExceptHandler (some (.Name e p6)) (some n) [.Assign [.Name m p7] (.Name n p8) p9] p10] [] [] p11, .Return (some (.Name m p12)) p13]
structure Wf0 (T : Tab) (N : Nm) (P : Prog) (K : PySem.W.Frag) (mg : Str → Option Value) : Prop where
  flI : ∀ f g, N.fl f = N.fl g → f = g
  fl : ∀ (i : Nat) (s : Str), T.fl[i]? = some s → N.fl i = s
  kit : KitF K N P
  blt : ∀ x ∈ bltins, mg x = none
  db : ∀ x g, T.gl.lookup x = some g → (x == ("__debug__" : Str)) = false
  fn : ∀ x f, T.gl.lookup x = some (.fn f) → mg x = some (.ref (N.fA f)) ∧ PySem.W.keepIn K (.ref (N.fA f)) = true
  cls : ∀ x c, T.gl.lookup x = some (.cls c) → mg x = some (.ref (N.cA c)) ∧ ∀ cl, P.cls[c]? = some cl → Mk K (N.cA c) (N.fA cl.init)
  ecls : ∀ x c, T.gl.lookup x = some (.ecls c) → mg x = some (.ref (N.cA c)) ∧ PySem.W.keepIn K (.ref (N.cA c)) = true ∧ PySem.W.subIn K (.ref (N.cA c)) (.type "BaseException") = some true ∧ PySem.W.typeIn K (.ref (N.cA c)) = some (.type "type") ∧
    ∃ bmB B newId initId, PySem.ExcBaseFacts B newId initId bmB ∧ PySem.W.excIn K (N.cA c) bmB newId = true
  val : ∀ x d, T.gl.lookup x = some (.val d) → ∃ u v, mg x = some u ∧ RelV v u ∧ ∀ pv ρ H, Rep K (N.at pv) ρ H d v
  mth : ∀ (c : Nat) (cl : Cl) (m f : Nat), P.cls[c]? = some cl → getN cl.meths m = some f → Cls K (N.cA c) ∧ Meth K (N.cA c) (N.fl m) (N.fA f) ∧ f < T.ps.length
  fld : ∀ (c : Nat) (cl : Cl), P.cls[c]? = some cl → ∀ f, cl.flds.contains f = true → Cls K (N.cA c) ∧ NoAttr K (N.cA c) (N.fl f)
  exm : ∀ (c : Nat) (cl : Cl), P.cls[c]? = some cl → cl.up.contains P.top = true → PySem.W.exmOne K (.ref (N.cA c)) (.ref (N.cA P.top)) = some true
  caught : ∀ x, T.gl.lookup x = some .caught → CaughtF K mg (N.cA P.top) x
structure Wf (T : Tab) (N : Nm) (C : Rt) (k : Nat) (prog : Program) (w : World) (K : PySem.W.Frag) (mg : Str → Option Value) (base : Heap) : Prop extends Wf0 T N C.P K mg where
  run : ∀ f, f < T.ps.length → ∃ fd, FnG prog w K mg base (T.gdf f) k (N.fA f) fd (T.pars f) (spF K N C f) ∧ Binds K fd (T.pars f) [] ∧ ∀ n, n ≤ (T.pars f).length → KwB K fd (T.pars f) ((T.pars f).drop n) n
structure Good (T : Tab) (N : Nm) (C : Rt) (k : Nat) (G : Sc) (X : Cx) (E : XK) : Prop where
  wf : Wf T N C k X.prog X.w X.K X.mg X.base
  eN : X.N = G.N
  nd : X.N.Nodup
  sc : X.env.scope = G.sc
  fn : X.fn = G.fn
  calm : X.calm = true
  kind : X.env.scope.kind = .function
  gd : G.gd = true → X.A.guards = some []
  room : Room (k + 1) X.A
  px : Passes (L2.CX X.prog X.w) X E
  nm : ∀ z ∈ G.N, (z == ("__debug__" : Str)) = false ∧ (z == ("__classdict__" : Str)) = false
  lam : G.lam = true → Room (k + 3) X.A ∧ ∃ c P, X.env.code = .ref c ∧ LamX.TabB X.base X.mg c P ∧ (P, X.env.qual ++ "<lambda>") ∈ N.tb ∧ ∀ p ∈ N.tb, p.1 = P → p.2 = X.env.qual ++ "<lambda>"
section
variable {T : Tab} {N : Nm} {C : Rt} {k : Nat} {G : Sc} {X : Cx} {E : XK}
theorem Good.hu (g : Good T N C k G X E) : X.A.units + 64 < cLine := g.room.units
theorem Good.hu1 (g : Good T N C k G X E) : X.A.units + 1 < cLine := by have := g.hu; omega
theorem Good.rk (g : Good T N C k G X E) : Room k X.A := g.room.mono (Nat.le_succ _)
/-! ### readings of lists of expressions -/
structure EOk (X : Cx) (N : Nm) (C : Rt) (E : XK) (c : Sa.E) (x : Expr) : Prop where
  pe : PE X x (tE X.K N C E c)
  pt : isIf x = false → PT X x (tTest (tE X.K N C E c))
  pw : isBool x = true → PW X x (tTest (tE X.K N C E c))
theorem EOk.plain {c : Sa.E} {x : Expr} (hp : plainT x = true) (h : PE X x (tE X.K N C E c)) : EOk X N C E c x :=
  ⟨h, fun _ => pt_val h (is_true hp), fun hb => by cases x <;> first
    | (cases hb; done)
    | cases hp⟩
def EsOk (X : Cx) (N : Nm) (C : Rt) (E : XK) : Sa.Es → List Expr → Prop
  | .nil, [] => True
  | .cons e r, x :: xs => EOk X N C E e x ∧ EsOk X N C E r xs
  | _, _ => False
theorem EsOk.len : ∀ {es : Sa.Es} {xs : List Expr}, EsOk X N C E es xs → es.len = xs.length
  | .nil, [], _ => rfl
  | .cons e r, x :: xs, h => by simp [Es.len, EsOk.len h.2]
  | .nil, _ :: _, h => h.elim
  | .cons _ _, [], h => h.elim
theorem EsOk.pa : ∀ {es : Sa.Es} {xs : List Expr}, EsOk X N C E es xs → xs.all (fun e => !isStar e) = true → PA X xs (tEs X.K N C E es)
  | .nil, [], _, _ => pa_imp pa_nil fun _ _ _ => nil_at
  | .cons e r, x :: xs, h, hs => by
    rw [List.all_cons, Bool.and_eq_true] at hs
    exact pa_imp (pa_cons h.1.pe (EsOk.pa h.2 hs.2) (star_cons (by simpa using hs.1))) fun _ _ _ => cons_at
  | .nil, _ :: _, h, _ => h.elim
  | .cons _ _, [], h, _ => h.elim
theorem EsOk.one {es : Sa.Es} {x : Expr} (h : EsOk X N C E es [x]) : ∃ a, es = .cons a .nil ∧ EOk X N C E a x := by
  match es, h with
  | .cons a .nil, h => exact ⟨a, rfl, h.1⟩
  | .cons a (.cons _ _), h => exact h.2.elim
  | .nil, h => exact h.elim
theorem EsOk.two {es : Sa.Es} {x y : Expr} (h : EsOk X N C E es [x, y]) : ∃ a b, es = .cons a (.cons b .nil) ∧ EOk X N C E a x ∧ EOk X N C E b y := by
  match es, h with
  | .cons a r, h =>
    obtain ⟨b, rfl, hb⟩ := EsOk.one h.2
    exact ⟨a, b, rfl, h.1, hb⟩
  | .nil, h => exact h.elim
theorem EsOk.three {es : Sa.Es} {x y z : Expr} (h : EsOk X N C E es [x, y, z]) : ∃ a b c, es = .cons a (.cons b (.cons c .nil)) ∧ EOk X N C E a x ∧ EOk X N C E b y ∧ EOk X N C E c z := by
  match es, h with
  | .cons a r, h =>
    obtain ⟨b, c, rfl, hb⟩ := EsOk.two h.2
    exact ⟨a, b, c, rfl, h.1, hb⟩
  | .nil, h => exact h.elim
/-! ### operations -/
def binOf : Operator → Option Op
  | .Add => some .add
  | .Sub => some .sub
  | .Mult => some .mul
  | .FloorDiv => some .fdiv
  | .Mod => some .mod
  | .Pow => some .pow
  | _ => none
def cmpOf : CmpOp → Op
  | .Eq => .eq
  | .NotEq => .ne
  | .Lt => .lt
  | .LtE => .le
  | .Gt => .gt
  | .GtE => .ge
  | .Is => .is_
  | .IsNot => .isnot
  | .In => .in_
  | .NotIn => .notin
theorem bin_ok (hu : X.A.units + 64 < cLine) {op : Operator} {o : Op} (h : binOf op = some o) : OpR X (binaryOp op) (rOp2 X.K N C.P o) := by
  cases op <;> first
    | (cases h; done)
    | (cases h; first
      | exact snd_add
      | exact snd_sub
      | exact snd_mul
      | exact snd_fdiv
      | exact snd_mod
      | exact snd_pow)
theorem cmp_ok (hu : X.A.units + 64 < cLine) (op : CmpOp) : OpR X (compareOp op) (rOp2 X.K N C.P (cmpOf op)) := by
  cases op
  · exact snd_eq hu
  · exact snd_ne hu
  · exact snd_lt
  · exact snd_le
  · exact snd_gt
  · exact snd_ge
  · exact snd_is
  · exact snd_isnot
  · exact snd_in hu
  · exact snd_notin hu
def glB (G : Sc) (x : Str) : Bool := match G.sc.names.lookup x with
  | some .globalImplicit => true
  | _ => false
theorem Good.gl (g : Good T N C k G X E) {x : Str} (h : glB G x = true) : Gl X x := by
  show X.env.scope.names.lookup x = _
  rw [g.sc]
  unfold glB at h
  split at h
  · assumption
  · cases h
/-- a built-in of one argument, of two -/
def opName : Op → Option (Str × Nat)
  | .len => some ("len", 1)
  | .abs => some ("abs", 1)
  | .int => some ("int", 1)
  | .all => some ("all", 1)
  | .any => some ("any", 1)
  | .sum => some ("sum", 1)
  | .min2 => some ("min", 2)
  | .max2 => some ("max", 2)
  | .tuple => some ("tuple", 1)
  | .list _ => some ("list", 1)
  | .sorted _ => some ("sorted", 1)
  | .dict _ => some ("dict", 1)
  | .repr => some ("repr", 1)
  | _ => none
def kdName : Kd → Option Str
  | .int => some "int"
  | .bool => some "bool"
  | .str => some "str"
  | .tuple => some "tuple"
  | .list => some "list"
  | .dict => some "dict"
  | _ => none
def kdB (T : Tab) (P : Prog) (kd : Kd) (x : Str) : Bool := okKd P kd && match kd with
  | .own c => (match T.gl.lookup x with
    | some (.cls d) => d == c
    | some (.ecls d) => d == c
    | _ => false)
  | kd => kdName kd == some x
def isRep : Op → Bool
  | .repr => true
  | _ => false
def isIdx : Op → Bool
  | .idx => true
  | _ => false
def isRev : Op → Bool
  | .rev => true
  | _ => false
def isNeg : Op → Bool
  | .neg => true
  | _ => false
def isSlcO : Op → Option (Bool × Bool)
  | .slc a b => some (a, b)
  | _ => none
def kdOf : Op → Option Kd
  | .isin k => some k
  | _ => none
def opArgs (T : Tab) (P : Prog) (G : Sc) (o : Op) : Expr → Option (List Expr)
  | .BinOp a op b _ => if decide (binOf op = some o) then some [a, b] else none
  | .Compare a [op] [b] _ => if decide (cmpOf op = o) && !isSetX b then some [a, b] else none
  | .UnaryOp .USub a _ => if isNeg o then some [a] else none
  | .Subscript a (.Slice none none none _) _ => if isSlcO o == some (false, false) then some [a] else none
  | .Subscript a (.Slice (some l) none none _) _ => if isSlcO o == some (true, false) then some [a, l] else none
  | .Subscript a (.Slice none (some h) none _) _ => if isSlcO o == some (false, true) then some [a, h] else none
  | .Subscript a (.Slice (some l) (some h) none _) _ => if isSlcO o == some (true, true) then some [a, l, h] else none
  | .Subscript a (.Slice none none (some (.UnaryOp .USub (.Constant (.int 1) _ _) _)) _) _ => if isRev o then some [a] else none
  | .Subscript a s _ => if isIdx o && !isSlc s then some [a, s] else none
  | .Call (.Name f _) [a] [] _ => if (opName o == some (f, 1)) && glB G f && (!isRep o || G.gd) && !isStar a then some [a] else none
  | .Call (.Name f _) [a, b] [] _ => if (opName o == some (f, 2)) && glB G f && !isStar a && !isStar b then some [a, b] else
      match kdOf o, b with
      | some kd, .Name y _ => if (f == "isinstance") && glB G f && glB G y && !isStar a && kdB T P kd y then some [a] else none
      | _, _ => none
  | _ => none
def opX (o : Op) (es : Sa.Es) : Bool := match isSlcO o, es with
  | some (true, true), .cons _ (.cons _ (.cons c .nil)) => calmE c
  | some (true, true), _ => false
  | _, _ => true
end
end Sa
set_option maxHeartbeats 1000000
namespace Sa
open PySem L2
section
variable {T : Tab} {N : Nm} {C : Rt} {k : Nat} {G : Sc} {X : Cx} {E : XK}
theorem slcO_inv {o : Op} {a b : Bool} (h : (isSlcO o == some (a, b)) = true) : o = .slc a b := by
  cases o <;> simp [isSlcO] at h
  obtain ⟨rfl, rfl⟩ := h; rfl
theorem neg_inv {o : Op} (h : isNeg o = true) : o = .neg := by cases o <;> first | rfl | (cases h)
theorem rev_inv {o : Op} (h : isRev o = true) : o = .rev := by cases o <;> first | rfl | (cases h)
theorem idx_inv {o : Op} (h : isIdx o = true) : o = .idx := by cases o <;> first | rfl | (cases h)
theorem kdOf_inv {o : Op} {kd : Kd} (h : kdOf o = some kd) : o = .isin kd := by
  cases o <;> first
    | (cases h; rfl)
    | (cases h)
theorem blt_ne {f : Str} (h : f ∈ bltins) : f ≠ "__name__" ∧ (f == ("__debug__" : Str)) = false := by
  have : ∀ f ∈ bltins, f ≠ "__name__" ∧ (f == ("__debug__" : Str)) = false := by decide
  exact this f h
theorem call1_ok {f : Str} {a : Sa.E} {x : Expr} {p pos : Pos} {o : Op} (g : Good T N C k G X E) (ho : opName o = some (f, 1)) (hg : glB G f = true) (hr : isRep o = true → G.gd = true) (hs : isStar x = false) (ha : EOk X N C E a x) :
    PE X (.Call (.Name f p) [x] [] pos) (tE X.K N C E (.op o (.cons a .nil))) := by
  have hG := g.gl hg
  have hP : PA X [x] (tCons (tE X.K N C E a) tNil) := pa_cons ha.pe pa_nil (star_cons hs)
  have hst : starEach [x] X.env = (false, eval x X.env) :: starEach [] X.env := star_cons hs
  have hm : ∀ y ∈ bltins, X.mg y = none := g.wf.blt
  have hc := g.calm
  have hu := g.hu
  refine pe_imp ?_ fun _ _ _ => cb1_at
  cases o with
  | len => cases ho; exact pe_callB snd_len hG (hm _ (by decide)) rfl hP (blt_ne (by decide)).1 (blt_ne (by decide)).2 hst rfl
  | abs => cases ho; exact pe_callB snd_abs hG (hm _ (by decide)) rfl hP (blt_ne (by decide)).1 (blt_ne (by decide)).2 hst rfl
  | int => cases ho; exact pe_callTy snd_int hG (hm _ (by decide)) rfl hP (blt_ne (by decide)).1 (blt_ne (by decide)).2 hst rfl
  | all => cases ho; exact pe_callB (snd_all hc) hG (hm _ (by decide)) rfl hP (blt_ne (by decide)).1 (blt_ne (by decide)).2 hst rfl
  | any => cases ho; exact pe_callB (snd_any hc) hG (hm _ (by decide)) rfl hP (blt_ne (by decide)).1 (blt_ne (by decide)).2 hst rfl
  | sum => cases ho; exact pe_callB (snd_sum hc) hG (hm _ (by decide)) rfl hP (blt_ne (by decide)).1 (blt_ne (by decide)).2 hst rfl
  | tuple => cases ho; exact pe_callTy snd_tuple hG (hm _ (by decide)) rfl hP (blt_ne (by decide)).1 (blt_ne (by decide)).2 hst rfl
  | list al => cases ho; exact pe_callTy snd_list hG (hm _ (by decide)) rfl hP (blt_ne (by decide)).1 (blt_ne (by decide)).2 hst rfl
  | sorted al => cases ho; exact pe_callB (snd_sorted hc hu) hG (hm _ (by decide)) rfl hP (blt_ne (by decide)).1 (blt_ne (by decide)).2 hst rfl
  | dict al => cases ho; exact pe_callTy (snd_dict hc) hG (hm _ (by decide)) rfl hP (blt_ne (by decide)).1 (blt_ne (by decide)).2 hst rfl
  | repr => cases ho; exact pe_callB (snd_repr (g.gd (hr rfl)) hu) hG (hm _ (by decide)) rfl hP (blt_ne (by decide)).1 (blt_ne (by decide)).2 hst rfl
  | min2 => exact absurd (show (2:Nat) = 1 from congrArg Prod.snd (Option.some.inj ho)) (by decide)
  | max2 => exact absurd (show (2:Nat) = 1 from congrArg Prod.snd (Option.some.inj ho)) (by decide)
  | _ => cases ho
theorem call2_ok {f : Str} {a b : Sa.E} {x y : Expr} {p pos : Pos} {o : Op} (g : Good T N C k G X E) (ho : opName o = some (f, 2)) (hg : glB G f = true) (hs : isStar x = false) (hs2 : isStar y = false) (ha : EOk X N C E a x) (hb : EOk X N C E b y) :
    PE X (.Call (.Name f p) [x, y] [] pos) (tE X.K N C E (.op o (.cons a (.cons b .nil)))) := by
  have hG := g.gl hg
  have hst2 : starEach [y] X.env = (false, eval y X.env) :: starEach [] X.env := star_cons hs2
  have hst : starEach [x, y] X.env = (false, eval x X.env) :: starEach [y] X.env := star_cons hs
  have hP : PA X [x, y] (tCons (tE X.K N C E a) (tCons (tE X.K N C E b) tNil)) := pa_cons ha.pe (pa_cons hb.pe pa_nil hst2) hst
  have hpl : (backTo pos (starEach [y] X.env)).any (·.1) = false := by rw [hst2]; rfl
  have hm : ∀ y ∈ bltins, X.mg y = none := g.wf.blt
  have hc := g.calm
  refine pe_imp ?_ fun _ _ _ => cb2_at
  cases o with
  | min2 => cases ho; exact pe_callB (snd_min2 hc) hG (hm _ (by decide)) rfl hP (blt_ne (by decide)).1 (blt_ne (by decide)).2 hst hpl
  | max2 => cases ho; exact pe_callB (snd_max2 hc) hG (hm _ (by decide)) rfl hP (blt_ne (by decide)).1 (blt_ne (by decide)).2 hst hpl
  | len => exact absurd (show (1:Nat) = 2 from congrArg Prod.snd (Option.some.inj ho)) (by decide)
  | abs => exact absurd (show (1:Nat) = 2 from congrArg Prod.snd (Option.some.inj ho)) (by decide)
  | int => exact absurd (show (1:Nat) = 2 from congrArg Prod.snd (Option.some.inj ho)) (by decide)
  | all => exact absurd (show (1:Nat) = 2 from congrArg Prod.snd (Option.some.inj ho)) (by decide)
  | any => exact absurd (show (1:Nat) = 2 from congrArg Prod.snd (Option.some.inj ho)) (by decide)
  | sum => exact absurd (show (1:Nat) = 2 from congrArg Prod.snd (Option.some.inj ho)) (by decide)
  | tuple => exact absurd (show (1:Nat) = 2 from congrArg Prod.snd (Option.some.inj ho)) (by decide)
  | list al => exact absurd (show (1:Nat) = 2 from congrArg Prod.snd (Option.some.inj ho)) (by decide)
  | sorted al => exact absurd (show (1:Nat) = 2 from congrArg Prod.snd (Option.some.inj ho)) (by decide)
  | dict al => exact absurd (show (1:Nat) = 2 from congrArg Prod.snd (Option.some.inj ho)) (by decide)
  | repr => exact absurd (show (1:Nat) = 2 from congrArg Prod.snd (Option.some.inj ho)) (by decide)
  | _ => cases ho
theorem kd_pe {kd : Kd} {y : Str} {p : Pos} (g : Good T N C k G X E) (hg : glB G y = true) (hk : kdB T C.P kd y = true) : PE X (.Name y p) (L2.tC (kdV N kd)) := by
  have hG := g.gl hg
  have hm : ∀ y ∈ bltins, X.mg y = none := g.wf.blt
  unfold kdB at hk
  rw [Bool.and_eq_true] at hk
  obtain ⟨h1, h2⟩ := hk
  cases kd with
  | own c =>
    simp only at h2
    split at h2
    · rename_i d hl
      obtain rfl : d = c := by simpa using h2
      exact pe_glob hG (g.wf.cls _ _ hl).1 rfl (g.wf.db _ _ hl)
    · rename_i d hl
      obtain rfl : d = c := by simpa using h2
      exact pe_glob hG (g.wf.ecls _ _ hl).1 rfl (g.wf.db _ _ hl)
    · cases h2
  | seq => cases h1
  | int => obtain rfl : ("int" : Str) = y := by simpa [kdName] using h2
           exact pe_bltn hG (hm _ (by decide)) rfl rfl (blt_ne (by decide)).1 (blt_ne (by decide)).2
  | bool => obtain rfl : ("bool" : Str) = y := by simpa [kdName] using h2
            exact pe_bltn hG (hm _ (by decide)) rfl rfl (blt_ne (by decide)).1 (blt_ne (by decide)).2
  | str => obtain rfl : ("str" : Str) = y := by simpa [kdName] using h2
           exact pe_bltn hG (hm _ (by decide)) rfl rfl (blt_ne (by decide)).1 (blt_ne (by decide)).2
  | tuple => obtain rfl : ("tuple" : Str) = y := by simpa [kdName] using h2
             exact pe_bltn hG (hm _ (by decide)) rfl rfl (blt_ne (by decide)).1 (blt_ne (by decide)).2
  | list => obtain rfl : ("list" : Str) = y := by simpa [kdName] using h2
            exact pe_bltn hG (hm _ (by decide)) rfl rfl (blt_ne (by decide)).1 (blt_ne (by decide)).2
  | dict => obtain rfl : ("dict" : Str) = y := by simpa [kdName] using h2
            exact pe_bltn hG (hm _ (by decide)) rfl rfl (blt_ne (by decide)).1 (blt_ne (by decide)).2
theorem kdB_ok {kd : Kd} {y : Str} {P : Prog} (hk : kdB T P kd y = true) : okKd P kd = true := by
  unfold kdB at hk
  rw [Bool.and_eq_true] at hk
  exact hk.1
theorem isin_ok {kd : Kd} {a : Sa.E} {x : Expr} {y : Str} {p p2 pos : Pos} (g : Good T N C k G X E) (hg : glB G "isinstance" = true) (hgy : glB G y = true) (hs : isStar x = false) (hk : kdB T C.P kd y = true) (ha : EOk X N C E a x) :
    PE X (.Call (.Name "isinstance" p) [x, .Name y p2] [] pos) (tE X.K N C E (.op (.isin kd) (.cons a .nil))) := by
  have hst : starEach [x, .Name y p2] X.env = (false, eval x X.env) :: starEach [.Name y p2] X.env := star_cons hs
  have hP : PA X [x, .Name y p2] (tCons (tE X.K N C E a) (tCons (L2.tC (kdV N kd)) tNil)) := pa_cons ha.pe (pa_cons (kd_pe g hgy hk) pa_nil rfl) hst
  exact pe_imp (pe_callB (snd_isin g.wf.kit (kdB_ok hk)) (g.gl hg) (g.wf.blt _ (by decide)) rfl hP (blt_ne (by decide)).1 (blt_ne (by decide)).2 hst rfl) fun _ _ _ => isin_at
theorem op_ok {o : Op} {es : Sa.Es} {x : Expr} {xs : List Expr} (g : Good T N C k G X E) (h : opArgs T C.P G o x = some xs) (hx : opX o es = true) (hs : EsOk X N C E es xs) : EOk X N C E (.op o es) x := by
  have hu := g.hu
  unfold opArgs at h
  split at h
  · split at h
    · rename_i c
      cases h
      obtain ⟨a, b, rfl, ha, hb⟩ := hs.two
      exact EOk.plain rfl (s_bin (bin_ok hu (of_decide_eq_true c)) ha.pe hb.pe)
    · cases h
  · split at h
    · rename_i c
      cases h
      rw [Bool.and_eq_true] at c
      obtain rfl := of_decide_eq_true c.1
      have hm : ∀ op, behindInMarks op _ = false := fun op => behind_no (op := op) (by simpa using c.2)
      obtain ⟨a, b, rfl, ha, hb⟩ := hs.two
      exact ⟨s_cmp (cmp_ok hu _) ha.pe hb.pe (hm _), fun _ => s_cmpT (cmp_ok hu _) ha.pe hb.pe (hm _), fun z => by cases z⟩
    · cases h
  · split at h
    · rename_i c
      cases h
      obtain rfl := neg_inv c
      obtain ⟨a, rfl, ha⟩ := hs.one
      exact EOk.plain rfl (pe_imp (pe_un snd_neg ha.pe) fun _ _ _ => neg_at)
    · cases h
  · split at h
    · rename_i c
      cases h
      obtain rfl := slcO_inv c
      obtain ⟨a, rfl, ha⟩ := hs.one
      exact EOk.plain rfl (pe_imp (pe_slice snd_slc ha.pe po_none po_none) fun _ _ _ => slc00_at)
    · cases h
  · split at h
    · rename_i c
      cases h
      obtain rfl := slcO_inv c
      obtain ⟨a, b, rfl, ha, hb⟩ := hs.two
      exact EOk.plain rfl (pe_imp (pe_slice snd_slc ha.pe (po_some hb.pe) po_none) fun _ _ _ => slc10_at)
    · cases h
  · split at h
    · rename_i c
      cases h
      obtain rfl := slcO_inv c
      obtain ⟨a, b, rfl, ha, hb⟩ := hs.two
      exact EOk.plain rfl (pe_imp (pe_slice snd_slc ha.pe po_none (po_some hb.pe)) fun _ _ _ => slc01_at)
    · cases h
  · split at h
    · rename_i c
      cases h
      obtain rfl := slcO_inv c
      obtain ⟨a, b, d, rfl, ha, hb, hd⟩ := hs.three
      exact EOk.plain rfl (pe_imp (pe_slice snd_slc ha.pe (po_some hb.pe) (po_some hd.pe)) fun _ _ _ => slc11_at hx)
    · cases h
  · split at h
    · rename_i c
      cases h
      obtain rfl := rev_inv c
      obtain ⟨a, rfl, ha⟩ := hs.one
      exact EOk.plain rfl (s_rev ha.pe)
    · cases h
  · split at h
    · rename_i c
      cases h
      rw [Bool.and_eq_true] at c
      obtain rfl := idx_inv c.1
      obtain ⟨a, b, rfl, ha, hb⟩ := hs.two
      exact EOk.plain rfl (pe_imp (pe_ix (snd_idx hu) ha.pe hb.pe (plain_ix (by simpa using c.2))) fun _ _ _ => op2_at)
    · cases h
  · split at h
    · rename_i c
      cases h
      simp only [Bool.and_eq_true, Bool.or_eq_true, Bool.not_eq_true', beq_iff_eq] at c
      obtain ⟨⟨⟨c1, c2⟩, c3⟩, c4⟩ := c
      obtain ⟨a, rfl, ha⟩ := hs.one
      exact EOk.plain rfl (call1_ok g c1 c2 (fun z => by rcases c3 with q | q; · rw [z] at q; cases q
                                                         · exact q) c4 ha)
    · cases h
  · split at h
    · rename_i c
      cases h
      simp only [Bool.and_eq_true, Bool.not_eq_true', beq_iff_eq] at c
      obtain ⟨⟨⟨c1, c2⟩, c3⟩, c4⟩ := c
      obtain ⟨a, b, rfl, ha, hb⟩ := hs.two
      exact EOk.plain rfl (call2_ok g c1 c2 c3 c4 ha hb)
    · split at h
      · rename_i kd y p2 hkd hneg
        split at h
        · rename_i c
          cases h
          simp only [Bool.and_eq_true, Bool.not_eq_true', beq_iff_eq] at c
          obtain ⟨⟨⟨⟨rfl, c2⟩, c3⟩, c4⟩, c5⟩ := c
          obtain rfl := kdOf_inv hkd
          obtain ⟨a, rfl, ha⟩ := hs.one
          exact EOk.plain rfl (isin_ok g c2 c3 c4 c5 ha)
        · cases h
      · cases h
  · cases h
end
end Sa
set_option maxHeartbeats 2000000
/-! The check of a text against its code. -/
namespace Sa
open PySem L2
def noStars (xs : List Expr) : Bool := xs.all fun e => !isStar e
def visB (G : Sc) (x : Str) : Bool := match G.sc.names.lookup x with
  | some .local => true
  | some .cell => true
  | some .free => true
  | _ => false
def locB (G : Sc) (x : Str) : Bool := match G.sc.names.lookup x with
  | some .local => true
  | some .cell => G.fn x
  | _ => false
def varB (G : Sc) (i : Nat) (x : Expr) : Bool := match x with
  | .Name z _ => decide (G.N[i]? = some z) && visB G z
  | _ => false
def cstB (c : Const) (d : D) : Bool := match c, d with
  | .none, .non => true
  | .bool a, .bl b => a == b
  | .int a, .int b => decide (a = b)
  | .str a, .str b => decide (a = b)
  | _, _ => false
def fnB (T : Tab) (G : Sc) (f : Nat) : Bool := decide (f < T.ps.length) && (!T.gdf f || G.gd)
def gfnB (T : Tab) (G : Sc) (x : Str) (f : Nat) : Bool := glB G x && fnB T G f && match T.gl.lookup x with
  | some (.fn g) => g == f
  | _ => false
def gclsB (T : Tab) (P : Prog) (G : Sc) (x : Str) (c : Nat) : Option Cl := if glB G x then match T.gl.lookup x with
  | some (.cls d) => if d == c then match P.cls[c]? with
    | some cl => if fnB T G cl.init then some cl else none
    | none => none else none
  | _ => none else none
/-- the methods of this name -/
def mthB (T : Tab) (P : Prog) (G : Sc) (m : Nat) : Bool := P.cls.all fun cl => match getN cl.meths m with
  | some f => !T.gdf f || G.gd
  | none => true
def kwOk (kws : List Keyword) (ks : List Str) : Bool := (kws.all fun k => k.arg.isSome) && decide (kws.filterMap (·.arg) = ks)
def kwVals (kws : List Keyword) : List Expr := kws.map fun k => k.value
def Sc.blk (G : Sc) (scope : Scope) : Sc := { N := G.N, sc := relS scope G.sc, fn := fun x => scope.names.lookup x == some .cell, gd := G.gd, lam := G.lam }
def Sc.lamS (G : Sc) (scope : Scope) : Sc := { N := G.N, sc := scope, fn := fun _ => false, gd := false, lam := false }
def ownL (N : List Str) (scope : Scope) : List (Str × Nat) := scope.names.filterMap fun y => if y.2 == .local || y.2 == .cell then (N.idxOf? y.1).map fun i => (y.1, i) else none
def ownB (G : Sc) (scope : Scope) (own sl : List Nat) : Bool := decide (own = (ownL G.N scope).map (·.2)) && blkC G.N G.sc scope (ownL G.N scope) && sl.all fun i => own.contains i
def dkeys : List (Option Expr) → List Expr → Option (List Expr)
  | [], [] => some []
  | some k :: ks, v :: vs => match dkeys ks vs with
    | some r => some (k :: v :: r)
    | none => none
  | _, _ => none
def mName : Op → Option (Str × Nat)
  | .append => some ("append", 1)
  | .pop => some ("pop", 0)
  | .popAt => some ("pop", 1)
  | .extend => some ("extend", 1)
  | .get => some ("get", 1)
  | .get2 => some ("get", 2)
  | _ => none
def noPar (a : Arguments) : Bool := match a with
  | ⟨[], [], none, [], [], none, []⟩ => true
  | _ => false
variable (T : Tab) (P : Prog)
mutual
def chkE : Sa.E → Sc → Expr → Bool
  | .var i, G, x => varB G i x
  | .cst d, G, x => match x with
    | .Constant c _ _ => cstB c d
    | .Name z _ => glB G z && match T.gl.lookup z with
      | some (.val d') => decide (d' = d)
      | _ => false
    | _ => false
  | .tup es, G, x => match x with
    | .Tuple xs _ _ => noStars xs && decide (es.len ≤ 1000) && chkEs es G xs
    | _ => false
  | .lst _ es, G, x => match x with
    | .List xs _ => noStars xs && chkEs es G xs
    | _ => false
  | .dct _ es, G, x => match x with
    | .Dict ks vs _ => match dkeys ks vs with
      | some xs => decide (es.len ≤ 30) && evens es && chkEs es G xs
      | none => false
    | _ => false
  | .op o es, G, x => match opArgs T P G o x with
    | some xs => opX o es && chkEs es G xs
    | none => false
  | .and a b, G, x => match x with
    | .BoolOp .And (y :: z :: r) pos => !isIf y && chkE a G y && match r with
      | [] => !isIf z && chkE b G z
      | w :: r => chkE b G (.BoolOp .And (z :: w :: r) pos)
    | _ => false
  | .or a b, G, x => match x with
    | .BoolOp .Or (y :: z :: r) pos => !isIf y && chkE a G y && match r with
      | [] => !isIf z && chkE b G z
      | w :: r => chkE b G (.BoolOp .Or (z :: w :: r) pos)
    | _ => false
  | .not a, G, x => match x with
    | .UnaryOp .Not y _ => !isIf y && chkE a G y
    | _ => false
  | .ite c a b, G, x => match x with
    | .IfExp y u v _ => !isIf y && chkE c G y && chkE a G u && chkE b G v
    | _ => false
  | .chain p q a b c, G, x => match x with
    | .Compare u [o, o'] [v, w] _ => decide (cmpOf o = p) && decide (cmpOf o' = q) && !isSetX w && chkE a G u && chkE b G v && chkE c G w
    | _ => false
  | .call f es, G, x => match x with
    | .Call (.Name z _) xs [] _ => gfnB T G z f && noStars xs && chkEs es G xs
    | _ => false
  | .callK f es ks, G, x => match x with
    | .Call (.Name z _) xs kws _ => gfnB T G z f && noStars xs && decide (es.len ≤ (T.pars f).length) && kwOk kws ((T.pars f).drop es.len) && chkEs es G xs && chkEs ks G (kwVals kws)
    | _ => false
  | .new c es, G, x => match x with
    | .Call (.Name z _) xs [] _ => (gclsB T P G z c).isSome && noStars xs && chkEs es G xs
    | _ => false
  | .newK c es ks, G, x => match x with
    | .Call (.Name z _) xs kws _ => match gclsB T P G z c with
      | some cl => noStars xs && decide (es.len + 1 ≤ (T.pars cl.init).length) && kwOk kws ((T.pars cl.init).drop (es.len + 1)) && chkEs es G xs && chkEs ks G (kwVals kws)
      | none => false
    | _ => false
  | .meth m o es, G, x => match x with
    | .Call (.Attribute y z ap) xs [] pos => decide (T.fl[m]? = some z) && mthB T P G m && !isSup y && (ap.endLine == pos.line) && noStars xs && decide (xs.length < 29) && chkE o G y && chkEs es G xs
    | _ => false
  | .attr f o, G, x => match x with
    | .Attribute y z _ => decide (T.fl[f]? = some z) && !isSup y && chkE o G y
    | _ => false
  | .comp _ own t it c e, G, x => match x with
    | .ListComp elt [⟨tg, iter, ifs, as⟩] scope _ => decide (as = 0) && !isSetX iter && ownB G scope own t.slots && few c && ifs.all (fun y => !isIf y) && chkT t (G.blk scope) tg && chkEs c (G.blk scope) ifs && chkE e (G.blk scope) elt && chkI it G tg iter
    | _ => false
  | .dcomp _ own t it k v, G, x => match x with
    | .DictComp kx vx [⟨tg, iter, ifs, as⟩] scope _ => decide (as = 0) && ifs.isEmpty && !isSetX iter && ownB G scope own t.slots && chkT t (G.blk scope) tg && chkE k (G.blk scope) kx && chkE v (G.blk scope) vx && noKeys it && chkI it G tg iter
    | _ => false
  | .mth o r es, G, x => match x with
    | .Call (.Attribute y z ap) xs [] pos => (mName o == some (z, xs.length)) && !isSup y && (ap.endLine == pos.line) && noStars xs && chkE r G y && chkEs es G xs
    | _ => false
  | .caught e, G, x => match x with
    | .Call (.Name z _) [.Lambda params body scope _] [] _ => G.lam && glB G z && (match T.gl.lookup z with
      | some .caught => true
      | _ => false) && noPar params && LamX.lamSB G.sc scope && chkE e (G.lamS scope) body
    | _ => false
  | .comp2 .., _, _ => false
  | .callv .., _, _ => false
def chkEs : Sa.Es → Sc → List Expr → Bool
  | .nil, _, xs => xs.isEmpty
  | .cons e r, G, xs => match xs with
    | x :: ys => chkE e G x && chkEs r G ys
    | [] => false
def chkI : Sa.It → Sc → Expr → Expr → Bool
  | .of e, G, tg, x => chkE e G x
  | .keys i, G, _, x => varB G i x
  | .rng e, G, tg, x => match x with
    | .Call (.Name z _) [y] [] _ => (z == "range") && glB G z && !isStar y && chkE e G y
    | _ => false
  | .rng2 a b, G, tg, x => match x with
    | .Call (.Name z _) [y, w] [] _ => (z == "range") && glB G z && !isStar y && !isStar w && chkE a G y && chkE b G w
    | _ => false
  | .zip a b, G, tg, x => isTupX tg && match x with
    | .Call (.Name z _) [y, w] [] _ => (z == "zip") && glB G z && !isStar y && !isStar w && chkE a G y && chkE b G w
    | _ => false
  | .enum e, G, tg, x => isTupX tg && match x with
    | .Call (.Name z _) [y] [] _ => (z == "enumerate") && glB G z && !isStar y && chkE e G y
    | _ => false
def chkT : Sa.Tg → Sc → Expr → Bool
  | .nm i, G, x => match x with
    | .Name z _ => decide (G.N[i]? = some z) && locB G z
    | _ => false
  | .tp ts, G, x => match x with
    | .Tuple xs _ _ => noStars xs && (ts.len == xs.length) && chkTs ts G xs
    | _ => false
  | .sub o i, G, x => match x with
    | .Subscript y z _ => !isSlc z && chkE o G y && chkE i G z
    | _ => false
  | .fld _ _, _, _ => false
def chkTs : Sa.Tgs → Sc → List Expr → Bool
  | .nil, _, xs => xs.isEmpty
  | .cons t r, G, xs => match xs with
    | x :: ys => chkT t G x && chkTs r G ys
    | [] => false
end
end Sa
set_option maxHeartbeats 2000000
/-! What the check says: the single constructs. -/
namespace Sa
open PySem L2
section
variable {T : Tab} {N : Nm} {C : Rt} {k : Nat} {G : Sc} {X : Cx} {E : XK}
theorem visB_ok {G : Sc} {x : Str} {sc : Scope} (e : sc = G.sc) (h : visB G x = true) : Vis sc x := by
  unfold visB at h
  subst e
  split at h
  · exact .inl (by assumption)
  · exact .inr (.inl (by assumption))
  · exact .inr (.inr (by assumption))
  · cases h
theorem var_ok {i : Nat} {x : Expr} (g : Good T N C k G X E) (h : varB G i x = true) : PE X x (tVar i) ∧ plainT x = true := by
  unfold varB at h
  split at h
  · rename_i z p
    rw [Bool.and_eq_true] at h
    have h1 : G.N[i]? = some z := of_decide_eq_true h.1
    have hz := g.nm z (List.mem_of_getElem? h1)
    exact ⟨pe_var (by rw [g.eN]; exact h1) (visB_ok g.sc h.2) hz.1 hz.2, rfl⟩
  · cases h
theorem cstB_ok {c : Const} {d : D} {j : Nat} {p : Pos} (h : cstB c d = true) : PE X (.Constant c j p) (tE X.K N C E (.cst d)) := by
  unfold cstB at h
  split at h
  · exact pe_imp pe_non fun _ _ _ => cst_at fun _ _ _ => rfl
  · obtain rfl := beq_iff_eq.mp h
    exact pe_imp pe_bl fun _ _ _ => cst_at fun _ _ _ => rfl
  · obtain rfl := of_decide_eq_true h
    exact pe_imp pe_int fun _ _ _ => cst_at fun _ _ _ => rfl
  · obtain rfl := of_decide_eq_true h
    exact pe_imp pe_str fun _ _ _ => cst_at fun _ _ _ => rfl
  · cases h
theorem val_ok {z : Str} {d : D} {p : Pos} (g : Good T N C k G X E) (h1 : glB G z = true) (h : T.gl.lookup z = some (.val d)) : PE X (.Name z p) (tE X.K N C E (.cst d)) := by
  obtain ⟨u, v, hm, r, hr⟩ := g.wf.val z d h
  exact pe_imp (pe_glob (g.gl h1) hm r (g.wf.db _ _ h)) fun _ _ _ => cst_at hr
theorem fnB_run {f : Nat} (g : Good T N C k G X E) (h : fnB T G f = true) : ∃ fd, FnG X.prog X.w X.K X.mg X.base G.gd k (N.fA f) fd (T.pars f) (spF X.K N C f) ∧ Binds X.K fd (T.pars f) [] ∧ ∀ n, n ≤ (T.pars f).length → KwB X.K fd (T.pars f) ((T.pars f).drop n) n := by
  unfold fnB at h
  simp only [Bool.and_eq_true, Bool.or_eq_true, Bool.not_eq_true', decide_eq_true_eq] at h
  obtain ⟨fd, F, b, kw⟩ := g.wf.run f h.1
  refine ⟨fd, F.weak fun z => ?_, b, kw⟩
  rcases h.2 with q | q
  · rw [q] at z; cases z
  · exact q
theorem gfnB_ok {z : Str} {f : Nat} (h : gfnB T G z f = true) : glB G z = true ∧ fnB T G f = true ∧ T.gl.lookup z = some (.fn f) := by
  unfold gfnB at h
  simp only [Bool.and_eq_true] at h
  obtain ⟨⟨h1, h2⟩, h3⟩ := h
  refine ⟨h1, h2, ?_⟩
  split at h3
  · rename_i d e
    obtain rfl : d = f := by simpa using h3
    exact e
  · cases h3
theorem gclsB_ok {P : Prog} {z : Str} {c : Nat} {cl : Cl} (h : gclsB T P G z c = some cl) : glB G z = true ∧ fnB T G cl.init = true ∧ T.gl.lookup z = some (.cls c) ∧ P.cls[c]? = some cl := by
  unfold gclsB at h
  split at h
  · rename_i h1
    split at h
    · rename_i d e
      split at h
      · rename_i hd
        obtain rfl : d = c := by simpa using hd
        split at h
        · rename_i cl' e2
          split at h
          · rename_i h2
            cases h
            exact ⟨h1, h2, e, e2⟩
          · cases h
        · cases h
      · cases h
    · cases h
  · cases h
theorem nostars_cons {x : Expr} {xs : List Expr} (h : noStars (x :: xs) = true) : isStar x = false ∧ noStars xs = true := by
  unfold noStars at h ⊢
  rw [List.all_cons, Bool.and_eq_true] at h
  exact ⟨by simpa using h.1, h.2⟩
theorem call_ok {f : Nat} {es : Sa.Es} {z : Str} {xs : List Expr} {p pos : Pos} (g : Good T N C k G X E) (hb : gfnB T G z f = true) (hn : noStars xs = true) (hs : EsOk X N C E es xs) : PE X (.Call (.Name z p) xs [] pos) (tE X.K N C E (.call f es)) := by
  obtain ⟨h1, h2, h3⟩ := gfnB_ok hb
  obtain ⟨fd, F, b, _⟩ := fnB_run g h2
  obtain ⟨m1, m2⟩ := g.wf.fn z f h3
  cases xs with
  | nil =>
    match es, hs with
    | .nil, _ => exact pe_imp (pe_callG0 F g.rk g.gd (g.gl h1) m1 m2 b g.px (g.wf.db _ _ h3)) fun _ _ _ h => nil_at (call_at h)
  | cons x xs =>
    obtain ⟨a1, a2⟩ := nostars_cons hn
    exact pe_imp (pe_callG F g.rk g.gd (g.gl h1) m1 m2 b g.px (hs.pa hn) (g.wf.db _ _ h3) (star_cons a1) (backTo_fst (noStar_of a2)).1) fun _ _ _ => call_at
theorem new_ok {c : Nat} {es : Sa.Es} {z : Str} {xs : List Expr} {p pos : Pos} (g : Good T N C k G X E) (hb : (gclsB T C.P G z c).isSome = true) (hn : noStars xs = true) (hs : EsOk X N C E es xs) : PE X (.Call (.Name z p) xs [] pos) (tE X.K N C E (.new c es)) := by
  obtain ⟨cl, hb⟩ := Option.isSome_iff_exists.mp hb
  obtain ⟨h1, h2, h3, h4⟩ := gclsB_ok hb
  obtain ⟨fd, F, b, _⟩ := fnB_run g h2
  obtain ⟨m1, m2⟩ := g.wf.cls z c h3
  cases xs with
  | nil =>
    match es, hs with
    | .nil, _ => exact pe_imp (pe_makeG0 (m2 cl h4) F g.room g.gd (g.gl h1) m1 b g.px (g.wf.db _ _ h3)) fun _ _ _ h => nil_at (new_at h4 h)
  | cons x xs => exact pe_imp (pe_makeG (m2 cl h4) F g.room g.gd (g.gl h1) m1 b g.px (hs.pa hn) (g.wf.db _ _ h3) (noStar_of hn)) fun _ _ _ => new_at h4
/-! ### keywords -/
theorem kw_each {env : PySem.Env} : ∀ kws : List Keyword, keywordEach kws env = kws.map fun k => (k.arg, eval k.value env)
  | [] => rfl
  | ⟨n, v, p⟩ :: r => by
    show (n, eval v env) :: keywordEach r env = _
    rw [kw_each r]; rfl
theorem kw_all {env : PySem.Env} {pos : Pos} {kws : List Keyword} {ks : List Str} (h : kwOk kws ks = true) : (backToKw pos (keywordEach kws env)).all (·.1.isSome) = true ∧ (backToKw pos (keywordEach kws env)).filterMap (·.1) = ks ∧ (backToKw pos (keywordEach kws env)).any (·.1.isNone) = false ∧ kws.length = ks.length := by
  unfold kwOk at h
  rw [Bool.and_eq_true] at h
  obtain ⟨h1, h2⟩ := h
  replace h2 := of_decide_eq_true h2
  subst h2
  rw [kw_each]
  induction kws with
  | nil => exact ⟨rfl, rfl, rfl, rfl⟩
  | cons a r ih =>
    rw [List.all_cons, Bool.and_eq_true] at h1
    obtain ⟨s, hs⟩ := Option.isSome_iff_exists.mp h1.1
    obtain ⟨i1, i2, i3, i4⟩ := ih h1.2
    simp only [backToKw, List.map_cons, List.map_map] at i1 i2 i3 ⊢
    refine ⟨by simpa [hs] using i1, ?_, by simpa [hs] using i3, by simp [hs, i4]⟩
    simpa [hs] using i2
theorem EsOk.pk : ∀ {es : Sa.Es} {kws : List Keyword}, EsOk X N C E es (kwVals kws) → PK X kws (tEs X.K N C E es)
  | .nil, [], _ => ⟨fun pos pins s σ H Q I h => pk_nil.run pos pins s σ H Q I (nil_at h)⟩
  | .cons e r, ⟨n, v, p⟩ :: kws, h => ⟨fun pos pins s σ H Q I q => (pk_cons h.1.pe (EsOk.pk (kws := kws) h.2)).run pos pins s σ H Q I (cons_at q)⟩
  | .nil, ⟨_, _, _⟩ :: _, h => h.elim
  | .cons _ _, [], h => h.elim
theorem callK_ok {f : Nat} {es ks : Sa.Es} {z : Str} {xs : List Expr} {kws : List Keyword} {p pos : Pos} (g : Good T N C k G X E) (hb : gfnB T G z f = true) (hn : noStars xs = true) (hl : es.len ≤ (T.pars f).length) (hk : kwOk kws ((T.pars f).drop es.len) = true) (hs : EsOk X N C E es xs) (hv : EsOk X N C E ks (kwVals kws)) :
    PE X (.Call (.Name z p) xs kws pos) (tE X.K N C E (.callK f es ks)) := by
  obtain ⟨h1, h2, h3⟩ := gfnB_ok hb
  obtain ⟨fd, F, b, kb⟩ := fnB_run g h2
  obtain ⟨m1, m2⟩ := g.wf.fn z f h3
  obtain ⟨k1, k2, k3, k4⟩ := kw_all (env := X.env) (pos := pos) hk
  have hm : ks.len = ((T.pars f).drop es.len).length := by rw [hv.len, ← k4]; simp [kwVals]
  cases xs with
  | nil =>
    match es, hs with
    | .nil, _ => exact pe_imp (pe_callGK0 F g.rk g.gd (g.gl h1) m1 m2 (kb _ hl) g.px hv.pk (g.wf.db _ _ h3) k1 k2 (by rw [k3]; rfl)) fun _ _ _ h => nil_at (callK_at rfl hm h)
  | cons x xs => exact pe_imp (pe_callGK F g.rk g.gd (g.gl h1) m1 m2 (kb _ hl) g.px (hs.pa hn) hv.pk (g.wf.db _ _ h3) (noStar_of hn) k1 k2 (by rw [k3, (backTo_fst (noStar_of hn)).1]; rfl)) fun _ _ _ => callK_at rfl hm
theorem newK_ok {c : Nat} {cl : Cl} {es ks : Sa.Es} {z : Str} {xs : List Expr} {kws : List Keyword} {p pos : Pos} (g : Good T N C k G X E) (hb : gclsB T C.P G z c = some cl) (hn : noStars xs = true) (hl : es.len + 1 ≤ (T.pars cl.init).length) (hk : kwOk kws ((T.pars cl.init).drop (es.len + 1)) = true) (hs : EsOk X N C E es xs) (hv : EsOk X N C E ks (kwVals kws)) :
    PE X (.Call (.Name z p) xs kws pos) (tE X.K N C E (.newK c es ks)) := by
  obtain ⟨h1, h2, h3, h4⟩ := gclsB_ok hb
  obtain ⟨fd, F, b, kb⟩ := fnB_run g h2
  obtain ⟨m1, m2⟩ := g.wf.cls z c h3
  obtain ⟨k1, k2, k3, k4⟩ := kw_all (env := X.env) (pos := pos) hk
  have hm : ks.len = ((T.pars cl.init).drop (es.len + 1)).length := by rw [hv.len, ← k4]; simp [kwVals]
  cases xs with
  | nil =>
    match es, hs with
    | .nil, _ => exact pe_imp (pe_makeGK0 (m2 cl h4) F g.room g.gd (g.gl h1) m1 (kb _ hl) g.px hv.pk (g.wf.db _ _ h3) k1 k2 (by rw [k3]; rfl)) fun _ _ _ h => nil_at (newK_at h4 rfl hm h)
  | cons x xs => exact pe_imp (pe_makeGK (m2 cl h4) F g.room g.gd (g.gl h1) m1 (kb _ hl) g.px (hs.pa hn) hv.pk (g.wf.db _ _ h3) (noStar_of hn) k1 k2 (by rw [k3, (backTo_fst (noStar_of hn)).1]; rfl)) fun _ _ _ => newK_at h4 rfl hm
/-! ### methods, fields -/
theorem tE_imp {K : PySem.W.Frag} {c : Sa.E} {σ : L2.St} {H : Hp} {Q Q' : VK} (h : tE K N C E c σ H Q) (f : ∀ v H, Q v H → Q' v H) : tE K N C E c σ H Q' := by
  obtain ⟨pv, ρ, S, env, he, sm, h⟩ := h
  exact ⟨pv, ρ, S, env, he, sm, h.imp f⟩
theorem meth_ok {m : Nat} {o : Sa.E} {es : Sa.Es} {z : Str} {y : Expr} {xs : List Expr} {ap pos : Pos} (g : Good T N C k G X E) (hz : T.fl[m]? = some z) (hm : mthB T C.P G m = true) (hy : isSup y = false) (hl : (ap.endLine == pos.line) = true) (hn : noStars xs = true) (h29 : xs.length < 29) (ho : EOk X N C E o y) (hs : EsOk X N C E es xs) :
    PE X (.Call (.Attribute y z ap) xs [] pos) (tE X.K N C E (.meth m o es)) := by
  obtain rfl := g.wf.fl m z hz
  let TT : Addr → Addr → FuncData → List Str → Sp → Prop := fun _ f fd ps sp => FnG X.prog X.w X.K X.mg X.base G.gd k f fd ps sp ∧ Binds X.K fd ps []
  have hc : ∀ (c : Nat) (cl : Cl) (f : Nat), C.P.cls[c]? = some cl → getN cl.meths m = some f → Cls X.K (N.cA c) ∧ Meth X.K (N.cA c) (N.fl m) (N.fA f) ∧ ∃ fd ps, TT (N.cA c) (N.fA f) fd ps (spF X.K N C f) := fun c cl f h1 h2 => by
    obtain ⟨q1, q2, q3⟩ := g.wf.mth c cl m f h1 h2
    have hf : fnB T G f = true := by
      unfold mthB at hm
      rw [List.all_eq_true] at hm
      have := hm cl (List.mem_of_getElem? h1)
      rw [h2] at this
      unfold fnB
      simpa [q3] using this
    obtain ⟨fd, F, b, _⟩ := fnB_run g hf
    exact ⟨q1, q2, fd, _, F, b⟩
  cases xs with
  | nil =>
    match es, hs with
    | .nil, _ => exact pe_imp (pe_methG0 (T := TT) ho.pe (fun _ _ _ _ _ h => h) g.rk g.gd g.px hl (attr_base hy)) fun _ _ _ h => tE_imp (meth_at (T := TT) g.wf.flI hc h) fun v H ⟨a, c, dx, fs, f, fd, ps, sp, e1, e2, e3, e4, e5, e6, e7⟩ => ⟨a, c, dx, fs, f, fd, ps, sp, e1, e2, e3, e4, e5, e6, nil_at e7⟩
  | cons x xs => exact pe_imp (pe_methG (T := TT) ho.pe (fun _ _ _ _ _ h => h) g.rk g.gd g.px (hs.pa hn) (noStar_of hn) h29 hl (attr_base hy)) fun _ _ _ => meth_at (T := TT) g.wf.flI hc
end
end Sa
set_option maxHeartbeats 2000000
/-! What the check says: displays, built-in methods, comprehensions, what is caught. -/
namespace Sa
open PySem L2
section
variable {T : Tab} {N : Nm} {C : Rt} {k : Nat} {G : Sc} {X : Cx} {E : XK}
theorem attr_ok {f : Nat} {o : Sa.E} {z : Str} {y : Expr} {pos : Pos} (g : Good T N C k G X E) (hz : T.fl[f]? = some z) (hy : isSup y = false) (ho : EOk X N C E o y) : PE X (.Attribute y z pos) (tE X.K N C E (.attr f o)) := by
  obtain rfl := g.wf.fl f z hz
  exact pe_imp (pe_fld ho.pe (attr_base hy)) fun _ _ _ => attr_at g.wf.flI fun c cl h1 h2 => g.wf.fld c cl h1 f h2
theorem mtr_imp {id : String} {r r' : V → List V → Hp → VK → Prop} (h : MtR X id r) (f : ∀ x xs H Q, r' x xs H Q → r x xs H Q) : MtR X id r' := fun pins s σ H x xs v us Q I rx rs q => h pins s σ H x xs v us Q I rx rs (f _ _ _ _ q)
theorem few_ok {cpos : Pos} {es : List Expr} {env : PySem.Env} (hs : noStars es = true) (hl : es.length < 30) : ((backTo cpos (starEach es env)).all (fun x => !x.1) && (backToKw cpos (keywordEach [] env)).all (fun x => x.1.isSome)
      && decide (es.length + ([] : List Keyword).length + (if ([] : List Keyword).isEmpty then 0 else 1) < 30)) = true := by
  rw [(backTo_fst (noStar_of hs)).2]
  simp [backToKw, keywordEach]
  exact hl
theorem mth_ok {o : Op} {r : Sa.E} {es : Sa.Es} {z : Str} {y : Expr} {xs : List Expr} {ap pos : Pos} (g : Good T N C k G X E) (hm : mName o = some (z, xs.length)) (hy : isSup y = false) (hl : (ap.endLine == pos.line) = true) (hn : noStars xs = true) (hr : EOk X N C E r y) (hs : EsOk X N C E es xs) :
    PE X (.Call (.Attribute y z ap) xs [] pos) (tE X.K N C E (.mth o r es)) := by
  have hb : ∀ z, attributeBase y z X.env (eval y X.env) = eval y X.env := fun z => attr_base hy
  have hu := g.hu1
  have one : ∀ {o : Op} {z : Str}, (z, 1) = (z, xs.length) → ∃ a x, es = .cons a .nil ∧ xs = [x] ∧ isStar x = false ∧ EOk X N C E a x := fun {o z} e => by
    have e : 1 = xs.length := congrArg Prod.snd e
    match xs, e with
    | [x], _ =>
      obtain ⟨a, rfl, ha⟩ := hs.one
      exact ⟨a, x, rfl, rfl, (nostars_cons hn).1, ha⟩
  have lists : ∀ {o : Op} {id : String} {z : Str}, o ≠ .get ∧ o ≠ .get2 → Slot "list" z id → typeOf (.builtin id) = pure (.type "method_descriptor") → MtR X id (fun x xs H Q => ∃ y, xs = [y] ∧ rM X.K N C.P o x [y] H Q) → (1 : Nat) = xs.length → PE X (.Call (.Attribute y z ap) xs [] pos) (tE X.K N C E (.mth o r es)) := fun {o id z} ho sl ty mt e => by
    obtain ⟨a, x, rfl, rfl, h1, ha⟩ := one (o := o) (z := z) (by rw [e])
    exact pe_imp (pe_bm PySem.F.plainAttrs_list sl ty mt hr.pe (pa_cons ha.pe pa_nil (star_cons h1)) (hb _) (few_ok hn (by simp)) hl (star_cons h1) rfl) fun _ _ _ => mth1_at ho
  cases o with
  | append =>
    obtain ⟨rfl, e⟩ : ("append" : Str) = z ∧ 1 = xs.length := by simpa [mName] using hm
    exact lists ⟨by simp, by simp⟩ PySem.F.slot_list_append PySem.F.type_list_append (mtr_imp snd_append fun x xs H Q ⟨y, e, q⟩ => by subst e; exact q) e
  | extend =>
    obtain ⟨rfl, e⟩ : ("extend" : Str) = z ∧ 1 = xs.length := by simpa [mName] using hm
    exact lists ⟨by simp, by simp⟩ PySem.F.slot_list_extend PySem.F.type_list_extend (mtr_imp snd_extend fun x xs H Q ⟨y, e, q⟩ => by subst e; exact q) e
  | popAt =>
    obtain ⟨rfl, e⟩ : ("pop" : Str) = z ∧ 1 = xs.length := by simpa [mName] using hm
    exact lists ⟨by simp, by simp⟩ PySem.F.slot_list_pop PySem.F.type_list_pop snd_popAt e
  | pop =>
    obtain ⟨rfl, e⟩ : ("pop" : Str) = z ∧ 0 = xs.length := by simpa [mName] using hm
    obtain rfl := List.length_eq_zero_iff.mp e.symm
    match es, hs with
    | .nil, _ => exact pe_imp (pe_bm0 PySem.F.plainAttrs_list PySem.F.slot_list_pop PySem.F.type_list_pop snd_pop hr.pe (hb _) hl) fun _ _ _ => mth0_at ⟨by simp, by simp⟩
  | get =>
    obtain ⟨rfl, e⟩ : ("get" : Str) = z ∧ 1 = xs.length := by simpa [mName] using hm
    obtain ⟨a, x, rfl, rfl, h1, ha⟩ := one (o := .get) (z := "get") (by rw [e])
    exact pe_imp (pe_dget1 hu hr.pe ha.pe ⟨hb _, few_ok hn (by simp), hl, by rw [star_cons h1]; rfl⟩) fun _ _ _ => dget1_at
  | get2 =>
    obtain ⟨rfl, e⟩ : ("get" : Str) = z ∧ 2 = xs.length := by simpa [mName] using hm
    match xs, e with
    | [x, w], _ =>
      obtain ⟨a, b, rfl, ha, hb2⟩ := hs.two
      obtain ⟨h1, h2⟩ := nostars_cons hn
      exact pe_imp (pe_dget2 hu hr.pe ha.pe hb2.pe ⟨hb _, few_ok hn (by simp), hl, by rw [star_cons h1, star_cons (nostars_cons h2).1]; rfl⟩) fun _ _ _ => dget2_at
  | _ => cases hm
/-! ### dict displays -/
theorem dkeys_ok {pos : Pos} : ∀ {ks : List (Option Expr)} {vs xs : List Expr} {es : Sa.Es}, dkeys ks vs = some xs → evens es = true → EsOk X N C E es xs →
    PPs X pos ks vs ((duo es).map fun p => (tE X.K N C E p.1, tE X.K N C E p.2)) ∧ ks.all (·.isSome) = true ∧ ks.length = vs.length ∧ es.len = 2 * ks.length
  | [], [], xs, es, h, hv, hs => by
    cases h
    match es, hs with
    | .nil, _ => exact ⟨pps_nil, rfl, rfl, rfl⟩
  | some q :: ks, v :: vs, xs, es, h, hv, hs => by
    unfold dkeys at h
    split at h
    · rename_i r hr
      cases h
      match es, hv, hs with
      | .cons a (.cons b es), hv, hs =>
        obtain ⟨h1, h2, h3, h4⟩ := dkeys_ok (es := es) hr (by simpa [evens] using hv) hs.2.2
        exact ⟨pps_cons hs.1.pe hs.2.1.pe h1, by simpa using h2, by simp [h3], by simp [Es.len, h4]; omega⟩
      | .cons _ .nil, hv, hs => cases hv
      | .nil, hv, hs => exact hs.elim
    · cases h
  | [], _ :: _, _, _, h, _, _ => by cases h
  | none :: _, _, _, _, h, _, _ => by cases h
  | some _ :: _, [], _, _, h, _, _ => by cases h
theorem dct_ok {al : Bool} {es : Sa.Es} {ks : List (Option Expr)} {vs xs : List Expr} {pos : Pos} (h : dkeys ks vs = some xs) (h30 : es.len ≤ 30) (hv : evens es = true) (hs : EsOk X N C E es xs) : PE X (.Dict ks vs pos) (tE X.K N C E (.dct al es)) := by
  obtain ⟨h1, h2, h3, h4⟩ := dkeys_ok (pos := pos) h hv hs
  cases ks with
  | nil =>
    cases vs with
    | cons => cases h3
    | nil =>
      match es, h4 with
      | .nil, _ =>
        refine pe_imp pe_dnewK fun σ H Q q p hp => ?_
        obtain ⟨_, kvs, e, _, q2⟩ := dct_at rfl (by decide) q p hp
        cases kvs with
        | cons => cases e
        | nil => rwa [upd_upd] at q2
      | .cons _ .nil, _ => cases hv
  | cons a ks => exact pe_imp (pe_disp h1 h2 h3 (by simp) (by omega)) fun _ _ _ => dct_at hv h30
/-! ### comprehensions -/
theorem Good.blk {scope : Scope} (g : Good T N C k G X E) (hb : scope.kind = .function) (s : Shared) (H : Hp) (Ca : Addr) (cl : List (Str × Addr)) (fp : List Addr) : Good T N C k (G.blk scope) (X.blk s H scope (compEnvC scope cl Ca X.env) fp) E0 where
  wf := g.wf
  eN := g.eN
  nd := g.nd
  sc := by show relS scope X.env.scope = _; rw [g.sc]; rfl
  fn := rfl
  calm := g.calm
  kind := hb
  gd := g.gd
  room := g.room
  px := fun _ _ _ _ _ _ _ c => by
    obtain ⟨_, _, _, _, _, _, _, _, _, _, _, _, z⟩ := c
    exact z.elim
  nm := g.nm
  lam := g.lam
theorem own_ok {scope : Scope} {own sl : List Nat} (g : Good T N C k G X E) (h : ownB G scope own sl = true) : BlkOk X.N X.env.scope scope (ownL G.N scope) ∧ own = (ownL G.N scope).map (·.2) ∧ ∀ i ∈ sl, i ∈ own := by
  unfold ownB at h
  simp only [Bool.and_eq_true, decide_eq_true_eq, List.all_eq_true] at h
  obtain ⟨⟨h1, h2⟩, h3⟩ := h
  exact ⟨by rw [g.eN, g.sc]; exact blkOk_by h2, h1, fun i hi => by simpa using h3 i hi⟩
theorem tests_ok {c : Sa.Es} {ifs : List Expr} (hf : few c = true) (hi : ifs.all (fun y => !isIf y) = true) (hs : EsOk X N C E0 c ifs) : PTs X ifs (tC X.K N C c) := by
  match c, ifs, hs with
  | .nil, [], _ => exact pts_nil
  | .cons a .nil, [x], hs => exact pts_one (hs.1.pt (by simpa using hi))
  | .cons _ (.cons _ _), _, _ => cases hf
  | .nil, _ :: _, hs => exact hs.elim
  | .cons _ .nil, [], hs => exact hs.elim
  | .cons _ .nil, _ :: _ :: _, hs => exact hs.2.elim
theorem keys_no (it : Sa.It) : (∃ i, it = .keys i) ∨ noKeys it = true := by
  cases it with
  | keys i => exact .inl ⟨i, rfl⟩
  | _ => exact .inr rfl
theorem comp_ok {al : Bool} {own : List Nat} {t : Sa.Tg} {it : Sa.It} {c : Sa.Es} {e : Sa.E} {elt tg iter : Expr} {ifs : List Expr} {scope : Scope} {pos : Pos} (g : Good T N C k G X E) (hx : isSetX iter = false) (ho : ownB G scope own t.slots = true) (hf : few c = true) (hif : ifs.all (fun y => !isIf y) = true)
    (hn : noKeys it = true) (hi : PI X tg iter (tI X.K N C E it)) (ht : ∀ X', Good T N C k (G.blk scope) X' E0 → PG X' tg (tG X'.K N C E0 t)) (hc : ∀ X', Good T N C k (G.blk scope) X' E0 → EsOk X' N C E0 c ifs) (he : ∀ X', Good T N C k (G.blk scope) X' E0 → EOk X' N C E0 e elt) :
    PE X (.ListComp elt [⟨tg, iter, ifs, 0⟩] scope pos) (tE X.K N C E (.comp al own t it c e)) := by
  obtain ⟨ok, rfl, hs⟩ := own_ok g ho
  exact pe_imp (pe_lc g.calm g.nd hi ok (fun s H Ca cl fp => ht _ (g.blk ok.kind s H Ca cl fp)) (fun s H Ca cl fp => tests_ok hf hif (hc _ (g.blk ok.kind s H Ca cl fp))) (fun s H Ca cl fp => (he _ (g.blk ok.kind s H Ca cl fp)).pe) (fold_no hx)) fun _ _ _ => comp_at hf hs hn
theorem compk_ok {al : Bool} {own : List Nat} {t : Sa.Tg} {i : Nat} {c : Sa.Es} {e : Sa.E} {elt tg iter : Expr} {ifs : List Expr} {scope : Scope} {pos : Pos} (g : Good T N C k G X E) (hx : isSetX iter = false) (ho : ownB G scope own t.slots = true) (hf : few c = true) (hif : ifs.all (fun y => !isIf y) = true)
    (hi : varB G i iter = true) (ht : ∀ X', Good T N C k (G.blk scope) X' E0 → PG X' tg (tG X'.K N C E0 t)) (hc : ∀ X', Good T N C k (G.blk scope) X' E0 → EsOk X' N C E0 c ifs) (he : ∀ X', Good T N C k (G.blk scope) X' E0 → EOk X' N C E0 e elt) :
    PE X (.ListComp elt [⟨tg, iter, ifs, 0⟩] scope pos) (tE X.K N C E (.comp al own t (.keys i) c e)) := by
  obtain ⟨ok, rfl, hs⟩ := own_ok g ho
  exact pe_imp (pe_lock (pe_lc g.calm g.nd (pi_keys (var_ok g hi).1) ok (fun s H Ca cl fp => ht _ (g.blk ok.kind s H Ca cl fp)) (fun s H Ca cl fp => tests_ok hf hif (hc _ (g.blk ok.kind s H Ca cl fp))) (fun s H Ca cl fp => (he _ (g.blk ok.kind s H Ca cl fp)).pe) (fold_no hx))) fun _ _ _ => comp_keys_at hf hs
theorem dcomp_ok {al : Bool} {own : List Nat} {t : Sa.Tg} {it : Sa.It} {q v : Sa.E} {kx vx tg iter : Expr} {scope : Scope} {pos : Pos} (g : Good T N C k G X E) (hx : isSetX iter = false) (ho : ownB G scope own t.slots = true)
    (hn : noKeys it = true) (hi : PI X tg iter (tI X.K N C E it)) (ht : ∀ X', Good T N C k (G.blk scope) X' E0 → PG X' tg (tG X'.K N C E0 t)) (hk : ∀ X', Good T N C k (G.blk scope) X' E0 → EOk X' N C E0 q kx) (he : ∀ X', Good T N C k (G.blk scope) X' E0 → EOk X' N C E0 v vx) :
    PE X (.DictComp kx vx [⟨tg, iter, [], 0⟩] scope pos) (tE X.K N C E (.dcomp al own t it q v)) := by
  obtain ⟨ok, rfl, hs⟩ := own_ok g ho
  exact pe_imp (pe_dc g.calm g.nd hi ok (fun s H Ca cl fp => ht _ (g.blk ok.kind s H Ca cl fp)) (fun s H Ca cl fp => pts_nil) (fun s H Ca cl fp => (hk _ (g.blk ok.kind s H Ca cl fp)).pe) (fun s H Ca cl fp => (he _ (g.blk ok.kind s H Ca cl fp)).pe) (fold_no hx)) fun _ _ _ => dcomp_at hs hn
/-! ### what is caught -/
theorem caught_ok {e : Sa.E} {z : Str} {params : Arguments} {body : Expr} {scope : Scope} {p lp pos : Pos} (g : Good T N C k G X E) (hl : G.lam = true) (hg : glB G z = true) (hz : T.gl.lookup z = some .caught) (hp : noPar params = true) (hL : LamX.lamSB G.sc scope = true)
    (hb : ∀ X' E', Good T N C k (G.lamS scope) X' E' → EOk X' N C E' e body) : PE X (.Call (.Name z p) [.Lambda params body scope lp] [] pos) (tE X.K N C E (.caught e)) := by
  obtain ⟨gg, pg, bg, sg, dV, kV, doc, pm, cdv, ct, oc, an, od, osl, Ng, a, m, n, ee, i, j, k1, p0, p1, p2, p3, p4, p5, p6, p7, p8, p9, p10, p11, p12, p13, hm, hk, lk, hcd, hbn, Sg, hva, Ct, hme, hd1, hd2, hbg⟩ := g.wf.caught z hz
  subst hbg
  obtain ⟨hr, c, Pt, hcode, TB, hmT, hu⟩ := g.lam hl
  have L : LamX.LamS X.env.scope scope := by rw [g.sc]; exact LamX.lamS_by hL
  unfold noPar at hp
  split at hp
  · refine pe_imp (LamX.pe_lamcall (T := N.tb) (TT := TTc X.K (N.cA C.P.top)) (t := fun E => tE X.K N C E e) (k := k + 1) (g.gl hg) hm hk lk hcd hbn Sg Ct.ha hva (caught_gives Ct hme) TB hcode hmT hu hr L rfl (fun _ _ _ _ _ => rfl) (fun A outer s H E' f c' hr' => (hb _ _ ?_).pe) (g.wf.db _ _ hz) hd1 hd2) fun _ _ _ => caught_at g.wf.exm
    exact ⟨g.wf, g.eN, g.nd, rfl, rfl, rfl, L.kind, (fun z => Bool.noConfusion z), hr', passes_call (takes_of (E := E') rfl rfl rfl rfl) (fun _ _ _ _ h => h), g.nm, fun z => Bool.noConfusion z⟩
  · cases hp
end
end Sa
set_option maxHeartbeats 2000000
/-! What the check says. -/
namespace Sa
open PySem L2
variable {T : Tab} {N : Nm} {C : Rt} {k : Nat}
theorem eqb {a b : Str} (h : (a == b) = true) : a = b := by simpa using h
mutual
theorem chkE_ok : ∀ (c : Sa.E) {G : Sc} {X : Cx} {E : XK} {x : Expr}, Good T N C k G X E → chkE T C.P c G x = true → EOk X N C E c x
  | .var i, G, X, E, x, g, h => by
    simp only [chkE] at h
    obtain ⟨h1, h2⟩ := var_ok g h
    exact EOk.plain h2 (pe_imp h1 fun _ _ _ => var_at)
  | .cst d, G, X, E, x, g, h => by
    simp only [chkE] at h
    split at h
    · exact EOk.plain rfl (cstB_ok h)
    · rw [Bool.and_eq_true] at h
      obtain ⟨h1, h2⟩ := h
      split at h2
      · rename_i d' hd
        obtain rfl := of_decide_eq_true h2
        exact EOk.plain rfl (val_ok g h1 hd)
      · cases h2
    · cases h
  | .tup es, G, X, E, x, g, h => by
    simp only [chkE] at h
    split at h
    · simp only [Bool.and_eq_true, decide_eq_true_eq] at h
      exact EOk.plain rfl (pe_imp (pe_tup ((chkEs_ok es g h.2).pa h.1.1)) fun _ _ _ => tup_at h.1.2)
    · cases h
  | .lst al es, G, X, E, x, g, h => by
    simp only [chkE] at h
    split at h
    · simp only [Bool.and_eq_true] at h
      exact EOk.plain rfl (pe_imp (pe_lst ((chkEs_ok es g h.2).pa h.1)) fun _ _ _ => lst_at)
    · cases h
  | .dct al es, G, X, E, x, g, h => by
    simp only [chkE] at h
    split at h
    · split at h
      · rename_i xs hx
        simp only [Bool.and_eq_true, decide_eq_true_eq] at h
        exact EOk.plain rfl (dct_ok hx h.1.1 h.1.2 (chkEs_ok es g h.2))
      · cases h
    · cases h
  | .op o es, G, X, E, x, g, h => by
    simp only [chkE] at h
    split at h
    · rename_i xs hx
      rw [Bool.and_eq_true] at h
      exact op_ok g hx h.1 (chkEs_ok es g h.2)
    · cases h
  | .and a b, G, X, E, x, g, h => by
    simp only [chkE] at h
    split at h
    · rename_i y z r pos
      simp only [Bool.and_eq_true, Bool.not_eq_true'] at h
      obtain ⟨⟨h1, h2⟩, h3⟩ := h
      have ha := chkE_ok a g h2
      split at h3
      · simp only [Bool.and_eq_true, Bool.not_eq_true'] at h3
        have hb := chkE_ok b g h3.2
        have hw : PW X (.BoolOp .And [y, z] pos) (tTest (tE X.K N C E (.and a b))) := ⟨fun wh pins s σ H Q I q => (pw_and (ha.pt h1) (pw_and1 (hb.pt h3.1))).run wh pins s σ H Q I (andT_at q)⟩
        exact ⟨pe_imp (pe_and ha.pe (pe_one hb.pe)) fun _ _ _ => and_at, fun _ => hw.pt, fun _ => hw⟩
      · rename_i w r
        have hb := chkE_ok b g h3
        have hw : PW X (.BoolOp .And (y :: z :: w :: r) pos) (tTest (tE X.K N C E (.and a b))) := ⟨fun wh pins s σ H Q I q => (pw_and (ha.pt h1) (hb.pw rfl)).run wh pins s σ H Q I (andT_at q)⟩
        exact ⟨pe_imp (pe_and ha.pe hb.pe) fun _ _ _ => and_at, fun _ => hw.pt, fun _ => hw⟩
    · cases h
  | .or a b, G, X, E, x, g, h => by
    simp only [chkE] at h
    split at h
    · rename_i y z r pos
      simp only [Bool.and_eq_true, Bool.not_eq_true'] at h
      obtain ⟨⟨h1, h2⟩, h3⟩ := h
      have ha := chkE_ok a g h2
      split at h3
      · simp only [Bool.and_eq_true, Bool.not_eq_true'] at h3
        have hb := chkE_ok b g h3.2
        have hw : PW X (.BoolOp .Or [y, z] pos) (tTest (tE X.K N C E (.or a b))) := ⟨fun wh pins s σ H Q I q => (pw_or (ha.pt h1) (pw_or1 (hb.pt h3.1))).run wh pins s σ H Q I (orT_at q)⟩
        exact ⟨pe_imp (pe_or ha.pe (pe_one hb.pe)) fun _ _ _ => or_at, fun _ => hw.pt, fun _ => hw⟩
      · rename_i w r
        have hb := chkE_ok b g h3
        have hw : PW X (.BoolOp .Or (y :: z :: w :: r) pos) (tTest (tE X.K N C E (.or a b))) := ⟨fun wh pins s σ H Q I q => (pw_or (ha.pt h1) (hb.pw rfl)).run wh pins s σ H Q I (orT_at q)⟩
        exact ⟨pe_imp (pe_or ha.pe hb.pe) fun _ _ _ => or_at, fun _ => hw.pt, fun _ => hw⟩
    · cases h
  | .not a, G, X, E, x, g, h => by
    simp only [chkE] at h
    split at h
    · simp only [Bool.and_eq_true, Bool.not_eq_true'] at h
      have ha := chkE_ok a g h.2
      exact ⟨pe_imp (pe_not ha.pe) fun _ _ _ => not_at, fun _ => pt_imp (pt_not (ha.pt h.1)) fun _ _ _ => notT_at, fun z => by cases z⟩
    · cases h
  | .ite c a b, G, X, E, x, g, h => by
    simp only [chkE] at h
    split at h
    · simp only [Bool.and_eq_true, Bool.not_eq_true'] at h
      obtain ⟨⟨⟨h1, h2⟩, h3⟩, h4⟩ := h
      exact ⟨pe_imp (pe_ifExp ((chkE_ok c g h2).pt h1) (chkE_ok a g h3).pe (chkE_ok b g h4).pe) fun _ _ _ => ite_at, (fun z => by cases z), (fun z => by cases z)⟩
    · cases h
  | .chain p q a b c, G, X, E, x, g, h => by
    simp only [chkE] at h
    split at h
    · simp only [Bool.and_eq_true, Bool.not_eq_true', decide_eq_true_eq] at h
      obtain ⟨⟨⟨⟨⟨rfl, rfl⟩, h1⟩, h2⟩, h3⟩, h4⟩ := h
      have hm := last_no (p := ‹CmpOp›) (q := ‹CmpOp›) (a := ‹Expr›) h1
      exact ⟨pe_imp (pe_chain (cmp_ok g.hu _) (cmp_ok g.hu _) (chkE_ok a g h2).pe (chkE_ok b g h3).pe (chkE_ok c g h4).pe (last_no h1)) fun _ _ _ => chain_at,
        fun _ => pt_imp (pt_chain (cmp_ok g.hu _) (cmp_ok g.hu _) (chkE_ok a g h2).pe (chkE_ok b g h3).pe (chkE_ok c g h4).pe (last_no h1)) (test_at fun _ _ _ => chain_at), fun z => by cases z⟩
    · cases h
  | .call f es, G, X, E, x, g, h => by
    simp only [chkE] at h
    split at h
    · simp only [Bool.and_eq_true] at h
      exact EOk.plain rfl (call_ok g h.1.1 h.1.2 (chkEs_ok es g h.2))
    · cases h
  | .callK f es ks, G, X, E, x, g, h => by
    simp only [chkE] at h
    split at h
    · simp only [Bool.and_eq_true, decide_eq_true_eq] at h
      obtain ⟨⟨⟨⟨⟨h1, h2⟩, h3⟩, h4⟩, h5⟩, h6⟩ := h
      exact EOk.plain rfl (callK_ok g h1 h2 h3 h4 (chkEs_ok es g h5) (chkEs_ok ks g h6))
    · cases h
  | .new c es, G, X, E, x, g, h => by
    simp only [chkE] at h
    split at h
    · simp only [Bool.and_eq_true] at h
      exact EOk.plain rfl (new_ok g h.1.1 h.1.2 (chkEs_ok es g h.2))
    · cases h
  | .newK c es ks, G, X, E, x, g, h => by
    simp only [chkE] at h
    split at h
    · split at h
      · rename_i cl hcl
        simp only [Bool.and_eq_true, decide_eq_true_eq] at h
        obtain ⟨⟨⟨⟨h2, h3⟩, h4⟩, h5⟩, h6⟩ := h
        exact EOk.plain rfl (newK_ok g hcl h2 h3 h4 (chkEs_ok es g h5) (chkEs_ok ks g h6))
      · cases h
    · cases h
  | .meth m o es, G, X, E, x, g, h => by
    simp only [chkE] at h
    split at h
    · simp only [Bool.and_eq_true, Bool.not_eq_true', decide_eq_true_eq] at h
      obtain ⟨⟨⟨⟨⟨⟨⟨h1, h2⟩, h3⟩, h4⟩, h5⟩, h6⟩, h7⟩, h8⟩ := h
      exact EOk.plain rfl (meth_ok g h1 h2 h3 h4 h5 h6 (chkE_ok o g h7) (chkEs_ok es g h8))
    · cases h
  | .attr f o, G, X, E, x, g, h => by
    simp only [chkE] at h
    split at h
    · simp only [Bool.and_eq_true, Bool.not_eq_true', decide_eq_true_eq] at h
      exact EOk.plain rfl (attr_ok g h.1.1 h.1.2 (chkE_ok o g h.2))
    · cases h
  | .comp al own t it c e, G, X, E, x, g, h => by
    simp only [chkE] at h
    split at h
    · rename_i elt tg iter ifs as scope pos
      simp only [Bool.and_eq_true, Bool.not_eq_true', decide_eq_true_eq] at h
      obtain ⟨⟨⟨⟨⟨⟨⟨⟨rfl, h2⟩, h3⟩, h4⟩, h5⟩, h6⟩, h7⟩, h8⟩, h9⟩ := h
      refine EOk.plain rfl ?_
      have q1 := fun X' (g' : Good T N C k _ X' E0) => chkT_ok t g' h6
      have q2 := fun X' (g' : Good T N C k _ X' E0) => chkEs_ok c g' h7
      have q3 := fun X' (g' : Good T N C k _ X' E0) => chkE_ok e g' h8
      rcases keys_no it with ⟨i, rfl⟩ | hn
      · simp only [chkI] at h9
        exact compk_ok g h2 h3 h4 h5 h9 q1 q2 q3
      · exact comp_ok g h2 h3 h4 h5 hn (chkI_ok it g hn h9) q1 q2 q3
    · cases h
  | .dcomp al own t it q v, G, X, E, x, g, h => by
    simp only [chkE] at h
    split at h
    · simp only [Bool.and_eq_true, Bool.not_eq_true', decide_eq_true_eq, List.isEmpty_iff] at h
      obtain ⟨⟨⟨⟨⟨⟨⟨⟨rfl, rfl⟩, h2⟩, h3⟩, h4⟩, h5⟩, h6⟩, h7⟩, h8⟩ := h
      exact EOk.plain rfl (dcomp_ok g h2 h3 h7 (chkI_ok it g h7 h8) (fun X' g' => chkT_ok t g' h4) (fun X' g' => chkE_ok q g' h5) (fun X' g' => chkE_ok v g' h6))
    · cases h
  | .mth o r es, G, X, E, x, g, h => by
    simp only [chkE] at h
    split at h
    · simp only [Bool.and_eq_true, Bool.not_eq_true', beq_iff_eq] at h
      obtain ⟨⟨⟨⟨⟨h1, h2⟩, h3⟩, h4⟩, h5⟩, h6⟩ := h
      exact EOk.plain rfl (mth_ok g h1 h2 (by simpa using h3) h4 (chkE_ok r g h5) (chkEs_ok es g h6))
    · cases h
  | .caught e, G, X, E, x, g, h => by
    simp only [chkE] at h
    split at h
    · simp only [Bool.and_eq_true] at h
      obtain ⟨⟨⟨⟨⟨h1, h2⟩, h3⟩, h4⟩, h5⟩, h6⟩ := h
      split at h3
      · rename_i hz
        exact EOk.plain rfl (caught_ok g h1 h2 hz h4 h5 fun X' E' g' => chkE_ok e g' h6)
      · cases h3
    · cases h
  | .comp2 .., G, X, E, x, g, h => by simp only [chkE] at h; cases h
  | .callv .., G, X, E, x, g, h => by simp only [chkE] at h; cases h
theorem chkEs_ok : ∀ (c : Sa.Es) {G : Sc} {X : Cx} {E : XK} {xs : List Expr}, Good T N C k G X E → chkEs T C.P c G xs = true → EsOk X N C E c xs
  | .nil, G, X, E, xs, g, h => by
    simp only [chkEs, List.isEmpty_iff] at h
    subst h
    exact True.intro
  | .cons e r, G, X, E, xs, g, h => by
    simp only [chkEs] at h
    split at h
    · rw [Bool.and_eq_true] at h
      exact ⟨chkE_ok e g h.1, chkEs_ok r g h.2⟩
    · cases h
theorem chkI_ok : ∀ (c : Sa.It) {G : Sc} {X : Cx} {E : XK} {tg x : Expr}, Good T N C k G X E → noKeys c = true → chkI T C.P c G tg x = true → PI X tg x (tI X.K N C E c)
  | .of e, G, X, E, tg, x, g, hn, h => by
    simp only [chkI] at h
    exact pi_of (chkE_ok e g h).pe
  | .keys i, G, X, E, tg, x, g, hn, h => by cases hn
  | .rng e, G, X, E, tg, x, g, hn, h => by
    simp only [chkI] at h
    split at h
    · simp only [Bool.and_eq_true, Bool.not_eq_true', beq_iff_eq] at h
      obtain ⟨⟨⟨rfl, h2⟩, h3⟩, h4⟩ := h
      exact pi_rng (g.gl h2) (g.wf.blt _ (by decide)) (chkE_ok e g h4).pe (star_cons h3)
    · cases h
  | .rng2 a b, G, X, E, tg, x, g, hn, h => by
    simp only [chkI] at h
    split at h
    · simp only [Bool.and_eq_true, Bool.not_eq_true', beq_iff_eq] at h
      obtain ⟨⟨⟨⟨⟨rfl, h2⟩, h3⟩, h4⟩, h5⟩, h6⟩ := h
      exact pi_rng2 (g.gl h2) (g.wf.blt _ (by decide)) (chkE_ok a g h5).pe (chkE_ok b g h6).pe (by rw [star_cons h3, star_cons h4]; rfl) (star_cons h4)
    · cases h
  | .zip a b, G, X, E, tg, x, g, hn, h => by
    simp only [chkI] at h
    rw [Bool.and_eq_true] at h
    obtain ⟨h0, h⟩ := h
    split at h
    · simp only [Bool.and_eq_true, Bool.not_eq_true', beq_iff_eq] at h
      obtain ⟨⟨⟨⟨⟨rfl, h2⟩, h3⟩, h4⟩, h5⟩, h6⟩ := h
      cases tg with
      | Tuple elts kk tpos => exact pi_zip' (g.gl h2) (g.wf.blt _ (by decide)) (chkE_ok a g h5).pe (chkE_ok b g h6).pe (by rw [star_cons h3, star_cons h4]; rfl) (star_cons h4)
      | _ => cases h0
    · cases h
  | .enum e, G, X, E, tg, x, g, hn, h => by
    simp only [chkI] at h
    rw [Bool.and_eq_true] at h
    obtain ⟨h0, h⟩ := h
    split at h
    · simp only [Bool.and_eq_true, Bool.not_eq_true', beq_iff_eq] at h
      obtain ⟨⟨⟨rfl, h2⟩, h3⟩, h4⟩ := h
      cases tg with
      | Tuple elts kk tpos => exact pi_enum' (g.gl h2) (g.wf.blt _ (by decide)) (chkE_ok e g h4).pe (star_cons h3)
      | _ => cases h0
    · cases h
theorem chkT_ok : ∀ (c : Sa.Tg) {G : Sc} {X : Cx} {E : XK} {x : Expr}, Good T N C k G X E → chkT T C.P c G x = true → PG X x (tG X.K N C E c)
  | .nm i, G, X, E, x, g, h => by
    simp only [chkT] at h
    split at h
    · simp only [Bool.and_eq_true, decide_eq_true_eq] at h
      obtain ⟨h1, h2⟩ := h
      have hl : Loc X.env.scope ‹Str› ∧ (X.fn ‹Str› = true ∨ X.env.scope.names.lookup ‹Str› = some .local) := by
        unfold locB at h2
        rw [g.sc, g.fn]
        split at h2
        · exact ⟨.inl (by assumption), .inr (by assumption)⟩
        · exact ⟨.inr (by assumption), .inl h2⟩
        · cases h2
      exact s_gname g.nd (by rw [g.eN]; exact h1) hl.1 hl.2
    · cases h
  | .tp ts, G, X, E, x, g, h => by
    simp only [chkT] at h
    split at h
    · simp only [Bool.and_eq_true, beq_iff_eq] at h
      obtain ⟨⟨h1, h2⟩, h3⟩ := h
      exact s_gtup g.calm (chkTs_ok ts g h1 h3) (by rw [asg_len h1, h2]) (asg_find h1)
    · cases h
  | .sub o i, G, X, E, x, g, h => by
    simp only [chkT] at h
    split at h
    · simp only [Bool.and_eq_true, Bool.not_eq_true'] at h
      obtain ⟨⟨h1, h2⟩, h3⟩ := h
      refine s_gsub g.hu1 (chkE_ok o g h2).pe (chkE_ok i g h3).pe (assign_sub ?_)
      rename_i y z p
      cases z <;> first
        | rfl
        | (cases h1)
    · cases h
  | .fld _ _, G, X, E, x, g, h => by simp only [chkT] at h; cases h
theorem chkTs_ok : ∀ (c : Sa.Tgs) {G : Sc} {X : Cx} {E : XK} {xs : List Expr}, Good T N C k G X E → noStars xs = true → chkTs T C.P c G xs = true → PGs X xs (tGs X.K N C E c)
  | .nil, G, X, E, xs, g, hn, h => by
    simp only [chkTs, List.isEmpty_iff] at h
    subst h
    exact s_gnil
  | .cons t r, G, X, E, xs, g, hn, h => by
    simp only [chkTs] at h
    split at h
    · rw [Bool.and_eq_true] at h
      obtain ⟨n1, n2⟩ := nostars_cons hn
      exact s_gcons (chkT_ok t g h.1) (chkTs_ok r g n2 h.2) (by rw [asg_cons n1]; rfl)
    · cases h
end
end Sa
set_option maxHeartbeats 2000000
/-! Statements: the check, and what it says. -/
namespace Sa
open PySem L2
def swB (sc : Scope) (v : Expr) (y : Str) (py : Pos) : Bool := match v with
  | .ListComp _ _ s p => sc.names.lookup y == some .local && py.line == p.line && !(s.names.any fun (n, k) => n == y && (k == .local || k == .cell))
  | .SetComp _ _ s p => sc.names.lookup y == some .local && py.line == p.line && !(s.names.any fun (n, k) => n == y && (k == .local || k == .cell))
  | .DictComp _ _ _ s p => sc.names.lookup y == some .local && py.line == p.line && !(s.names.any fun (n, k) => n == y && (k == .local || k == .cell))
  | _ => false
theorem sw_name {env : PySem.Env} {v : Expr} {y : Str} {py : Pos} {l : Nat} (hk : env.scope.kind = .function) : swapsWith v (some (.Name y py)) l env = pure (swB env.scope v y py) := by
  have hb : env.blockKind = .function := by unfold Env.blockKind; rw [hk]; rfl
  cases v <;> first
    | rfl
    | (unfold swapsWith
       simp only [hb]
       rfl)
theorem sw_sole {env : PySem.Env} {t v : Expr} {l : Nat} (h : isName t = false) : swapsWithSole [t] v l env = pure false := sw_tg h
/-- two names at once -/
def parB (G : Sc) (t : Sa.Tg) (e : Sa.E) (tg v : Expr) : Bool := match t, e, tg, v with
  | .tp (.cons (.nm i) (.cons (.nm j) .nil)), .tup (.cons a (.cons b .nil)), .Tuple [.Name x px, .Name y py] _ _, .Tuple [xa, xb] _ _ =>
    decide (G.N[i]? = some x) && decide (G.N[j]? = some y) && decide (i ≠ j) && decide (G.sc.names.lookup x = some .local) && decide (G.sc.names.lookup y = some .local) && decide (px.line = py.line) && decide (x ≠ y) && !isStar xa && !isStar xb &&
      !([xa, xb].all (foldedForSure 8)) && !([xa, xb].all (constantsAlone 8))
  | _, _, _, _ => false
/-- stored one behind another, not kept back -/
def plainB (G : Sc) (tg v : Expr) : Bool := (match tg with
    | .Name y py => !swB G.sc v y py
    | .Tuple ts _ _ => (match v with
      | .Tuple vs _ _ => swN G.sc ts vs
      | _ => true)
    | .Subscript .. => true
    | _ => false) 
def setCompB (G : Sc) (t : Sa.Tg) (e : Sa.E) (tg v : Expr) : Bool := match t, e, tg, v with
  | .nm i, .comp _ _ _ it _ _, .Name y py, .ListComp .. => noKeys it && swB G.sc v y py && decide (G.N[i]? = some y) && decide (G.sc.names.lookup y = some .local)
  | _, _, _, _ => false
variable (T : Tab) (P : Prog)
def fldB (G : Sc) (t : Sa.Tg) (tg : Expr) : Bool := match t, tg with
  | .fld f o, .Attribute y z _ => decide (T.fl[f]? = some z) && chkE T P o G y
  | _, _ => false
def raiseB (G : Sc) (c : Nat) (es : Sa.Es) (x : Expr) : Bool := match x with
  | .Call (.Name z _) (y :: ys) [] _ => glB G z && (match T.gl.lookup z with
      | some (.ecls d) => d == c
      | _ => false) && noStars (y :: ys) && decide (es.len ≤ 1000) && chkEs T P es G (y :: ys)
  | _ => false
mutual
def chkS : Sa.Sm → Sc → Stmt → Bool
  | .asg t e, G, x => match x with
    | .Assign [tg] v _ => chkE T P e G v && (fldB T P G t tg || parB G t e tg v || setCompB G t e tg v || (plainB G tg v && chkT T P t G tg))
    | _ => false
  | .aug _ _ _, _, _ => false
  | .expr e, G, x => match x with
    | .Expr v _ => !isCmp v && chkE T P e G v
    | _ => false
  | .ret e, G, x => match x with
    | .Return (some v) _ => chkE T P e G v
    | _ => false
  | .retN, _, x => match x with
    | .Return none _ => true
    | _ => false
  | .ite c a b, G, x => match x with
    | .If y u v _ => !isIf y && chkE T P c G y && chkSs a G u && chkSs b G v
    | _ => false
  | .forS t it b, G, x => match x with
    | .For tg y xs [] _ => noKeys it && !isSetX y && chkI T P it G tg y && chkT T P t G tg && chkSs b G xs
    | _ => false
  | .whl c b, G, x => match x with
    | .While y xs [] _ => !isIf y && chkE T P c G y && chkSs b G xs
    | _ => false
  | .raise c es, G, x => match x with
    | .Raise (some y) none _ => raiseB T P G c es y
    | _ => false
  | .brk, _, x => match x with
    | .Break _ => true
    | _ => false
  | .cnt, _, x => match x with
    | .Continue _ => true
    | _ => false
  | .pass, _, x => match x with
    | .Pass _ => true
    | _ => false
def chkSs : Sa.Sms → Sc → List Stmt → Bool
  | .nil, _, xs => xs.isEmpty
  | .cons s r, G, xs => match xs with
    | x :: ys => chkS s G x && chkSs r G ys
    | [] => false
end
section
variable {T : Tab} {N : Nm} {C : Rt} {k : Nat} {G : Sc} {X : Cx} {E : XK}
structure GoodS (T : Tab) (N : Nm) (C : Rt) (k : Nat) (G : Sc) (X : Cx) (E : XK) : Prop extends Good T N C k G X E where
  tk : L2.Takes X (fun cls d _ H => E cls d H)
  own : PassesOwn (model X.prog X.w) X.A X.env X.xe
theorem fld_s {t : Sa.Tg} {e : Sa.E} {tg v : Expr} {pos : Pos} (g : Good T N C k G X E) (h : fldB T C.P G t tg = true) (he : EOk X N C E e v) : PS X (.Assign [tg] v pos) (tS X.K N C E (.asg t e)) := by
  unfold fldB at h
  split at h
  · simp only [Bool.and_eq_true, decide_eq_true_eq] at h
    rename_i f o y z p
    exact s_fld (g.wf.fl f z h.1).symm (chkE_ok o g h.2).pe he.pe (sw_tg rfl) (fun c cl h1 h2 => g.wf.fld c cl h1 f h2) g.wf.flI
  · cases h
theorem par_s {t : Sa.Tg} {e : Sa.E} {tg v : Expr} {pos : Pos} (g : Good T N C k G X E) (h : parB G t e tg v = true) (hc : chkE T C.P e G v = true) : PS X (.Assign [tg] v pos) (tS X.K N C E (.asg t e)) := by
  unfold parB at h
  split at h
  · simp only [Bool.and_eq_true, Bool.not_eq_true', decide_eq_true_eq, ne_eq] at h
    obtain ⟨⟨⟨⟨⟨⟨⟨⟨⟨⟨h1, h2⟩, h3⟩, h4⟩, h5⟩, h6⟩, h7⟩, h8⟩, h9⟩, ha⟩, hb⟩ := h
    simp only [chkE, Bool.and_eq_true, decide_eq_true_eq] at hc
    have hp := (chkEs_ok _ g hc.2).pa hc.1.1
    exact s_par g.calm g.nd (by rw [g.eN]; exact h1) (by rw [g.eN]; exact h2) h3 (by rw [g.sc]; exact h4) (by rw [g.sc]; exact h5) hp
      (sw_pair g.kind (by rw [g.sc]; exact h4) (by rw [g.sc]; exact h5) h6 h7 h8 h9 ha hb) rfl
  · cases h
theorem setc_s {t : Sa.Tg} {e : Sa.E} {tg v : Expr} {pos : Pos} (g : Good T N C k G X E) (h : setCompB G t e tg v = true) (hc : chkE T C.P e G v = true) : PS X (.Assign [tg] v pos) (tS X.K N C E (.asg t e)) := by
  unfold setCompB at h
  split at h
  · rename_i i al own t it c e y py elt gs scope p
    simp only [Bool.and_eq_true, decide_eq_true_eq] at h
    obtain ⟨⟨⟨h1, h2⟩, h3⟩, h4⟩ := h
    have hsw : swapsWith (.ListComp elt gs scope p) (some (.Name y py)) pos.line X.env = pure true := by
      rw [sw_name g.kind, g.sc, h2]
    simp only [chkE] at hc
    split at hc
    · rename_i heq
      cases heq
      simp only [Bool.and_eq_true, Bool.not_eq_true', decide_eq_true_eq] at hc
      obtain ⟨⟨⟨⟨⟨⟨⟨⟨rfl, c2⟩, c3⟩, c4⟩, c5⟩, c6⟩, c7⟩, c8⟩, c9⟩ := hc
      obtain ⟨ok, rfl, hs⟩ := own_ok g c3
      exact ps_imp (ps_setLc g.calm g.nd (by rw [g.eN]; exact h3) (by rw [g.sc]; exact h4) hsw (chkI_ok it g h1 c9) ok (fun s H Ca cl fp => chkT_ok t (g.blk ok.kind s H Ca cl fp) c6) (fun s H Ca cl fp => tests_ok c4 c5 (chkEs_ok c (g.blk ok.kind s H Ca cl fp) c7)) (fun s H Ca cl fp => (chkE_ok e (g.blk ok.kind s H Ca cl fp) c8).pe) (fold_no c2))
        fun D σ H q => comp_at c4 hs h1 (set_at q)
    · cases hc
  · cases h
theorem plain_s {t : Sa.Tg} {e : Sa.E} {tg v : Expr} {pos : Pos} (g : Good T N C k G X E) (h : plainB G tg v = true) (ht : chkT T C.P t G tg = true) (he : EOk X N C E e v) : PS X (.Assign [tg] v pos) (tS X.K N C E (.asg t e)) := by
  have hg := chkT_ok t g ht
  unfold plainB at h
  split at h
  · rename_i y py
    exact s_asg he.pe hg (by show swapsWith v (some (.Name y py)) pos.line X.env = _; rw [sw_name g.kind, g.sc]; simp at h; rw [h]) (sw_two' rfl rfl) rfl
  · rename_i ts kk p
    split at h
    · exact s_asg he.pe hg (sw_sole rfl) (sw_none (by rw [g.sc]; exact h)) rfl
    · rename_i hn
      exact s_asg he.pe hg (sw_sole rfl) (sw_one (by cases v <;> first
        | rfl
        | exact absurd rfl (hn _ _ _))) rfl
  · exact s_asg he.pe hg (sw_sole rfl) (sw_two' rfl rfl) rfl
  · cases h
theorem raise_s {c : Nat} {es : Sa.Es} {x : Expr} {pos : Pos} (g : GoodS T N C k G X E) (h : raiseB T C.P G c es x = true) : PS X (.Raise (some x) none pos) (tS X.K N C E (.raise c es)) := by
  unfold raiseB at h
  split at h
  · rename_i z p y ys p2
    simp only [Bool.and_eq_true, decide_eq_true_eq] at h
    obtain ⟨⟨⟨⟨h1, h2⟩, h3⟩, h4⟩, h5⟩ := h
    split at h2
    · rename_i d hz
      obtain rfl : d = c := by simpa using h2
      obtain ⟨m1, m2, m3, m4, bmB, B, ni, ii, F, q⟩ := g.wf.ecls z d hz
      obtain ⟨n1, n2⟩ := nostars_cons h3
      exact s_raise g.calm g.tk h4 (pmk_ownA F q m1 m2 (raises_own m3 m4) (g.gl h1) ((chkEs_ok es g.toGood h5).pa h3) (g.wf.db _ _ hz) (star_cons n1) (backTo_fst (noStar_of n2)).1)
    · cases h2
  · cases h
mutual
theorem chkS_ok : ∀ (c : Sa.Sm) {G : Sc} {X : Cx} {E : XK} {x : Stmt}, GoodS T N C k G X E → chkS T C.P c G x = true → PS X x (tS X.K N C E c)
  | .asg t e, G, X, E, x, g, h => by
    simp only [chkS] at h
    split at h
    · simp only [Bool.and_eq_true, Bool.or_eq_true] at h
      obtain ⟨h1, h2⟩ := h
      rcases h2 with ((h2 | h2) | h2) | h2
      · exact fld_s g.toGood h2 (chkE_ok e g.toGood h1)
      · exact par_s g.toGood h2 h1
      · exact setc_s g.toGood h2 h1
      · exact plain_s g.toGood h2.1 h2.2 (chkE_ok e g.toGood h1)
    · cases h
  | .aug _ _ _, G, X, E, x, g, h => by simp only [chkS] at h; cases h
  | .expr e, G, X, E, x, g, h => by
    simp only [chkS] at h
    split at h
    · simp only [Bool.and_eq_true, Bool.not_eq_true'] at h
      exact s_expr (chkE_ok e g.toGood h.2).pe (sw_val h.1)
    · cases h
  | .ret e, G, X, E, x, g, h => by
    simp only [chkS] at h
    split at h
    · exact s_ret (chkE_ok e g.toGood h).pe
    · cases h
  | .retN, G, X, E, x, g, h => by
    simp only [chkS] at h
    split at h
    · exact s_retN
    · cases h
  | .ite c a b, G, X, E, x, g, h => by
    simp only [chkS] at h
    split at h
    · simp only [Bool.and_eq_true, Bool.not_eq_true'] at h
      obtain ⟨⟨⟨h1, h2⟩, h3⟩, h4⟩ := h
      exact s_if ((chkE_ok c g.toGood h2).pt h1) (chkSs_ok a g h3) (chkSs_ok b g h4)
    · cases h
  | .forS t it b, G, X, E, x, g, h => by
    simp only [chkS] at h
    split at h
    · simp only [Bool.and_eq_true, Bool.not_eq_true'] at h
      obtain ⟨⟨⟨⟨h1, h2⟩, h3⟩, h4⟩, h5⟩ := h
      exact s_for h1 g.own g.calm (chkI_ok it g.toGood h1 h3) (chkT_ok t g.toGood h4) (chkSs_ok b g h5) (fold_no h2)
    · cases h
  | .whl c b, G, X, E, x, g, h => by
    simp only [chkS] at h
    split at h
    · simp only [Bool.and_eq_true, Bool.not_eq_true'] at h
      obtain ⟨⟨h1, h2⟩, h3⟩ := h
      exact s_while g.own ((chkE_ok c g.toGood h2).pt h1) (chkSs_ok b g h3)
    · cases h
  | .raise c es, G, X, E, x, g, h => by
    simp only [chkS] at h
    split at h
    · exact raise_s g h
    · cases h
  | .brk, G, X, E, x, g, h => by
    simp only [chkS] at h
    split at h
    · exact s_brk
    · cases h
  | .cnt, G, X, E, x, g, h => by
    simp only [chkS] at h
    split at h
    · exact s_cnt
    · cases h
  | .pass, G, X, E, x, g, h => by
    simp only [chkS] at h
    split at h
    · exact s_pass
    · cases h
theorem chkSs_ok : ∀ (c : Sa.Sms) {G : Sc} {X : Cx} {E : XK} {xs : List Stmt}, GoodS T N C k G X E → chkSs T C.P c G xs = true → PSs X xs (tSs X.K N C E c)
  | .nil, G, X, E, xs, g, h => by
    simp only [chkSs, List.isEmpty_iff] at h
    subst h
    exact s_nil
  | .cons s r, G, X, E, xs, g, h => by
    simp only [chkSs] at h
    split at h
    · rw [Bool.and_eq_true] at h
      exact s_cons (chkS_ok s g h.1) (chkSs_ok r g h.2)
    · cases h
end
end
end Sa
set_option maxHeartbeats 1000000
/-! What a def hands back: its own things, unknown to all others, by value. -/
namespace Sa
open PySem L2
variable {K : PySem.W.Frag} {N : Nm} {ρ ρ' : List Addr} {H H' : Hp} {S S' : Sto} {E : XK} {n : Nat}
theorem keys_und : ∀ (kws : List (Key × V)), unds n (kws.map fun q => keyD q.1) = true
  | [] => rfl
  | (k, w) :: r => by
    have ih := keys_und r
    cases k <;> simpa [unds, D.und, keyD] using ih
mutual
theorem Rep.undN : ∀ {d : D} {v : V}, Rep K N ρ H d v → d.und ρ.length = true
  | .non, _, _ => rfl
  | .bl _, _, _ => rfl
  | .int _, _, _ => rfl
  | .str _, _, _ => rfl
  | .tup xs, v, h => by obtain ⟨p, vs, _, _, r⟩ := h; exact Reps.undN r
  | .lst xs, v, h => by obtain ⟨p, vs, _, _, r⟩ := h; exact Reps.undN r
  | .ro xs, v, h => by obtain ⟨p, vs, _, _, r⟩ := h; exact Reps.undN r
  | .dct ks ws, v, h => by
    obtain ⟨p, kvs, _, _, _, ek, r⟩ := h
    have hk : unds ρ.length ks = true := by
      rw [ek]; exact keys_und kvs
    simp [D.und, hk, Reps.undN r]
  | .loc a, v, h => by
    obtain ⟨p, _, g⟩ := h
    simpa [D.und] using (List.getElem?_eq_some_iff.mp g).1
  | .fn _, _, _ => rfl
  | .cls _, _, _ => rfl
  | .exc c fs, v, h => by
    obtain ⟨p, _, _, d, _, hd⟩ := h
    cases d with
    | none => rw [show fs = [] from hd]; rfl
    | some dx =>
      obtain ⟨_, us, _, r⟩ := hd
      exact Reps.undN r
theorem Reps.undN : ∀ {xs : List D} {vs : List V}, Reps K N ρ H xs vs → unds ρ.length xs = true
  | [], _, _ => rfl
  | x :: r, vs, h => by
    obtain ⟨v, w, _, a, b⟩ := h
    simp [unds, Rep.undN a, Reps.undN b]
end
theorem fr_take {p : Addr} (h : Fr N ρ' p) : Fr N (ρ'.take n) p := ⟨fun hm => h.1 (List.mem_of_mem_take hm), h.2⟩
mutual
theorem Rep.dwn : ∀ {d : D} {v : V}, Rep K N ρ' H d v → d.und n = true → Rep K N (ρ'.take n) H d v
  | .non, _, h, _ => h
  | .bl _, _, h, _ => h
  | .int _, _, h, _ => h
  | .str _, _, h, _ => h
  | .tup xs, v, h, u => by
    obtain ⟨p, vs, e1, ⟨t, t2⟩, r⟩ := h
    refine ⟨p, vs, e1, ⟨t, ?_⟩, Reps.dwn r u⟩
    rcases t2 with ⟨t2, f⟩ | t2
    · exact .inl ⟨t2, fr_take f⟩
    · exact .inr t2
  | .lst xs, v, h, u => by
    obtain ⟨p, vs, e1, ⟨t, f⟩, r⟩ := h
    exact ⟨p, vs, e1, ⟨t, fr_take f⟩, Reps.dwn r u⟩
  | .ro xs, v, h, u => by
    obtain ⟨p, vs, e1, ⟨t, t2⟩, r⟩ := h
    refine ⟨p, vs, e1, ⟨t, ?_⟩, Reps.dwn r u⟩
    rcases t2 with ⟨t2, f⟩ | t2
    · exact .inl ⟨t2, fr_take f⟩
    · exact .inr t2
  | .dct ks ws, v, h, u => by
    obtain ⟨p, kvs, e1, t, f, ek, r⟩ := h
    have u2 : unds n ws = true := by
      have u : (unds n ks && unds n ws) = true := u
      rw [Bool.and_eq_true] at u; exact u.2
    exact ⟨p, kvs, e1, t, fr_take f, ek, Reps.dwn r u2⟩
  | .loc a, v, h, u => by
    obtain ⟨p, e1, g⟩ := h
    have u : a < n := of_decide_eq_true u
    exact ⟨p, e1, by rw [List.getElem?_take_of_lt u]; exact g⟩
  | .fn f, _, h, _ => h
  | .cls c, _, h, _ => h
  | .exc c fs, v, h, u => by
    obtain ⟨p, e1, f, d, hp, hd⟩ := h
    refine ⟨p, e1, fr_take f, d, hp, ?_⟩
    cases d with
    | none => exact hd
    | some dx =>
      obtain ⟨n2, us, h2, r⟩ := hd
      exact ⟨fr_take n2, us, h2, Reps.dwn r u⟩
theorem Reps.dwn : ∀ {xs : List D} {vs : List V}, Reps K N ρ' H xs vs → unds n xs = true → Reps K N (ρ'.take n) H xs vs
  | [], _, h, _ => h
  | x :: r, vs, h, u => by
    obtain ⟨v, w, e1, a, b⟩ := h
    have u : (D.und n x && unds n r) = true := u
    rw [Bool.and_eq_true] at u
    exact ⟨v, w, e1, Rep.dwn a u.1, Reps.dwn b u.2⟩
end
theorem RepO.dwn {p : Addr} {o : Ob} (h : RepO K N ρ' H p o) (u : o.und n = true) : RepO K N (ρ'.take n) H p o := by
  cases o with
  | lst xs =>
    obtain ⟨vs, h1, r⟩ := h
    exact ⟨vs, h1, r.dwn u⟩
  | dct kvs lk =>
    obtain ⟨kws, h1, r1, r2⟩ := h
    have u : (unds n (kvs.map (·.1)) && unds n (kvs.map (·.2))) = true := u
    rw [Bool.and_eq_true] at u
    exact ⟨kws, h1, r1, r2.dwn u.2⟩
  | ins c fs =>
    obtain ⟨dx, us, h1, r1, r2⟩ := h
    exact ⟨dx, us, h1, r1, r2.dwn u⟩
theorem RepO.undN {p : Addr} {o : Ob} (h : RepO K N ρ H p o) : o.und ρ.length = true := by
  cases o with
  | lst xs =>
    obtain ⟨vs, _, r⟩ := h
    exact r.undN
  | dct kvs lk =>
    obtain ⟨kws, _, r1, r2⟩ := h
    show (unds ρ.length (kvs.map (·.1)) && unds ρ.length (kvs.map (·.2))) = true
    rw [r1, keys_und, r2.undN]; rfl
  | ins c fs =>
    obtain ⟨dx, us, _, _, r2⟩ := h
    exact r2.undN
/-- the first things alone -/
theorem Sim.take (s : Sim K N ρ S H) (e : Ext N ρ H ρ' H') (s' : Sim K N ρ' S' H') (h : oldOk S.length S S' = true) : Sim K N ρ (S'.take S.length) H' := by
  unfold oldOk at h
  simp only [Bool.and_eq_true, decide_eq_true_eq, List.all_eq_true, Bool.or_eq_true, List.mem_range] at h
  obtain ⟨h1, h2⟩ := h
  have et : ρ'.take S.length = ρ := by rw [← s.len]; exact e.take
  refine ⟨by rw [List.length_take, s.len]; omega, s.nd, fun i o p g1 g2 => ?_, s'.tabs, fun q hq => ⟨fun hm => (s'.pv q hq).1 (e.sub hm), (s'.pv q hq).2⟩⟩
  have hi : i < S.length := by rw [← s.len]; exact (List.getElem?_eq_some_iff.mp g2).1
  rw [List.getElem?_take_of_lt hi] at g1
  have u : o.und S.length = true := by
    rcases h2 i hi with z | z
    · rw [g1] at z
      have r := (s.obs i o p z.symm g2).undN
      rwa [s.len] at r
    · rw [g1] at z; exact z
  have r := (s'.obs i o p g1 (e.get g2)).dwn u
  rwa [et] at r
theorem Ext.back (e : Ext N ρ H ρ' H') : Ext N ρ H ρ H' := ⟨⟨[], by simp, by simp⟩, e.keep, e.stay, e.frz, e.knd⟩
theorem keys_frz {k : Nat} : ∀ (kws : List (Key × V)), (kws.map fun q => keyD q.1).mapM (frz n S' k) = some (kws.map fun q => keyD q.1)
  | [] => rfl
  | (q, w) :: r => by
    have e : frz n S' k (keyD q) = some (keyD q) := by
      cases k <;> cases q <;> simp [frz, keyD, D.und]
    rw [List.map_cons, List.mapM_cons, e, keys_frz r]; rfl
theorem frz_list {k : Nat} (f : ∀ (d d' : D) (v : V), Rep K N ρ' H' d v → frz n S' k d = some d' → Rep K N (ρ'.take n) H' d' v) : ∀ {xs ys : List D} {vs : List V}, Reps K N ρ' H' xs vs → xs.mapM (frz n S' k) = some ys → Reps K N (ρ'.take n) H' ys vs
  | [], ys, vs, h, e => by
    cases e
    exact h
  | x :: r, ys, vs, h, e => by
    obtain ⟨v, w, rfl, a, b⟩ := h
    rw [List.mapM_cons] at e
    cases h1 : frz n S' k x with
    | none => rw [h1] at e; cases e
    | some d =>
      cases h2 : r.mapM (frz n S' k) with
      | none => rw [h1, h2] at e; cases e
      | some ds =>
        rw [h1, h2] at e
        cases e
        exact ⟨v, w, rfl, f x d v a h1, frz_list f b h2⟩
theorem frz_at (s' : Sim K N ρ' S' H') : ∀ (k : Nat) (d d' : D) (v : V), Rep K N ρ' H' d v → frz n S' k d = some d' → Rep K N (ρ'.take n) H' d' v
  | 0, d, d', v, h, e => by
    unfold frz at e
    split at e
    · cases e; exact h.dwn (by assumption)
    · cases e
  | k + 1, d, d', v, h, e => by
    have ih := frz_at s' k
    unfold frz at e
    split at e
    · cases e; exact h.dwn (by assumption)
    · rename_i hu
      split at e
      · rename_i a
        obtain ⟨p, rfl, g⟩ := h
        have hp : p ∉ ρ'.take n := fun hm => by
          obtain ⟨i, hi, ei⟩ := List.getElem_of_mem hm
          have hi' : i < n := by rw [List.length_take] at hi; omega
          rw [List.getElem_take] at ei
          obtain ⟨ha, ea⟩ := List.getElem?_eq_some_iff.mp g
          have := (List.getElem_inj s'.nd).mp (ei.trans ea.symm)
          apply hu
          simp [D.und]; omega
        have fr : Fr N (ρ'.take n) p := ⟨hp, fun hm => by
          obtain ⟨q, hq, eq⟩ := List.mem_map.mp hm
          exact (s'.pv q hq).1 (by rw [eq]; exact List.mem_of_getElem? g)⟩
        split at e
        · rename_i xs hS
          obtain ⟨vs, h1, r⟩ := s'.obs a _ p hS g
          obtain ⟨ys, h2, rfl⟩ := Option.map_eq_some_iff.mp e
          exact ⟨p, vs, rfl, ⟨h1, fr⟩, frz_list ih r h2⟩
        · rename_i kvs hS
          obtain ⟨kws, h1, r1, r2⟩ := s'.obs a _ p hS g
          simp only [Bool.false_eq_true, if_false] at h1
          split at e
          · rename_i ks ws e1 e2
            cases e
            rw [r1, keys_frz] at e1
            cases e1
            exact ⟨p, kws, rfl, .inl h1, fr, rfl, frz_list ih r2 e2⟩
          · cases e
        · cases e
      · rename_i xs
        obtain ⟨p, vs, e1, ⟨t, t2⟩, r⟩ := h
        obtain ⟨ys, h2, rfl⟩ := Option.map_eq_some_iff.mp e
        refine ⟨p, vs, e1, ⟨t, ?_⟩, frz_list ih r h2⟩
        rcases t2 with ⟨t2, f⟩ | t2
        · exact .inl ⟨t2, fr_take f⟩
        · exact .inr t2
      · rename_i xs
        obtain ⟨p, vs, e1, ⟨t, f⟩, r⟩ := h
        obtain ⟨ys, h2, rfl⟩ := Option.map_eq_some_iff.mp e
        exact ⟨p, vs, e1, ⟨t, fr_take f⟩, frz_list ih r h2⟩
      · cases e
/-- a def's end -/
theorem fin_at {keep : Bool} {r : R (Fl × Env)} {Q : VK} (s : Sim K N ρ S H) (h : Out K N (RepV K N) E ρ H (fin keep S r) Q) : Out K N (RepFE K N) E ρ H r (endsQ { nx := fun _ H' => Q .non H', rt := Q }) := by
  have val : ∀ (d : D) (S' : Sto), Out K N (RepV K N) E ρ H (if keep then R.ok d S' else if oldOk S.length S S' then (match frz S.length S' 8 d with
      | some d' => .ok d' (S'.take S.length)
      | none => .ok d S') else .ok d S') Q → ∀ ρ' H' v, Ext N ρ H ρ' H' → Sim K N ρ' S' H' → Rep K N ρ' H' d v → Q v H' := fun d S' h ρ' H' v e' s' r' => by
    split at h
    · exact h ρ' H' v e' s' r'
    · split at h
      · rename_i ho
        split at h
        · rename_i d' hz
          have z := frz_at s' 8 d d' v r' hz
          have et : ρ'.take S.length = ρ := by rw [← s.len]; exact e'.take
          rw [et] at z
          exact h ρ H' v e'.back (s.take e' s' ho) z
        · exact h ρ' H' v e' s' r'
      · exact h ρ' H' v e' s' r'
  cases r with
  | bad => exact h
  | err e S' =>
    unfold fin at h
    simp only at h
    split at h
    · rename_i hc
      simp only [Bool.and_eq_true] at hc
      intro ρ' H' c dd e' s' r'
      have et : ρ'.take S.length = ρ := by rw [← s.len]; exact e'.take
      refine h ρ H' c dd e'.back (s.take e' s' hc.1.2) ?_
      obtain ⟨k, fs, rfl, rfl, hd⟩ := r'
      refine ⟨k, fs, rfl, rfl, ?_⟩
      cases dd with
      | none => exact hd
      | some dx =>
        obtain ⟨f, us, h1, r⟩ := hd
        have f' : Fr N (ρ'.take S.length) dx := fr_take f
        have r' := Reps.dwn (n := S.length) r hc.2
        rw [et] at f' r'
        exact ⟨f', us, h1, r'⟩
    · exact h
  | ok p S' =>
    obtain ⟨fl, env'⟩ := p
    cases fl with
    | bk => exact h.elim
    | ct => exact h.elim
    | nx =>
      intro ρ' H' q e' s' r'
      obtain ⟨fv, σ⟩ := q
      cases fv with
      | nx => exact val .non S' h ρ' H' .non e' s' rfl
      | rt v => exact r'.1.elim
      | bk => exact r'.1.elim
      | ct => exact r'.1.elim
    | rt d =>
      intro ρ' H' q e' s' r'
      obtain ⟨fv, σ⟩ := q
      cases fv with
      | rt v => exact val d S' h ρ' H' v e' s' r'.1
      | nx => exact r'.1.elim
      | bk => exact r'.1.elim
      | ct => exact r'.1.elim
end Sa
set_option maxHeartbeats 1000000
/-! Defs: n calls deep. -/
namespace Sa
open PySem L2
def kf (n : Nat) : Nat := 4 * n
section
variable {T : Tab} {N : Nm} {P : Prog} {W : Nat} {prog : Program} {w : World} {K : PySem.W.Frag} {mg : Str → Option Value} {base : Heap}
/-- a def whose text was checked -/
def FnW (T : Tab) (N : Nm) (P : Prog) (K : PySem.W.Frag) (mg : Str → Option Value) (base : Heap) (f : Nat) : Prop :=
  ∃ (name qual : Str) (params : Arguments) (body : List Stmt) (scope : Scope) (dV kV doc pm cdv ct oc : Value) (an od : Option Addr) (osl : Array (Option Value)) (Nf : List Str) (fn : Fn) (lam : Bool),
    P.fns[f]? = some fn ∧ K.lookup (N.fA f) = some ⟨oc, od, .func (PySem.W.fnOf name qual params body scope dV kV doc pm an cdv ct), osl⟩ ∧ PySem.W.codeIn K cdv qual = true ∧ FnScope Nf (T.pars f) scope ∧
    Binds K (PySem.W.fnOf name qual params body scope dV kV doc pm an cdv ct) (T.pars f) [] ∧ (∀ n, n ≤ (T.pars f).length → KwB K (PySem.W.fnOf name qual params body scope dV kV doc pm an cdv ct) (T.pars f) ((T.pars f).drop n) n) ∧
    fn.np = (T.pars f).length ∧ fn.ns = Nf.length ∧ (∀ z ∈ Nf, (z == ("__debug__" : Str)) = false ∧ (z == ("__classdict__" : Str)) = false) ∧
    (lam = true → ∃ c Pt, cdv = .ref c ∧ LamX.TabB base mg c Pt ∧ (Pt, (qual ++ ".<locals>.") ++ "<lambda>") ∈ N.tb ∧ ∀ p ∈ N.tb, p.1 = Pt → p.2 = (qual ++ ".<locals>.") ++ "<lambda>") ∧
    chkSs T P fn.body { N := Nf, sc := scope, fn := fun _ => true, gd := T.gdf f, lam := lam } body = true
theorem deeper_guards {A : Around} {env : PySem.Env} : (A.deeper env).guards = A.guards := by
  first | rfl | simp [Around.deeper, Around.over, Code.guards, Code.isGuard, guardIds, pushGuards]
theorem env_start {ρ : List Addr} {H : Hp} {Nf : List Str} {fn : Fn} {ds : List D} {vs : List V} {N : Nm} (r : Reps K N ρ H ds vs) (hp : ds.length = fn.np) (hn : fn.ns = Nf.length) : EnvR K N ρ H (ds.map some ++ List.replicate (fn.ns - fn.np) none) (L2.start Nf vs) := by
  have hl := r.length
  refine ⟨by unfold L2.start; simp; omega, fun i d h => ?_⟩
  unfold L2.start
  by_cases hi : i < ds.length
  · rw [List.getElem?_append_left (by simpa using hi)] at h
    rw [List.getElem?_append_left (by simp; omega)]
    rw [List.getElem?_map] at h
    cases hd : ds[i]? with
    | none => rw [hd] at h; cases h
    | some d' =>
      rw [hd] at h
      cases h
      obtain ⟨v, h1, h2⟩ := r.get hd
      exact ⟨v, by rw [List.getElem?_map, h1]; rfl, h2⟩
  · rw [List.getElem?_append_right (by simpa using hi)] at h
    have := List.mem_of_getElem? h
    rw [List.mem_replicate] at this
    cases this.2
theorem fn_step {n f : Nat} (wf : Wf T N ⟨P, W, callF P W n⟩ (kf n) prog w K mg base) (h : FnW T N P K mg base f) :
    ∃ fd, (∃ oc od osl, K.lookup (N.fA f) = some ⟨oc, od, .func fd, osl⟩) ∧ FnG prog w K mg base (T.gdf f) (kf (n + 1)) (N.fA f) fd (T.pars f) (spF K N ⟨P, W, callF P W (n + 1)⟩ f) ∧ Binds K fd (T.pars f) [] ∧ ∀ n, n ≤ (T.pars f).length → KwB K fd (T.pars f) ((T.pars f).drop n) n := by
  obtain ⟨name, qual, params, body, scope, dV, kV, doc, pm, cdv, ct, oc, an, od, osl, Nf, fn, lam, hfn, lk, hcd, Sc, hb, hk, hp, hn, hz, hl, hc⟩ := h
  have call : ∀ (ds : List D) (S : Sto), callF P W (n + 1) f ds S = if ds.length = fn.np then fin fn.keep S (evSs ⟨P, W, callF P W n⟩ fn.body (ds.map some ++ List.replicate (fn.ns - fn.np) none) S) else .bad := fun ds S => by
    show (match P.fns[f]? with
      | some fn => if ds.length = fn.np then fin fn.keep S (evSs ⟨P, W, callF P W n⟩ fn.body (ds.map some ++ List.replicate (fn.ns - fn.np) none) S) else .bad
      | none => .bad) = _
    rw [hfn]
  have len : ∀ vs H Q E, spF K N ⟨P, W, callF P W (n + 1)⟩ f vs H Q E → vs.length = (T.pars f).length := fun vs H Q E ⟨pv, ρ, S, ds, r, s, h⟩ => by
    have h : Out K (N.at pv) (RepV K (N.at pv)) E ρ H (callF P W (n + 1) f ds S) Q := h
    rw [call] at h
    split at h
    · rw [r.length]; omega
    · exact h.elim
  refine ⟨_, ⟨_, _, _, lk⟩, ⟨len, fun A outer s H args us vs Q E hr hg e0 hbt rv h => ?_⟩, hb, hk⟩
  refine LamX.run_ofS (k := 4 * n + 3) lk hcd Sc (hr.mono (by show 4 * n + 3 + 1 ≤ 4 * (n + 1); omega)) e0 hbt rv (len vs H Q E h) fun hr' => ⟨tSs K N ⟨P, W, callF P W n⟩ E fn.body, chkSs_ok (T := T) (k := kf n) fn.body (G := { N := Nf, sc := scope, fn := fun _ => true, gd := T.gdf f, lam := lam }) ?_ hc, ?_⟩
  · refine ⟨⟨wf, rfl, Sc.nd, rfl, rfl, rfl, Sc.kind, fun z => ?_, hr'.mono (by unfold kf; omega), passes_call (takes_of (E := E) rfl rfl rfl rfl) (fun _ _ _ _ h => h), hz, fun z => ?_⟩, takes_of rfl rfl rfl rfl, passes_of rfl⟩
    · rw [show (cxOf (L2.CX prog w) prog w K mg base Nf qual scope (N.fA f) cdv A outer s H E).A = A.deeper _ from rfl, deeper_guards]
      exact hg z
    · obtain ⟨c, Pt, e1, e2, e3, e4⟩ := hl z
      exact ⟨hr'.mono (by unfold kf; omega), c, Pt, e1, e2, e3, e4⟩
  · obtain ⟨pv, ρ, S, ds, r, sm, h⟩ := h
    have h : Out K (N.at pv) (RepV K (N.at pv)) E ρ H (callF P W (n + 1) f ds S) Q := h
    rw [call] at h
    split at h
    · rename_i hds
      exact ⟨pv, ρ, S, _, env_start r hds hn, sm, fin_at sm h⟩
    · exact h.elim
theorem fn_zero {f : Nat} (h : FnW T N P K mg base f) : ∃ fd, FnG prog w K mg base (T.gdf f) (kf 0) (N.fA f) fd (T.pars f) (spF K N ⟨P, W, callF P W 0⟩ f) ∧ Binds K fd (T.pars f) [] ∧ ∀ n, n ≤ (T.pars f).length → KwB K fd (T.pars f) ((T.pars f).drop n) n := by
  obtain ⟨name, qual, params, body, scope, dV, kV, doc, pm, cdv, ct, oc, an, od, osl, Nf, fn, lam, hfn, lk, hcd, Sc, hb, hk, _⟩ := h
  refine ⟨_, ⟨fun vs H Q E ⟨pv, ρ, S, ds, r, s, h⟩ => h.elim, fun A outer s H args us vs Q E hr hg e0 hbt rv h => ?_⟩, hb, hk⟩
  obtain ⟨pv, ρ, S, ds, r, s, h⟩ := h
  exact h.elim
theorem wf_all (w0 : Wf0 T N P K mg) (hf : ∀ f, f < T.ps.length → FnW T N P K mg base f) : ∀ n, Wf T N ⟨P, W, callF P W n⟩ (kf n) prog w K mg base
  | 0 => { w0 with run := fun f hl => fn_zero (hf f hl) }
  | n + 1 => { w0 with run := fun f hl => let ⟨fd, _, h⟩ := fn_step (wf_all w0 hf n) (hf f hl); ⟨fd, h⟩ }
end
end Sa
set_option maxHeartbeats 1000000
/-! How plain parameters are bound. -/
namespace Sa
open PySem L2
theorem look_zip_none {k : Str} : ∀ {ps : List Str} {us : List Value}, k ∉ ps → (ps.zip us).lookup k = none
  | [], us, _ => by simp
  | p :: ps, [], _ => by simp
  | p :: ps, u :: us, h => by
    have h1 : (k == p) = false := by simp at h; simpa using h.1
    simp only [List.zip_cons_cons, List.lookup_cons, h1]
    exact look_zip_none fun z => h (List.mem_cons_of_mem _ z)
theorem look_zip_some {k : Str} : ∀ {ps : List Str} {us : List Value}, k ∈ ps → ps.length ≤ us.length → ((ps.zip us).lookup k).isSome = true
  | [], us, h, _ => by cases h
  | p :: ps, [], _, h => by simp at h
  | p :: ps, u :: us, h, hl => by
    simp only [List.zip_cons_cons, List.lookup_cons]
    cases hk : k == p with
    | true => rfl
    | false =>
      have : k ≠ p := by simpa using hk
      exact look_zip_some (by rcases List.mem_cons.mp h with e | e; · exact absurd e this
                              · exact e) (by simpa using hl)
theorem binds_back : ∀ {ps : List Str} {vs : List Value} (pre : List (Str × Value)), ps.Nodup → ps.length = vs.length → (∀ p ∈ ps, p ∉ pre.map (·.1)) → ps.filterMap (fun n => ((pre ++ ps.zip vs).lookup n).map (n, ·)) = ps.zip vs
  | [], vs, pre, _, _, _ => by simp
  | p :: ps, [], pre, _, h, _ => by simp at h
  | p :: ps, v :: vs, pre, nd, hl, hp => by
    have np : p ∉ ps := (List.nodup_cons.mp nd).1
    have lk : ∀ (pre : List (Str × Value)), p ∉ pre.map (·.1) → (pre ++ (p, v) :: ps.zip vs).lookup p = some v := fun pre => by
      induction pre with
      | nil => intro _; simp
      | cons a r ih =>
        intro h
        obtain ⟨q, w⟩ := a
        simp at h
        have : (p == q) = false := by simpa using h.1
        simp only [List.cons_append, List.lookup_cons, this]
        exact ih (by simpa using h.2)
    have e := binds_back (ps := ps) (vs := vs) (pre ++ [(p, v)]) (List.nodup_cons.mp nd).2 (by simpa using hl) fun q hq => by
      simp only [List.map_append, List.mem_append, not_or]
      exact ⟨hp q (List.mem_cons_of_mem _ hq), by simp; intro z; exact np (z ▸ hq)⟩
    rw [List.append_assoc] at e
    simp only [List.zip_cons_cons, List.filterMap_cons, lk pre (hp p List.mem_cons_self), Option.map_some]
    rw [show [(p, v)] ++ ps.zip vs = (p, v) :: ps.zip vs from rfl] at e
    rw [e]
theorem bind_loop {ps0 : List Str} {f : Str × Value → List (Str × Value) × List (Str × Value) → Sem (ForInStep (List (Str × Value) × List (Str × Value)))}
    (hf : ∀ k v ex sl, k ∈ ps0 → (sl.lookup k).isSome = false → f (k, v) (sl, ex) = pure (.yield (sl ++ [(k, v)], ex))) :
    ∀ (ks : List Str) (ws : List Value) (ex sl : List (Str × Value)), (∀ k ∈ ks, k ∈ ps0 ∧ k ∉ sl.map (·.1)) → ks.Nodup → forIn (ks.zip ws) (sl, ex) f = pure (sl ++ ks.zip ws, ex)
  | [], ws, ex, sl, _, _ => by simp
  | k :: ks, [], ex, sl, _, _ => by simp
  | k :: ks, v :: ws, ex, sl, h, nd => by
    have h1 := h k List.mem_cons_self
    have lk : ∀ (sl : List (Str × Value)), k ∉ sl.map (·.1) → (sl.lookup k).isSome = false := fun sl => by
      induction sl with
      | nil => intro _; rfl
      | cons a r ih =>
        intro h
        obtain ⟨q, w⟩ := a
        simp at h
        have : (k == q) = false := by simpa using h.1
        simp only [List.lookup_cons, this]
        exact ih (by simpa using h.2)
    rw [List.zip_cons_cons, List.forIn_cons, hf k v ex sl h1.1 (lk sl h1.2)]
    simp only [pure_bind]
    rw [bind_loop hf ks ws ex (sl ++ [(k, v)]) (fun q hq => ⟨(h q (List.mem_cons_of_mem _ hq)).1, by
      simp only [List.map_append, List.mem_append, not_or]
      exact ⟨(h q (List.mem_cons_of_mem _ hq)).2, by simp; intro z; exact (List.nodup_cons.mp nd).1 (z ▸ hq)⟩⟩) (List.nodup_cons.mp nd).2]
    rw [List.append_assoc]; rfl
theorem zip_split : ∀ (ps : List Str) (us ws : List Value), us.length ≤ ps.length → ps.zip us ++ (ps.drop us.length).zip ws = ps.zip (us ++ ws)
  | ps, [], ws, _ => by simp
  | [], u :: us, ws, h => by simp at h
  | p :: ps, u :: us, ws, h => by
    have e := zip_split ps us ws (by simpa using h)
    simp only [List.zip_cons_cons, List.length_cons, List.drop_succ_cons, List.cons_append, e]
theorem zip_take : ∀ (ps : List Str) (us : List Value), (ps.take us.length).zip us = ps.zip us
  | ps, [] => by simp
  | [], u :: us => by simp
  | p :: ps, u :: us => by simp [zip_take ps us]
theorem bind_simple {fd : FuncData} {as : List Arg} {ps : List Str} (hp : fd.params = ⟨[], as, none, [], [], none, []⟩) (hd : fd.defaults = .none) (hps : as.map (·.arg) = ps) (nd : ps.Nodup) {us ws : List Value} (hl : us.length + ws.length = ps.length) :
    bindArgs fd ⟨us, (ps.drop us.length).zip ws⟩ = pure (ps.zip (us ++ ws)) := by
  have hs : seqItems? fd.defaults = pure none := by rw [hd]; rfl
  have hz := zip_split ps us ws (by omega)
  unfold bindArgs
  rw [hs]
  simp only [hp, hps, List.map_nil, List.nil_append, List.append_nil]
  rw [bind_loop (ps0 := ps)]
  · simp only [pure_bind, hz]
    rw [if_neg (by simp; omega)]
    have hfil : ∀ m, (ps.take m).filter (fun n => ((ps.zip (us ++ ws)).lookup n).isNone) = [] := fun m => by
      rw [List.filter_eq_nil_iff]
      intro a ha
      have := look_zip_some (us := us ++ ws) (List.mem_of_mem_take ha) (by rw [List.length_append]; omega)
      simpa using this
    rw [if_neg (by rw [hfil]; simp)]
    simp only [show ((none : Option (Array Value)).getD #[]).toList = [] from rfl, List.drop_nil, List.zip_nil_right, List.forIn_nil, pure_bind, List.isEmpty_nil, Bool.not_true, Bool.false_eq_true, if_false]
    rw [show ps.zip (us ++ ws) = [] ++ ps.zip (us ++ ws) from rfl, binds_back (vs := us ++ ws) [] nd (by rw [List.length_append]; omega) (fun _ _ => by simp)]
    rfl
  · intro k v ex sl hk hl
    simp only []
    rw [if_pos (by simp [hk]), if_neg (by rw [hl]; simp)]
  · intro k hk
    have hps' := List.take_append_drop us.length ps
    refine ⟨List.mem_of_mem_drop hk, fun hm => ?_⟩
    obtain ⟨⟨a, b⟩, h1, rfl⟩ := List.mem_map.mp hm
    have hm' : a ∈ ps.take us.length := by
      rw [← zip_take ps us] at h1
      exact (List.of_mem_zip h1).1
    rw [← hps', List.nodup_append] at nd
    exact nd.2.2 a hm' a hk rfl
  · exact nd.sublist (List.drop_sublist _ _)
/-- a def of plain parameters -/
theorem binds_plain {K : PySem.W.Frag} {fd : FuncData} {as : List Arg} {ps : List Str} (hp : fd.params = ⟨[], as, none, [], [], none, []⟩) (hd : fd.defaults = .none) (hps : as.map (·.arg) = ps) (nd : ps.Nodup) : Binds K fd ps [] ∧ ∀ n, n ≤ ps.length → KwB K fd ps (ps.drop n) n := by
  refine ⟨Binds.all fun us hl => ?_, fun n hn s us ws _ h1 h2 => ?_⟩
  · have e := bind_simple hp hd hps nd (us := us) (ws := []) (by simpa using hl)
    rw [List.append_nil, List.zip_nil_right] at e
    exact e
  · subst h1
    rw [List.length_drop] at h2
    exact BindsTo.of_eq (bind_simple hp hd hps nd (by omega))
end Sa
set_option maxHeartbeats 1000000
/-! The law's call: from the head to the evaluator. -/
namespace Sa
open PySem PySem.Spec PyProof.Rows L2
abbrev tab0 : Obj := { cls := .none, data := .fields #[] }
abbrev lst0 (vs : List Value) : Obj := { cls := .type "list", data := .seq vs.toArray }
/-- what the walk starts from: the script, the tables of code objects -/
def hp0 (K : PySem.W.Frag) (a : Addr) (vs : List Value) (ns : List Int) (ts : List Addr) : Hp := fun b =>
  if b = a ∧ (K.lookup a).isNone = true then some (.frz (lst0 vs) (.lst (ns.map V.int))) else if b ∈ ts then some (.tbl #[]) else none
section
variable {P : Program} {w : World} {K : PySem.W.Frag} {mg mb : Str → Option Value} {k : Nat} {fa a : Addr} {cs : List (Addr × Addr)} {fd : FuncData} {x : Str} {sp : Sp} {s₁ : Shared} {vs : List Value} {ns : List Int} {ts : List Addr}
theorem hp0_inv {b : Addr} {u : HO} (h : hp0 K a vs ns ts b = some u) : (b = a ∧ K.lookup a = none ∧ u = .frz (lst0 vs) (.lst (ns.map V.int))) ∨ (b ∈ ts ∧ u = .tbl #[]) := by
  unfold hp0 at h
  split at h
  · rename_i c
    cases h
    exact .inl ⟨c.1, by simpa using c.2, rfl⟩
  · split at h
    · cases h
      exact .inr ⟨by assumption, rfl⟩
    · cases h
theorem hp0_tab {b : Addr} (hb : b ∈ ts) (hn : b ≠ a) : hp0 K a vs ns ts b = some (.tbl #[]) := by
  unfold hp0
  rw [if_neg (fun z => hn z.1), if_pos hb]
theorem law_run (KX : K.In s₁.heap) (hns : s₁.heap.Ns mainGlobals mg) (hb : s₁.heap.Ns builtinsNs mb) (hbb : ∀ x : Str, x ≠ "__name__" → mb x = bootBuiltins x) (hlim : s₁.heap.NoLimit) (hg : s₁.gens = #[])
    (hT : ∀ p ∈ cs, s₁.heap.get? p.2 = some tab0) (nT : ∀ p ∈ cs, K.lookup p.2 = none) (C : ∀ p ∈ cs, PySem.W.CodeHd s₁.heap p.1 p.2)
    (hbm : ∃ (bm : Addr) (ob : Obj), mg "__builtins__" = some (.ref bm) ∧ bm ≠ builtinsNs ∧ s₁.heap.get? bm = some ob ∧ ob.cls = .type "module" ∧ ob.dict = some builtinsNs ∧ ob.data = .plain)
    (ha : s₁.heap.get? a = some (lst0 vs)) (hi : IntsAre vs ns) (hl : ns.length ≤ sizeLine) (hr : Room k callerA)
    (F : ∀ base : Heap, K.In base → base.Ns mainGlobals mg → (∀ p ∈ cs, LamX.TabB base mg p.1 p.2) → FnG P w K mg base true k fa fd [x] sp) (hbind : ∀ (s : Shared) (u : Value), BindsTo s fd ⟨[u], []⟩ [(x, u)])
    (hsp : ∀ H : Hp, (∀ p ∈ cs, H p.2 = some (.tbl #[])) → SqL K H a (ns.map V.int) → sp [.ref a] H (fun v _ => v = .bl true) fun _ _ _ => False) :
    codeAny (model P w) callerA (.call (.ref fa) ⟨[.ref a], []⟩) (fun r s' => r = .ok (.ret (.bool true)) ∧ OldK s₁.heap s'.heap ∧ s'.os = s₁.os ∧ AllBare s'.gens) s₁ := by
  have rv := vals_ints hi
  have lenV := hi.length
  obtain ⟨ts, hts⟩ : ∃ ts : List Addr, ts = cs.map (·.2) := ⟨_, rfl⟩
  have tab : ∀ b ∈ ts, s₁.heap.get? b = some tab0 ∧ K.lookup b = none ∧ b ≠ a := fun b hb => by
    rw [hts] at hb
    obtain ⟨p, hp, rfl⟩ := List.mem_map.mp hb
    refine ⟨hT p hp, nT p hp, fun z => ?_⟩
    have e := hT p hp
    rw [z, ha] at e
    cases congrArg Obj.data (Option.some.inj e)
  have inT : ∀ p ∈ cs, p.2 ∈ ts := fun p hp => by rw [hts]; exact List.mem_map.mpr ⟨p, hp, rfl⟩
  let H := hp0 K a vs ns ts
  have hH : ∀ p ∈ cs, H p.2 = some (.tbl #[]) := fun p hp => hp0_tab (inT p hp) (tab _ (inT p hp)).2.2
  -- an object that is neither the script nor a table is seen
  have seen : ∀ {b : Addr} {o : Obj}, s₁.heap.get? b = some o → o ≠ lst0 vs → o ≠ tab0 → H b = none := fun {b o} e h1 h2 => by
    cases q : H b with
    | none => rfl
    | some u =>
      exfalso
      rcases hp0_inv q with ⟨rfl, _, _⟩ | ⟨m, _⟩
      · rw [ha] at e; exact h1 (Option.some.inj e).symm
      · rw [(tab b m).1] at e; exact h2 (Option.some.inj e).symm
  have base_of : ∀ {b : Addr} {o : Obj}, s₁.heap.get? b = some o → o ≠ lst0 vs → o ≠ tab0 → (hidT s₁.heap H).get? b = some o := fun e h1 h2 => hidT_get e (seen e h1 h2)
  have nsK : ∀ {b : Addr} {m : Str → Option Value}, s₁.heap.Ns b m → (hidT s₁.heap H).Ns b m := fun {b m} ⟨o, es, ep, e, d, r⟩ =>
    ⟨o, es, ep, base_of e (fun z => by rw [z] at d; cases d) (fun z => by rw [z] at d; cases d), d, r⟩
  have hK : K.In (hidT s₁.heap H) := fun b o e => hidT_get (KX b o e) (by
    cases q : H b with
    | none => rfl
    | some u =>
      exfalso
      rcases hp0_inv q with ⟨rfl, z, _⟩ | ⟨m, _⟩
      · rw [z] at e; cases e
      · rw [(tab b m).2.1] at e; cases e)
  have hM : L2.Mod K mg (hidT s₁.heap H) := ⟨hK, nsK hns, ⟨mb, nsK hb, hbb⟩, let ⟨mc, h1, h2⟩ := hlim; ⟨mc, nsK h1, h2⟩⟩
  have TB : ∀ p ∈ cs, LamX.TabB (hidT s₁.heap H) mg p.1 p.2 := fun p hp => by
    refine ⟨?_, ?_, fun z => ?_⟩
    · obtain ⟨o, us, file, tf, flags, tg, inF, text, tt, e1, r1, r2, rest⟩ := C p hp
      exact ⟨o, us, file, tf, flags, tg, inF, text, tt, base_of e1 (fun z => by rw [z] at r1; exact absurd r1 (by simp [lst0])) (fun z => by rw [z] at r1; cases r1), r1, r2, rest⟩
    · obtain ⟨bm, ob, b1, b2, b3, b4, b5, b6⟩ := hbm
      have n1 : ob ≠ tab0 := fun z => by rw [z] at b4; cases b4
      have n2 : ob ≠ lst0 vs := fun z => by rw [z] at b6; cases b6
      refine ⟨bm, ob, b1, b2, fun z => ?_, fun z => ?_, base_of b3 n2 n1, b4, b5, b6⟩
      · obtain ⟨o, es, ep, e, d, _⟩ := hns
        rw [← z, b3] at e
        cases e
        rw [b6] at d; cases d
      · rw [z, hT p hp] at b3
        exact n1 (Option.some.inj b3).symm
    · obtain ⟨o, es, ep, e, d, _⟩ := hns
      rw [z, hT p hp] at e
      cases e
      cases d
  have hok : HOk P w H s₁.heap := fun b u q => by
    rcases hp0_inv q with ⟨rfl, _, rfl⟩ | ⟨m, rfl⟩
    · exact ⟨ha, by rw [List.length_map]; exact hl, vs, _, rv, ha⟩
    · exact (tab b m).1
  have e0 : Env0 P w K mg (hidT s₁.heap H) callerA [] s₁ H := ⟨rfl, hM, fun b o e => of_hidT e, Nat.le_of_eq (hidT_size _ _), trivial, fun b hb => (by cases hb), hok, .of_eq hg⟩
  have hS : SqL K H a (ns.map V.int) := by
    cases hk : K.lookup a with
    | none => exact .inl (.inr ⟨lst0 vs, by show hp0 K a vs ns ts a = _; unfold hp0; rw [if_pos ⟨rfl, by rw [hk]; rfl⟩]⟩)
    | some o =>
      have e := KX a o hk
      rw [ha] at e
      cases e
      exact .inr ⟨_, vs.toArray, _, hk, rfl, rfl, rfl, by rw [List.size_toArray, lenV]; exact hl, by simpa using rv⟩
  refine codeAny_mono ((F _ hK (nsK hns) TB).run callerA [] s₁ H ⟨[.ref a], []⟩ [.ref a] [.ref a] _ _ hr (fun _ => rfl) e0 (hbind s₁ (.ref a)) (.cons rfl .nil) (hsp H hH hS)) fun r s' h => ?_
  cases r with
  | error e =>
    obtain ⟨_, _, _, _, _, _, _, _, _, _, _, _, z⟩ := h
    exact z.elim
  | ok fl =>
    cases fl with
    | next => exact h.elim
    | brk => exact h.elim
    | cont => exact h.elim
    | ret u =>
      obtain ⟨v, H', os, bare, un, hok', r', q⟩ := h
      have q : v = .bl true := q
      subst q
      obtain rfl : u = Value.bool true := r'
      have grown : ∀ b ∈ ts, ∃ more : Array Value, s'.heap.get? b = some { cls := .none, data := .fields more } := fun b hb => by
        obtain ⟨more, z⟩ := un.tbls b #[] (hp0_tab hb (tab b hb).2.2)
        exact ⟨_, hok' b _ z⟩
      have kept : ∀ b o, b ∉ ts → s₁.heap.get? b = some o → s'.heap.get? b = some o := fun b o nb e => by
        cases q : H b with
        | none => exact un.keep b o e q (by intro z; cases z) (by simp)
        | some u =>
          rcases hp0_inv q with ⟨rfl, _, rfl⟩ | ⟨m, _⟩
          · have z := (hok' b _ (un.frzs b _ _ q)).1
            rw [ha] at e; cases e
            exact z
          · exact absurd m nb
      refine ⟨rfl, ⟨fun b o e => ?_, fun b o e => ?_⟩, os, bare⟩
      · by_cases hb : b ∈ ts
        · obtain ⟨more, hm⟩ := grown b hb
          have hb' := hb
          rw [hts] at hb'
          obtain ⟨p, hp, rfl⟩ := List.mem_map.mp hb'
          rw [hT p hp] at e
          cases e
          exact .inr (.inl ⟨((C p hp).tab (hT p hp)).isCodeTable, rfl, #[], more, rfl, by rw [Array.empty_append]; exact hm⟩)
        · exact .inl (kept b o hb e)
      · by_cases hb : b ∈ ts
        · obtain ⟨more, hm⟩ := grown b hb
          exact ⟨_, hm⟩
        · exact ⟨o, kept b o hb e⟩
end
/-- what the head is to give -/
def LawG (P : Program) (w : World) (K : PySem.W.Frag) (k n : Nat) (x : Str) (mg : Str → Option Value) (fa : Addr) (h : Heap) : Prop :=
  ∃ (fd : FuncData) (cs : List (Addr × Addr)) (sp : Sp), (∀ p ∈ cs, h.get? p.2 = some tab0) ∧ (∀ p ∈ cs, K.lookup p.2 = none) ∧ (∀ p ∈ cs, PySem.W.CodeHd h p.1 p.2) ∧ (∀ (s : Shared) (u : Value), BindsTo s fd ⟨[u], []⟩ [(x, u)]) ∧
    (∀ (H : Hp) (a : Addr) (ns : List Int), ns.length ≤ n → (∀ z ∈ ns, Builtin.Int.intBits z ≤ 1048576) → (∀ p ∈ cs, H p.2 = some (.tbl #[])) → SqL K H a (ns.map V.int) → sp [.ref a] H (fun v _ => v = .bl true) fun _ _ _ => False) ∧
    ∀ base : Heap, K.In base → base.Ns mainGlobals mg → (∀ p ∈ cs, LamX.TabB base mg p.1 p.2) → FnG P w K mg base true k fa fd [x] sp
theorem walk_law {l : PySem.W.OpenLaw} {n k : Nat} {q : Program} {loose : List Str} {XP : (Str → Option Value) → Heap → Prop} {YP : World → Heap → Prop} {d : DefRec} {K : Params → PySem.W.Frag} {x : Str}
    (hn : l.most = some n) (hn2 : n ≤ sizeLine) (hdf : d.params.defaults = []) (hr : Room k callerA) (hY : ∀ (w : World) (h : Heap), YP w h → (K w.params).In h)
    (F : ∀ (w : World) (mg : Str → Option Value) (fa : Addr) (h : Heap), YP w h → XP mg h → (K w.params).In h → h.Ns mainGlobals mg → mg d.name = some (.ref fa) → LawG l.prog w (K w.params) k n x mg fa h) :
    PySem.W.WalkO q loose XP YP l.row.toRowW d [] (fun f vs => PySem.call f vs) := by
  refine Att.attach_callB hn hdf fun w s₀ s₁ mg mb fa o pm cd doc a vs ns G Y ho hd hcd hmg hobj hints hlen hbits hg => ?_
  have KX := hY w _ Y
  obtain ⟨fd, cs, sp, hT, nT, C, hb, hsp, hF⟩ := F w mg fa _ Y G.X KX G.T.g hmg
  exact law_run KX G.T.g G.T.b G.T.builtins G.T.nolimit hg hT nT C G.T.bmain hobj hints (Nat.le_trans hlen hn2) hr hF hb fun H hH hS => hsp H a ns hlen hbits hH hS
end Sa
set_option maxHeartbeats 1000000
/-! What the head's fragment tells, by one check. -/
namespace Sa
open PySem PySem.Spec PyProof.Rows L2
open PySem.W (Frag nsIn findIn keepIn typeIn subIn codeIn excIn kitOne exmOne clsIn mroIn specialIn takesIn isFn makesIn plainGet hasDictIn plainOver)
inductive Loc where
  | glo (x : Str)
  | met (c : Nat) (m : Str)
structure FD where
  loc : Loc
  Nf : List Str
  lam : Bool
structure Dat where
  T : Tab
  P : Prog
  fd : List FD
  /-- the classes' names -/
  cn : List Str
  /-- ints that the head tells otherwise -/
  lv : List (Str × Int)
def refAt (o : Option (Option Value)) : Addr := match o with
  | some (some (.ref a)) => a
  | _ => 0
def Dat.cA (D : Dat) (K : Frag) (c : Nat) : Addr := match D.cn[c]? with
  | some x => refAt (nsIn K mainGlobals x)
  | none => 0
def Dat.fA (D : Dat) (K : Frag) (f : Nat) : Addr := match D.fd[f]? with
  | some d => (match d.loc with
    | .glo x => refAt (nsIn K mainGlobals x)
    | .met c m => refAt (findIn K (.ref (D.cA K c)) m))
  | none => 0
def fdOf (K : Frag) (a : Addr) : Option FuncData := match K.lookup a with
  | some ⟨_, _, .func fd, _⟩ => some fd
  | _ => none
def tabOf (K : Frag) (cd : Value) : Option (Addr × Addr) := match cd with
  | .ref c => (match K.lookup c with
    | some ⟨_, _, .fields vs, _⟩ => (match (vs[11]? : Option Value) with
      | some (.ref Pt) => some (c, Pt)
      | _ => none)
    | _ => none)
  | _ => none
theorem tabOf_ref {K : Frag} {cd : Value} {q : Addr × Addr} (h : tabOf K cd = some q) : cd = .ref q.1 := by
  unfold tabOf at h
  split at h
  · split at h
    · split at h
      · cases h; rfl
      · cases h
    · cases h
  · cases h
def lamQ (fd : FuncData) : Str := (fd.qualname ++ ".<locals>.") ++ "<lambda>"
def Dat.tabs (D : Dat) (K : Frag) : List ((Addr × Addr) × Str) := (List.range D.fd.length).filterMap fun f => match D.fd[f]? with
  | some d => if d.lam then (fdOf K (D.fA K f)).bind fun fd => (tabOf K fd.code).map fun p => (p, lamQ fd) else none
  | none => none
def Dat.fl (D : Dat) (i : Nat) : Str := match D.T.fl[i]? with
  | some s => s
  | none => ⟨(List.replicate (i + 1) 0).toArray⟩
def Dat.N (D : Dat) (K : Frag) : Nm := { fA := D.fA K, cA := D.cA K, fl := D.fl, tb := (D.tabs K).map fun t => (t.1.2, t.2) }
def flB (D : Dat) : Bool := decide D.T.fl.Nodup && D.T.fl.all fun s => decide (s.cps.toList.head? ≠ some 0)
theorem fl_inj {D : Dat} (h : flB D = true) : ∀ f g, D.fl f = D.fl g → f = g := by
  unfold flB at h
  simp only [Bool.and_eq_true, decide_eq_true_eq, List.all_eq_true] at h
  obtain ⟨h1, h2⟩ := h
  have z : ∀ (i : Nat) (s : Str), D.T.fl[i]? = some s → ∀ j : Nat, s ≠ ⟨(List.replicate (j + 1) 0).toArray⟩ := fun i s hs j e => by
    have := h2 s (List.mem_of_getElem? hs)
    rw [e] at this
    exact this (by simp [List.replicate_succ])
  intro f g e
  unfold Dat.fl at e
  cases hf : D.T.fl[f]? with
  | some s =>
    cases hg : D.T.fl[g]? with
    | some t =>
      rw [hf, hg] at e
      have e : s = t := e
      subst e
      obtain ⟨l1, e1⟩ := List.getElem?_eq_some_iff.mp hf
      obtain ⟨l2, e2⟩ := List.getElem?_eq_some_iff.mp hg
      exact (List.getElem_inj h1).mp (e1.trans e2.symm)
    | none =>
      rw [hf, hg] at e
      exact (z f s hf g e).elim
  | none =>
    cases hg : D.T.fl[g]? with
    | some t =>
      rw [hf, hg] at e
      exact (z g t hg f e.symm).elim
    | none =>
      rw [hf, hg] at e
      have e : (⟨(List.replicate (f + 1) 0).toArray⟩ : Str) = ⟨(List.replicate (g + 1) 0).toArray⟩ := e
      have := congrArg (fun s : Str => s.cps.size) e
      simpa using this
/-! ### defs -/
def scB (Nf ps : List Str) (sc : Scope) : Bool := decide (sc.kind = .function) && !sc.isCoroutine && !sc.isGenerator && decide Nf.Nodup && decide (Nf.take ps.length = ps) &&
  (ps.all fun x => decide (sc.names.lookup x = some .local) || decide (sc.names.lookup x = some .cell)) && sc.names.all fun y => decide (y.2 ≠ .free)
theorem scB_ok {Nf ps : List Str} {sc : Scope} (h : scB Nf ps sc = true) : FnScope Nf ps sc := by
  unfold scB at h
  simp only [Bool.and_eq_true, Bool.or_eq_true, Bool.not_eq_true', decide_eq_true_eq, List.all_eq_true] at h
  obtain ⟨⟨⟨⟨⟨⟨h1, h2⟩, h3⟩, h4⟩, h5⟩, h6⟩, h7⟩ := h
  exact ⟨h1, h2, h3, h4, h5, h6, h7⟩
def lamB (D : Dat) (K : Frag) (ts : List Addr) (fd : FuncData) : Bool := match tabOf K fd.code with
  | some (c, Pt) => (D.tabs K).all fun t => decide (t.1.2 ≠ Pt) || decide (t.2 = lamQ fd)
  | none => false
def tabsB (D : Dat) (K : Frag) (ts : List Addr) : Bool := (D.tabs K).all fun t => PySem.W.codeHdIn K t.1.1 t.1.2 && (K.lookup t.1.2).isNone && ts.contains t.1.2
def simplePar (a : Arguments) (ps : List Str) : Bool := match a with
  | ⟨[], as, none, [], [], none, []⟩ => decide (as.map (·.arg) = ps)
  | _ => false
def fnB' (D : Dat) (K : Frag) (ts : List Addr) (f : Nat) : Bool := match D.fd[f]?, D.P.fns[f]? with
  | some d, some fn => (match fdOf K (D.fA K f) with
    | some fd => (match fd.body with
      | .stmts body => decide (fd.globals = mainGlobals) && decide (fd.closure = []) && decide (fd.builtins = builtinsNs) && decide (fd.defaults = .none) && codeIn K fd.code fd.qualname && scB d.Nf (D.T.pars f) fd.scope &&
          simplePar fd.params (D.T.pars f) && decide (D.T.pars f).Nodup && decide (fn.np = (D.T.pars f).length) && decide (fn.ns = d.Nf.length) && (d.Nf.all fun z => !(z == ("__debug__" : Str)) && !(z == ("__classdict__" : Str))) &&
          (!d.lam || lamB D K ts fd) && chkSs D.T D.P fn.body { N := d.Nf, sc := fd.scope, fn := fun _ => true, gd := D.T.gdf f, lam := d.lam } body
      | _ => false)
    | none => false)
  | _, _ => false
theorem fdOf_look {K : Frag} {a : Addr} {fd : FuncData} (h : fdOf K a = some fd) : ∃ oc od osl, K.lookup a = some ⟨oc, od, .func fd, osl⟩ := by
  unfold fdOf at h
  split at h
  · rename_i oc od fd' osl e
    cases h
    exact ⟨_, _, _, e⟩
  · cases h
theorem simple_ok {a : Arguments} {ps : List Str} (h : simplePar a ps = true) : ∃ as : List Arg, a = ⟨[], as, none, [], [], none, []⟩ ∧ as.map (·.arg) = ps := by
  unfold simplePar at h
  split at h
  · exact ⟨_, rfl, of_decide_eq_true h⟩
  · cases h
theorem fnB_ok {D : Dat} {K : Frag} {ts : List Addr} {mg : Str → Option Value} {base : Heap} {f : Nat} (h : fnB' D K ts f = true) (TB : ∀ t ∈ D.tabs K, LamX.TabB base mg t.1.1 t.1.2) : FnW D.T (D.N K) D.P K mg base f := by
  unfold fnB' at h
  split at h
  · rename_i d fn hd hfn
    split at h
    · rename_i fd hfd
      split at h
      · rename_i body hb
        simp only [Bool.and_eq_true, Bool.or_eq_true, Bool.not_eq_true', decide_eq_true_eq, List.all_eq_true] at h
        obtain ⟨⟨⟨⟨⟨⟨⟨⟨⟨⟨⟨⟨h1, h2⟩, h3⟩, h4⟩, h5⟩, h6⟩, h7⟩, h8⟩, h9⟩, h10⟩, h11⟩, h12⟩, h13⟩ := h
        obtain ⟨oc, od, osl, lk⟩ := fdOf_look hfd
        obtain ⟨as, e1, e2⟩ := simple_ok h7
        have efd : fd = PySem.W.fnOf fd.name fd.qualname fd.params body fd.scope fd.defaults fd.kwdefaults fd.doc fd.pyModule fd.annotations fd.code fd.closureTuple := by
          cases fd
          simp only at hb h1 h2 h3
          subst hb h1 h2 h3
          rfl
        have lk' : K.lookup ((D.N K).fA f) = some ⟨oc, od, .func (PySem.W.fnOf fd.name fd.qualname fd.params body fd.scope fd.defaults fd.kwdefaults fd.doc fd.pyModule fd.annotations fd.code fd.closureTuple), osl⟩ := by rw [← efd]; exact lk
        have bd := binds_plain (K := K) (fd := PySem.W.fnOf fd.name fd.qualname fd.params body fd.scope fd.defaults fd.kwdefaults fd.doc fd.pyModule fd.annotations fd.code fd.closureTuple) e1 h4 e2 h8
        refine ⟨fd.name, fd.qualname, fd.params, body, fd.scope, fd.defaults, fd.kwdefaults, fd.doc, fd.pyModule, fd.code, fd.closureTuple, oc, fd.annotations, od, osl, d.Nf, fn, d.lam, hfn, lk', h5, scB_ok h6, bd.1, bd.2, h9, h10, fun z hz => by simpa using h11 z hz, fun hl => ?_, h13⟩
        have hlb : lamB D K ts fd = true := by
          rcases h12 with z | z
          · rw [hl] at z; cases z
          · exact z
        unfold lamB at hlb
        split at hlb
        · rename_i c Pt ht
          simp only [List.all_eq_true, Bool.or_eq_true, decide_eq_true_eq] at hlb
          have hm : ((c, Pt), lamQ fd) ∈ D.tabs K := by
            unfold Dat.tabs
            rw [List.mem_filterMap]
            refine ⟨f, List.mem_range.mpr (List.getElem?_eq_some_iff.mp hd).1, ?_⟩
            rw [hd]
            simp only [hl, if_true, hfd, Option.bind_some, ht, Option.map_some]
          refine ⟨c, Pt, tabOf_ref ht, TB _ hm, List.mem_map.mpr ⟨_, hm, rfl⟩, fun p hp e => ?_⟩
          obtain ⟨t, ht2, rfl⟩ := List.mem_map.mp hp
          rcases hlb t ht2 with z | z
          · exact absurd e z
          · exact z
        · cases hlb
      · cases h
    · cases h
  · cases h
end Sa
set_option maxHeartbeats 2000000
/-! Classes, globals, `_law_caught`: the check, and Wf0. -/
namespace Sa
open PySem PySem.Spec PyProof.Rows L2
open PySem.W (Frag nsIn findIn keepIn typeIn subIn codeIn excIn kitOne exmOne clsIn mroIn specialIn takesIn isFn makesIn plainGet hasDictIn plainOver)
abbrev veB : List Value := [.type "ValueError", .type "Exception", .type "BaseException", .type "object"]
def exB (K : Frag) (C : Addr) : Bool := (clsIn K C).isSome && decide (findIn K (.ref C) "__getattribute__" = some (some (.builtin "BaseException.__getattribute__"))) && (findIn K (.ref C) "__getattr__").isSome &&
  decide (subIn K (.ref C) (.type "BaseException") = some true) && decide (findIn K (.ref C) "__class__" = some (some (.builtin "object.__class__"))) && decide (mroIn K C (.type "object") = some true)
def insB (K : Frag) (C : Addr) : Bool := plainGet K C Str.empty && hasDictIn K C && plainOver K C && decide (findIn K (.ref C) "__setattr__" = some (some (.builtin "object.__setattr__"))) &&
  decide (findIn K (.ref C) "__class__" = some (some (.builtin "object.__class__"))) && decide (mroIn K C (.type "object") = some true)
def isRefFn (K : Frag) (o : Option (Option Value)) (f : Addr) : Bool := decide (o = some (some (.ref f))) && isFn K (.ref f)
def clsB' (D : Dat) (K : Frag) (c : Nat) : Bool := match D.P.cls[c]? with
  | some cl => (if cl.exc then exB K (D.cA K c) && cl.meths.isEmpty && cl.flds.isEmpty && (!cl.up.contains D.P.top || decide (exmOne K (.ref (D.cA K c)) (.ref (D.cA K D.P.top)) = some true))
      else insB K (D.cA K c) && !cl.up.contains D.P.top && (tyNames.all fun t => decide (kitOne K (.ref (D.cA K c)) (.type t) = some false)) && makesIn K (D.cA K c) && isRefFn K (findIn K (.ref (D.cA K c)) "__init__") (D.fA K cl.init) && keepIn K (.ref (D.cA K c)) &&
        (cl.meths.all fun q => isRefFn K (findIn K (.ref (D.cA K c)) (D.fl q.1)) (D.fA K q.2) && keepIn K (.ref (D.fA K q.2)) && decide (q.2 < D.T.ps.length)) && cl.flds.all fun f => decide (findIn K (.ref (D.cA K c)) (D.fl f) = some none)) &&
    ((List.range D.P.cls.length).all fun d => decide (kitOne K (.ref (D.cA K c)) (.ref (D.cA K d)) = some (cl.up.contains d))) && tyNames.all fun t => decide (kitOne K (.type t) (.ref (D.cA K c)) = some false)
  | none => false
def clssB (D : Dat) (K : Frag) : Bool := ((List.range D.P.cls.length).all (clsB' D K)) && decide (specialIn K (.builtin "object.__class__") "__get__" = some (some (.builtin "getset_descriptor.__get__"))) && decide (takesIn K (.builtin "object.__class__") = some true)
theorem getN_mem {ms : List (Nat × Nat)} {m f : Nat} (h : getN ms m = some f) : (m, f) ∈ ms := by
  induction ms with
  | nil => cases h
  | cons a r ih =>
    obtain ⟨g, v⟩ := a
    unfold getN at h
    split at h
    · rename_i e
      cases h; subst e
      exact List.mem_cons_self
    · exact List.mem_cons_of_mem _ (ih h)
structure ClsOk (D : Dat) (K : Frag) (c : Nat) (cl : Cl) : Prop where
  ex : cl.exc = true → exB K (D.cA K c) = true
  ins : cl.exc = false → insB K (D.cA K c) = true ∧ (∀ t ∈ tyNames, kitOne K (.ref (D.cA K c)) (.type t) = some false) ∧ Mk K (D.cA K c) (D.fA K cl.init)
  up : cl.up.contains D.P.top = true → exmOne K (.ref (D.cA K c)) (.ref (D.cA K D.P.top)) = some true
  mth : ∀ m f, getN cl.meths m = some f → cl.exc = false ∧ Meth K (D.cA K c) (D.fl m) (D.fA K f) ∧ f < D.T.ps.length
  fld : ∀ f, cl.flds.contains f = true → cl.exc = false ∧ NoAttr K (D.cA K c) (D.fl f)
  own : ∀ d, d < D.P.cls.length → kitOne K (.ref (D.cA K c)) (.ref (D.cA K d)) = some (cl.up.contains d)
  ty : ∀ t ∈ tyNames, kitOne K (.type t) (.ref (D.cA K c)) = some false
theorem isRefFn_ok {K : Frag} {o : Option (Option Value)} {f : Addr} (h : isRefFn K o f = true) : o = some (some (.ref f)) ∧ isFn K (.ref f) = true := by
  unfold isRefFn at h
  rw [Bool.and_eq_true] at h
  exact ⟨of_decide_eq_true h.1, h.2⟩
theorem cls_ok {D : Dat} {K : Frag} (h : clssB D K = true) {c : Nat} {cl : Cl} (hc : D.P.cls[c]? = some cl) : ClsOk D K c cl := by
  unfold clssB at h
  simp only [Bool.and_eq_true, List.all_eq_true] at h
  have h := h.1.1 c (List.mem_range.mpr (List.getElem?_eq_some_iff.mp hc).1)
  unfold clsB' at h
  rw [hc] at h
  simp only [Bool.and_eq_true, List.all_eq_true, decide_eq_true_eq, List.mem_range] at h
  obtain ⟨⟨h1, h2⟩, h3⟩ := h
  cases he : cl.exc with
  | true =>
    rw [he] at h1
    simp only [if_true, Bool.and_eq_true, Bool.or_eq_true, Bool.not_eq_true', decide_eq_true_eq, List.isEmpty_iff] at h1
    obtain ⟨⟨⟨q1, q2⟩, q3⟩, q4⟩ := h1
    refine ⟨fun _ => q1, (fun z => by rw [he] at z; cases z), fun z => ?_, (fun m f z => by rw [q2] at z; cases z), (fun f z => by rw [q3] at z; cases z), h2, h3⟩
    rcases q4 with w | w
    · rw [z] at w; cases w
    · exact w
  | false =>
    rw [he] at h1
    simp only [Bool.false_eq_true, if_false, Bool.and_eq_true, Bool.not_eq_true', decide_eq_true_eq, List.all_eq_true] at h1
    obtain ⟨⟨⟨⟨⟨⟨⟨q1, q2⟩, q3⟩, q4⟩, q5⟩, q6⟩, q7⟩, q8⟩ := h1
    refine ⟨(fun z => by rw [he] at z; cases z), fun _ => ⟨q1, q3, q4, (isRefFn_ok q5).1, (isRefFn_ok q5).2, q6⟩, (fun z => by rw [z] at q2; cases q2), fun m f z => ?_, fun f z => ⟨he, q8 f (by simpa using z)⟩, h2, h3⟩
    obtain ⟨⟨w1, w2⟩, w3⟩ := q7 (m, f) (getN_mem z)
    exact ⟨he, ⟨(isRefFn_ok w1).1, (isRefFn_ok w1).2, w2⟩, w3⟩
theorem ins_cls {K : Frag} {C : Addr} (h : insB K C = true) : Cls K C ∧ findIn K (.ref C) "__class__" = some (some (.builtin "object.__class__")) ∧ mroIn K C (.type "object") = some true := by
  unfold insB at h
  simp only [Bool.and_eq_true, decide_eq_true_eq] at h
  obtain ⟨⟨⟨⟨⟨h1, h2⟩, h3⟩, h4⟩, h5⟩, h6⟩ := h
  exact ⟨⟨h1, h2, h3, h4⟩, h5, h6⟩
theorem kit_ok {D : Dat} {K : Frag} (h : clssB D K = true) : KitF K (D.N K) D.P := by
  have h' := h
  unfold clssB at h'
  simp only [Bool.and_eq_true, decide_eq_true_eq] at h'
  refine ⟨fun c cl hc he => ?_, fun c cl hc he => ins_cls ((cls_ok h hc).ins he).1, h'.1.2, h'.2, fun c d cl hc hd => (cls_ok h hc).own d hd, fun t ht d hd => ?_, fun c cl hc he t ht => ((cls_ok h hc).ins he).2.1 t ht⟩
  · have q := (cls_ok h hc).ex he
    unfold exB at q
    simp only [Bool.and_eq_true, decide_eq_true_eq] at q
    obtain ⟨⟨⟨⟨⟨q1, q2⟩, q3⟩, q4⟩, q5⟩, q6⟩ := q
    exact ⟨q1, q2, Option.isSome_iff_exists.mp q3, q4, q5, q6⟩
  · exact (cls_ok h (c := d) (cl := D.P.cls[d]) (by simp [hd])).ty t ht
/-! ### global names -/
def valB (u : Value) (d : D) : Bool := match u, d with
  | .none, .non => true
  | .bool a, .bl b => a == b
  | .int a _, .int b => decide (a = b)
  | .str a _, .str b => decide (a = b)
  | _, _ => false
theorem valB_ok {K : Frag} {N : Nm} {u : Value} {d : D} (h : valB u d = true) : ∃ v, RelV v u ∧ ∀ pv ρ H, Rep K (N.at pv) ρ H d v := by
  unfold valB at h
  split at h
  · exact ⟨.non, rfl, fun _ _ _ => rfl⟩
  · obtain rfl := beq_iff_eq.mp h
    exact ⟨.bl _, rfl, fun _ _ _ => rfl⟩
  · obtain rfl := of_decide_eq_true h
    exact ⟨.int _, ⟨_, rfl⟩, fun _ _ _ => rfl⟩
  · obtain rfl := of_decide_eq_true h
    exact ⟨.str _, ⟨_, rfl⟩, fun _ _ _ => rfl⟩
  · cases h
def catchB (a n m e : Str) (sg : Scope) : Bool := decide ([a, n, m] : List Str).Nodup && decide (sg.kind = .function) && decide (sg.names.lookup m = some .local) && decide (sg.names.lookup n = some .local) &&
  decide (sg.names.lookup e = some .globalImplicit) && ([a, n, m].all fun z => !(z == ("__debug__" : Str)) && !(z == ("__classdict__" : Str))) && !(e == ("__debug__" : Str)) && (match sg.names.lookup a with
    | some .local => true
    | some .cell => true
    | _ => false)
def caughtB (D : Dat) (K : Frag) (x : Str) : Bool := match nsIn K mainGlobals x with
  | some (some (.ref g)) => keepIn K (.ref g) && match fdOf K g with
    | some fd => (match fd.body with
      | .stmts [.Assign [.Name m _] (.Constant .none _ _) _, .Try [.Expr (.Call (.Name a _) [] [] _) _] [.ExceptHandler (some (.Name e _)) (some n) [.Assign [.Name m2 _] (.Name n2 _) _] _] [] [] _, .Return (some (.Name m3 _)) _] =>
        decide (fd.globals = mainGlobals) && decide (fd.closure = []) && decide (fd.builtins = builtinsNs) && decide (fd.defaults = .none) && decide (fd.name = x) && decide (fd.qualname = x) && codeIn K fd.code x && simplePar fd.params [a] &&
          decide (m2 = m) && decide (m3 = m) && decide (n2 = n) && scB [a, n, m] [a] fd.scope && catchB a n m e fd.scope && decide (nsIn K mainGlobals e = some (some (.ref (D.cA K D.P.top))))
      | _ => false)
    | none => false
  | _ => false
theorem caughtB_ok {D : Dat} {K : Frag} {mg : Str → Option Value} {x : Str} (hm : ∀ y v, nsIn K mainGlobals y = some (some v) → mg y = some v) (h : caughtB D K x = true) : CaughtF K mg (D.cA K D.P.top) x := by
  unfold caughtB at h
  split at h
  · rename_i g hg
    rw [Bool.and_eq_true] at h
    obtain ⟨hk, h⟩ := h
    split at h
    · rename_i fd hfd
      split at h
      · rename_i m p0 k1 p1 p2 a p3 p4 p5 e p6 n m2 p7 n2 p8 p9 p10 p11 m3 p12 p13 hb
        simp only [Bool.and_eq_true, decide_eq_true_eq] at h
        obtain ⟨⟨⟨⟨⟨⟨⟨⟨⟨⟨⟨⟨⟨h1, h2⟩, h3⟩, h4⟩, h5⟩, h6⟩, h7⟩, h8⟩, rfl⟩, rfl⟩, rfl⟩, h12⟩, h13⟩, h14⟩ := h
        obtain ⟨oc, od, osl, lk⟩ := fdOf_look hfd
        obtain ⟨as, e1, e2⟩ := simple_ok h8
        unfold catchB at h13
        simp only [Bool.and_eq_true, Bool.not_eq_true', decide_eq_true_eq, List.all_eq_true] at h13
        obtain ⟨⟨⟨⟨⟨⟨⟨c1, c2⟩, c3⟩, c4⟩, c5⟩, c6⟩, c7⟩, c8⟩ := h13
        have ca := c6 a (by simp)
        have cn := c6 n2 (by simp)
        have cm := c6 m3 (by simp)
        obtain ⟨bd, ebd⟩ : ∃ bd : List Stmt, bd = [.Assign [.Name m3 p0] (.Constant .none k1 p1) p2, .Try [.Expr (.Call (.Name a p3) [] [] p4) p5] [.ExceptHandler (some (.Name e p6)) (some n2) [.Assign [.Name m3 p7] (.Name n2 p8) p9] p10] [] [] p11, .Return (some (.Name m3 p12)) p13] := ⟨_, rfl⟩
        rw [← ebd] at hb
        have efd : fd = PySem.W.fnOf x x fd.params bd fd.scope fd.defaults fd.kwdefaults fd.doc fd.pyModule fd.annotations fd.code fd.closureTuple := by
          cases fd
          simp only at hb h1 h2 h3 h5 h6
          subst hb h1 h2 h3 h5 h6
          rfl
        have bp := (binds_plain (K := K) (fd := fd) e1 h4 e2 (by simp)).1
        rw [efd] at lk bp
        refine ⟨g, fd.params, bd, fd.scope, fd.defaults, fd.kwdefaults, fd.doc, fd.pyModule, fd.code, fd.closureTuple, oc, fd.annotations, od, osl, [a, n2, m3], a, m3, n2, e, 1, 2, k1, p0, p1, p2, p3, p4, p5, p6, p7, p8, p9, p10, p11, p12, p13, hm _ _ hg, hk, lk, h7, bp, scB_ok h12, ?_, ?_, hm _ _ h14, ca.1, ca.2, ebd⟩
        · split at c8
          · exact .inl (by assumption)
          · exact .inr (.inl (by assumption))
          · cases c8
        · exact ⟨c1, rfl, rfl, rfl, by decide, by decide, by decide, c2, c3, c4, cn.1, cn.2, cm.1, cm.2, c5, c7⟩
      · cases h
    · cases h
  · cases h
def glB' (D : Dat) (K : Frag) (q : Str × Gk) : Bool := !(q.1 == ("__debug__" : Str)) && match q.2 with
  | .fn f => decide (nsIn K mainGlobals q.1 = some (some (.ref (D.fA K f)))) && keepIn K (.ref (D.fA K f))
  | .cls c => decide (nsIn K mainGlobals q.1 = some (some (.ref (D.cA K c)))) && (match D.P.cls[c]? with
    | some cl => !cl.exc
    | none => false)
  | .ecls c => decide (nsIn K mainGlobals q.1 = some (some (.ref (D.cA K c)))) && keepIn K (.ref (D.cA K c)) && decide (subIn K (.ref (D.cA K c)) (.type "BaseException") = some true) && decide (typeIn K (.ref (D.cA K c)) = some (.type "type")) &&
      excIn K (D.cA K c) veB "ValueError.__new__"
  | .val d => (D.lv.any fun p => decide (p.1 = q.1) && decide (d = .int p.2)) || (match nsIn K mainGlobals q.1 with
    | some (some u) => valB u d
    | _ => false)
  | .caught => caughtB D K q.1
def glsB (D : Dat) (K : Frag) : Bool := (D.T.gl.all (glB' D K)) && bltins.all fun x => decide (nsIn K mainGlobals x = some none)
theorem wf0_ok {D : Dat} {K : Frag} {mg : Str → Option Value} (hm : ∀ y v, nsIn K mainGlobals y = some (some v) → mg y = some v) (hn : ∀ y, nsIn K mainGlobals y = some none → mg y = none) (hv : ∀ p ∈ D.lv, ∃ t, mg p.1 = some (.int p.2 t))
    (h1 : flB D = true) (h2 : clssB D K = true) (h3 : glsB D K = true) : Wf0 D.T (D.N K) D.P K mg := by
  unfold glsB at h3
  simp only [Bool.and_eq_true, List.all_eq_true, decide_eq_true_eq] at h3
  obtain ⟨g1, g2⟩ := h3
  have gl : ∀ x g, D.T.gl.lookup x = some g → (x == ("__debug__" : Str)) = false ∧ glB' D K (x, g) = true := fun x g e => by
    have := g1 (x, g) (PySem.mem_of_lookup e)
    refine ⟨?_, this⟩
    unfold glB' at this
    simp only [Bool.and_eq_true, Bool.not_eq_true'] at this
    exact this.1
  refine ⟨fl_inj h1, fun i s e => ?_, kit_ok h2, fun x hx => hn x (g2 x hx), fun x g e => (gl x g e).1, fun x f e => ?_, fun x c e => ?_, fun x c e => ?_, fun x d e => ?_, fun c cl m f hc hf => ?_, fun c cl hc f hf => ?_, fun c cl hc hu => (cls_ok h2 hc).up hu, fun x e => ?_⟩
  · show (match D.T.fl[i]? with
      | some s => s
      | none => _) = s
    rw [e]
  · have q := (gl x _ e).2
    unfold glB' at q
    simp only [Bool.and_eq_true, decide_eq_true_eq] at q
    exact ⟨hm _ _ q.2.1, q.2.2⟩
  · have q := (gl x _ e).2
    unfold glB' at q
    simp only [Bool.and_eq_true, decide_eq_true_eq] at q
    refine ⟨hm _ _ q.2.1, fun cl hc => ?_⟩
    have z := q.2.2
    rw [hc] at z
    exact ((cls_ok h2 hc).ins (by simpa using z)).2.2
  · have q := (gl x _ e).2
    unfold glB' at q
    simp only [Bool.and_eq_true, decide_eq_true_eq] at q
    obtain ⟨_, ⟨⟨⟨q1, q2⟩, q3⟩, q4⟩, q5⟩ := q
    exact ⟨hm _ _ q1, q2, q3, q4, veB, _, _, _, PySem.F.excBase_ValueError, q5⟩
  · have q := (gl x _ e).2
    unfold glB' at q
    simp only [Bool.and_eq_true, Bool.or_eq_true, List.any_eq_true, decide_eq_true_eq] at q
    rcases q.2 with ⟨p, hp, rfl, rfl⟩ | z
    · obtain ⟨t, ht⟩ := hv p hp
      exact ⟨_, .int p.2, ht, ⟨t, rfl⟩, fun _ _ _ => rfl⟩
    · split at z
      · rename_i u hu
        obtain ⟨v, r1, r2⟩ := valB_ok (K := K) (N := D.N K) z
        exact ⟨u, v, hm _ _ hu, r1, r2⟩
      · cases z
  · obtain ⟨q1, q2, q3⟩ := (cls_ok h2 hc).mth m f hf
    exact ⟨(ins_cls ((cls_ok h2 hc).ins q1).1).1, q2, q3⟩
  · obtain ⟨q1, q2⟩ := (cls_ok h2 hc).fld f hf
    exact ⟨(ins_cls ((cls_ok h2 hc).ins q1).1).1, q2⟩
  · have q := (gl x _ e).2
    unfold glB' at q
    simp only [Bool.and_eq_true] at q
    exact caughtB_ok hm q.2
end Sa
set_option maxHeartbeats 1000000
/-! All checks at once; the law from the plain law. -/
namespace Sa
open PySem PySem.Spec PyProof.Rows L2
open PySem.W (Frag nsIn)
def allB (D : Dat) (ts : List Addr) (law : Nat) (x name : Str) (K : Frag) : Bool :=
  flB D && clssB D K && glsB D K && tabsB D K ts && ((List.range D.T.ps.length).all (fnB' D K ts)) && decide (D.T.pars law = [x]) && decide (law < D.T.ps.length) && decide (nsIn K mainGlobals name = some (some (.ref (D.fA K law))))
theorem tr0 : TriplesOk (#[] : Array Value).toList := by first | trivial | exact .nil | simp [TriplesOk]
theorem law_glue {D : Dat} {ts : List Addr} {law : Nat} {x name : Str} {K : Frag} {P : Program} {w : World} {mg : Str → Option Value} {fa : Addr} {h : Heap} {n m W : Nat} (hB : allB D ts law x name K = true) (X : K.In h) (G : h.Ns mainGlobals mg) (hT : ∀ Pt ∈ ts, h.get? Pt = some (PySem.W.tabObj #[]))
    (hv : ∀ p ∈ D.lv, ∃ t, mg p.1 = some (.int p.2 t)) (hmg : mg name = some (.ref fa))
    (plain : ∀ ns : List Int, ns.length ≤ n → (∀ z ∈ ns, Builtin.Int.intBits z ≤ 1048576) → ∃ S', callF D.P W (m + 1) law [.ro (ns.map Sa.D.int)] [] = .ok (.bl true) S') : LawG P w K (kf (m + 1)) n x mg fa h := by
  unfold allB at hB
  simp only [Bool.and_eq_true, decide_eq_true_eq] at hB
  obtain ⟨⟨⟨⟨⟨⟨⟨h1, h2⟩, h3⟩, h4⟩, h5⟩, h6⟩, h7⟩, h8⟩ := hB
  rw [List.all_eq_true] at h5
  have hfa : fa = D.fA K law := by
    have e := (PySem.W.mg_of X G h8).symm.trans hmg
    cases e; rfl
  subst hfa
  have w0 : Wf0 D.T (D.N K) D.P K mg := wf0_ok (fun y v e => PySem.W.mg_of X G e) (fun y e => PySem.W.mg_none_of X G e) hv h1 h2 h3
  have tb : ∀ t ∈ D.tabs K, PySem.W.codeHdIn K t.1.1 t.1.2 = true ∧ K.lookup t.1.2 = none ∧ t.1.2 ∈ ts := fun t ht => by
    unfold tabsB at h4
    rw [List.all_eq_true] at h4
    have := h4 t ht
    simp only [Bool.and_eq_true] at this
    exact ⟨this.1.1, by simpa using this.1.2, by simpa using this.2⟩
  have fnw : ∀ base : Heap, (∀ p ∈ (D.tabs K).map (·.1), LamX.TabB base mg p.1 p.2) → ∀ f, f < D.T.ps.length → FnW D.T (D.N K) D.P K mg base f := fun base TB f hf =>
    fnB_ok (h5 f (List.mem_range.mpr hf)) fun t ht => TB t.1 (List.mem_map.mpr ⟨t, ht, rfl⟩)
  obtain ⟨fd, hfd⟩ : ∃ fd, fdOf K (D.fA K law) = some fd := by
    have z := h5 law (List.mem_range.mpr h7)
    unfold fnB' at z
    split at z
    · split at z
      · exact ⟨_, by assumption⟩
      · cases z
    · cases z
  obtain ⟨oc, od, osl, lk⟩ := fdOf_look hfd
  have stp : ∀ base : Heap, (∀ p ∈ (D.tabs K).map (·.1), LamX.TabB base mg p.1 p.2) → FnG P w K mg base (D.T.gdf law) (kf (m + 1)) (D.fA K law) fd (D.T.pars law) (spF K (D.N K) ⟨D.P, W, callF D.P W (m + 1)⟩ law) ∧ Binds K fd (D.T.pars law) [] := fun base TB => by
    obtain ⟨fd', ⟨_, _, _, lk'⟩, F, b, _⟩ := fn_step (P := D.P) (W := W) (prog := P) (w := w) (n := m) (wf_all (base := base) w0 (fnw base TB) m) (fnw base TB law h7)
    rw [show (D.N K).fA law = D.fA K law from rfl, lk] at lk'
    cases lk'
    exact ⟨F, b⟩
  refine ⟨fd, (D.tabs K).map (·.1), spF K (D.N K) ⟨D.P, W, callF D.P W (m + 1)⟩ law, fun p hp => ?_, fun p hp => ?_, fun p hp => ?_, fun s u => ?_, fun H a ns hl hz hH hS => ?_, fun base hK hN TB => ?_⟩
  · obtain ⟨t, ht, rfl⟩ := List.mem_map.mp hp
    exact hT _ (tb t ht).2.2
  · obtain ⟨t, ht, rfl⟩ := List.mem_map.mp hp
    exact (tb t ht).2.1
  · obtain ⟨t, ht, rfl⟩ := List.mem_map.mp hp
    exact PySem.W.codeHd_of_K X (tb t ht).1
  · have z := h5 law (List.mem_range.mpr h7)
    unfold fnB' at z
    split at z
    · rw [hfd] at z
      simp only at z
      split at z
      · simp only [Bool.and_eq_true, Bool.or_eq_true, Bool.not_eq_true', decide_eq_true_eq, List.all_eq_true] at z
        obtain ⟨⟨⟨⟨⟨⟨⟨⟨⟨⟨⟨⟨z1, z2⟩, z3⟩, z4⟩, z5⟩, z6⟩, z7⟩, z8⟩, z9⟩, z10⟩, z11⟩, z12⟩, z13⟩ := z
        obtain ⟨as, e1, e2⟩ := simple_ok z7
        have e := bind_simple e1 z4 e2 z8 (us := [u]) (ws := []) (by rw [h6]; rfl)
        rw [List.append_nil, List.zip_nil_right, h6] at e
        exact BindsTo.of_eq e
      · cases z
    · cases z
  · obtain ⟨S', hc⟩ := plain ns hl hz
    refine ⟨[], [], [], [.ro (ns.map Sa.D.int)], ⟨.ref a, [], rfl, ⟨a, ns.map V.int, rfl, ⟨hS, ?_⟩, reps_map (f := Sa.D.int) (g := V.int) (fun z => rfl) ns⟩, rfl⟩, ⟨rfl, List.nodup_nil, fun i o p e => by simp at e, fun t ht => ?_, fun q hq => by cases hq⟩, ?_⟩
    · rcases hS with hS | hS
      · exact .inl ⟨hS, by simp, by simp⟩
      · exact .inr (.inr hS)
    · obtain ⟨t', ht', rfl⟩ := List.mem_map.mp (show t ∈ (D.tabs K).map fun t => (t.1.2, t.2) from ht)
      have e := hH t'.1 (List.mem_map.mpr ⟨t', ht', rfl⟩)
      exact ⟨#[], e, tr0, fun pos cv hc => by cases hc⟩
    · show Out K _ _ _ _ _ (callF D.P W (m + 1) law [.ro (ns.map Sa.D.int)] []) _
      rw [hc]
      exact fun ρ' H' b _ _ r => r
  · rw [← h6]
    exact (stp base TB).1.weak fun _ => rfl
end Sa
set_option maxRecDepth 100000
namespace K05
open Sa PySem
/-- is_number -/
def c0 : Fn := { np := 2, ns := 2, keep := false, body := (.cons (.ret (.and (.op (.isin .int) (.cons (.var 0) .nil)) (.and (.not (.op (.isin .bool) (.cons (.var 0) .nil))) (.chain .le .lt (.var 1) (.var 0) (.cst (.int 1000000000000000000)))))) .nil) }
/-- is_store -/
def c1 : Fn := { np := 1, ns := 5, keep := false, body := (.cons (.ite (.or (.not (.op (.isin .tuple) (.cons (.var 0) .nil))) (.or (.op .ne (.cons (.op .len (.cons (.var 0) .nil)) (.cons (.cst (.int 3)) .nil))) (.not (.op .all (.cons (.comp false [4] (.nm 4) (.of (.var 0)) .nil (.call 0 (.cons (.var 4) (.cons (.cst (.int 0)) .nil)))) .nil))))) (.cons (.ret (.cst (.bl false))) .nil) .nil) (.cons (.asg (.tp (.cons (.nm 1) (.cons (.nm 2) (.cons (.nm 3) .nil)))) (.var 0)) (.cons (.ret (.and (.chain .le .le (.cst (.int 1)) (.var 1) (.cst (.int 6))) (.chain .le .le (.op .add (.cons (.op .mul (.cons (.cst (.int 3)) (.cons (.var 3) .nil))) (.cons (.cst (.int 1)) .nil))) (.var 2) (.cst (.int 13))))) .nil))) }
/-- need_store -/
def c2 : Fn := { np := 1, ns := 1, keep := false, body := (.cons (.ite (.not (.call 1 (.cons (.var 0) .nil))) (.cons (.raise 7 (.cons (.cst (.str "no store")) .nil)) .nil) .nil) .nil) }
/-- is_row -/
def c3 : Fn := { np := 2, ns := 3, keep := false, body := (.cons (.ret (.and (.op (.isin .tuple) (.cons (.var 0) .nil)) (.and (.op .eq (.cons (.op .len (.cons (.var 0) .nil)) (.cons (.var 1) .nil))) (.op .all (.cons (.comp false [2] (.nm 2) (.of (.var 0)) .nil (.call 0 (.cons (.var 2) (.cons (.cst (.int 0)) .nil)))) .nil))))) .nil) }
/-- has_name_form -/
def c4 : Fn := { np := 1, ns := 1, keep := false, body := (.cons (.ret (.and (.op (.isin .tuple) (.cons (.var 0) .nil)) (.and (.op .eq (.cons (.op .len (.cons (.var 0) .nil)) (.cons (.cst (.int 2)) .nil))) (.and (.op (.isin .str) (.cons (.op .idx (.cons (.var 0) (.cons (.cst (.int 0)) .nil))) .nil)) (.and (.op .eq (.cons (.op .idx (.cons (.var 0) (.cons (.cst (.int 0)) .nil))) (.cons (.cst (.str "name")) .nil))) (.call 0 (.cons (.op .idx (.cons (.var 0) (.cons (.cst (.int 1)) .nil))) (.cons (.cst (.int 0)) .nil)))))))) .nil) }
/-- are_rising -/
def c5 : Fn := { np := 1, ns := 4, keep := false, body := (.cons (.ite (.or (.not (.op (.isin .tuple) (.cons (.var 0) .nil))) (.not (.op .all (.cons (.comp false [3] (.nm 3) (.of (.var 0)) .nil (.call 4 (.cons (.var 3) .nil))) .nil)))) (.cons (.ret (.cst (.bl false))) .nil) .nil) (.cons (.ret (.op .all (.cons (.comp false [1, 2] (.tp (.cons (.nm 1) (.cons (.nm 2) .nil))) (.zip (.var 0) (.op (.slc true false) (.cons (.var 0) (.cons (.cst (.int 1)) .nil)))) .nil (.op .lt (.cons (.op .idx (.cons (.var 1) (.cons (.cst (.int 1)) .nil))) (.cons (.op .idx (.cons (.var 2) (.cons (.cst (.int 1)) .nil))) .nil)))) .nil))) .nil)) }
/-- are_names -/
def c6 : Fn := { np := 1, ns := 2, keep := false, body := (.cons (.ret (.and (.op (.isin .tuple) (.cons (.var 0) .nil)) (.op .all (.cons (.comp false [1] (.nm 1) (.of (.var 0)) .nil (.call 4 (.cons (.var 1) .nil))) .nil)))) .nil) }
/-- is_end -/
def c7 : Fn := { np := 3, ns := 3, keep := false, body := (.cons (.ite (.or (.not (.op (.isin .tuple) (.cons (.var 0) .nil))) (.or (.op .ne (.cons (.op .len (.cons (.var 0) .nil)) (.cons (.cst (.int 2)) .nil))) (.not (.op (.isin .str) (.cons (.op .idx (.cons (.var 0) (.cons (.cst (.int 0)) .nil))) .nil))))) (.cons (.ret (.cst (.bl false))) .nil) .nil) (.cons (.ret (.and (.op .eq (.cons (.op .idx (.cons (.var 0) (.cons (.cst (.int 0)) .nil))) (.cons (.var 1) .nil))) (.and (.call 0 (.cons (.op .idx (.cons (.var 0) (.cons (.cst (.int 1)) .nil))) (.cons (.cst (.int 0)) .nil))) (.op .lt (.cons (.op .idx (.cons (.var 0) (.cons (.cst (.int 1)) .nil))) (.cons (.var 2) .nil)))))) .nil)) }
/-- is_round -/
def c8 : Fn := { np := 2, ns := 2, keep := false, body := (.cons (.ret (.and (.op .eq (.cons (.op .len (.cons (.var 0) .nil)) (.cons (.var 1) .nil))) (.and (.call 0 (.cons (.op .idx (.cons (.var 0) (.cons (.cst (.int 1)) .nil))) (.cons (.cst (.int 1)) .nil))) (.call 0 (.cons (.op .idx (.cons (.var 0) (.cons (.cst (.int 2)) .nil))) (.cons (.cst (.int 1)) .nil)))))) .nil) }
/-- is_hand_body -/
def c9 : Fn := { np := 2, ns := 2, keep := false, body := (.cons (.ite (.or (.not (.op (.isin .tuple) (.cons (.var 1) .nil))) (.or (.op .lt (.cons (.op .len (.cons (.var 1) .nil)) (.cons (.cst (.int 4)) .nil))) (.not (.op (.isin .str) (.cons (.op .idx (.cons (.var 1) (.cons (.cst (.int 0)) .nil))) .nil))))) (.cons (.ret (.cst (.bl false))) .nil) .nil) (.cons (.ite (.op .eq (.cons (.op .idx (.cons (.var 1) (.cons (.cst (.int 0)) .nil))) (.cons (.cst (.str "ask")) .nil))) (.cons (.ret (.and (.call 8 (.cons (.var 1) (.cons (.cst (.int 5)) .nil))) (.and (.call 3 (.cons (.op .idx (.cons (.var 1) (.cons (.cst (.int 3)) .nil))) (.cons (.op .idx (.cons (.var 0) (.cons (.cst (.int 0)) .nil))) .nil))) (.call 5 (.cons (.op .idx (.cons (.var 1) (.cons (.cst (.int 4)) .nil))) .nil))))) .nil) .nil) (.cons (.ret (.and (.op .eq (.cons (.op .idx (.cons (.var 1) (.cons (.cst (.int 0)) .nil))) (.cons (.cst (.str "keep")) .nil))) (.and (.call 8 (.cons (.var 1) (.cons (.cst (.int 4)) .nil))) (.call 6 (.cons (.op .idx (.cons (.var 1) (.cons (.cst (.int 3)) .nil))) .nil))))) .nil))) }
/-- is_house_body -/
def c10 : Fn := { np := 1, ns := 1, keep := false, body := (.cons (.ite (.or (.not (.op (.isin .tuple) (.cons (.var 0) .nil))) (.or (.op .lt (.cons (.op .len (.cons (.var 0) .nil)) (.cons (.cst (.int 4)) .nil))) (.not (.op (.isin .str) (.cons (.op .idx (.cons (.var 0) (.cons (.cst (.int 0)) .nil))) .nil))))) (.cons (.ret (.cst (.bl false))) .nil) .nil) (.cons (.ite (.op .eq (.cons (.op .idx (.cons (.var 0) (.cons (.cst (.int 0)) .nil))) (.cons (.cst (.str "have")) .nil))) (.cons (.ret (.and (.call 8 (.cons (.var 0) (.cons (.cst (.int 5)) .nil))) (.and (.call 6 (.cons (.op .idx (.cons (.var 0) (.cons (.cst (.int 3)) .nil))) .nil)) (.call 4 (.cons (.op .idx (.cons (.var 0) (.cons (.cst (.int 4)) .nil))) .nil))))) .nil) .nil) (.cons (.ret (.and (.op .eq (.cons (.op .idx (.cons (.var 0) (.cons (.cst (.int 0)) .nil))) (.cons (.cst (.str "kept")) .nil))) (.and (.call 8 (.cons (.var 0) (.cons (.cst (.int 4)) .nil))) (.call 4 (.cons (.op .idx (.cons (.var 0) (.cons (.cst (.int 3)) .nil))) .nil))))) .nil))) }
/-- right_letter -/
def c11 : Fn := { np := 2, ns := 5, keep := false, body := (.cons (.ite (.or (.not (.op (.isin .tuple) (.cons (.var 1) .nil))) (.op .ne (.cons (.op .len (.cons (.var 1) .nil)) (.cons (.cst (.int 3)) .nil)))) (.cons (.ret (.cst (.bl false))) .nil) .nil) (.cons (.asg (.tp (.cons (.nm 2) (.cons (.nm 3) (.cons (.nm 4) .nil)))) (.var 1)) (.cons (.ite (.call 7 (.cons (.var 2) (.cons (.cst (.str "hand")) (.cons (.op .idx (.cons (.var 0) (.cons (.cst (.int 0)) .nil))) .nil)))) (.cons (.ret (.and (.call 7 (.cons (.var 3) (.cons (.cst (.str "house")) (.cons (.op .idx (.cons (.var 0) (.cons (.cst (.int 1)) .nil))) .nil)))) (.call 9 (.cons (.var 0) (.cons (.var 4) .nil))))) .nil) .nil) (.cons (.ret (.and (.call 7 (.cons (.var 2) (.cons (.cst (.str "house")) (.cons (.op .idx (.cons (.var 0) (.cons (.cst (.int 1)) .nil))) .nil)))) (.and (.call 7 (.cons (.var 3) (.cons (.cst (.str "hand")) (.cons (.op .idx (.cons (.var 0) (.cons (.cst (.int 0)) .nil))) .nil)))) (.call 10 (.cons (.var 4) .nil))))) .nil)))) }
/-- is_letter -/
def c12 : Fn := { np := 2, ns := 2, keep := false, body := (.cons (.expr (.call 2 (.cons (.var 0) .nil))) (.cons (.ret (.call 11 (.cons (.var 0) (.cons (.var 1) .nil)))) .nil)) }
/-- need_letter -/
def c13 : Fn := { np := 2, ns := 2, keep := false, body := (.cons (.ite (.not (.call 11 (.cons (.var 0) (.cons (.var 1) .nil)))) (.cons (.raise 5 (.cons (.cst (.str "no letter")) .nil)) .nil) .nil) .nil) }
/-- parts_within -/
def c14 : Fn := { np := 1, ns := 4, keep := false, body := (.cons (.asg (.tp (.cons (.nm 1) (.cons (.nm 2) .nil))) (.tup (.cons (.lst true .nil) (.cons (.lst true (.cons (.var 0) .nil)) .nil)))) (.cons (.whl (.op .ne (.cons (.var 2) (.cons (.lst false .nil) .nil))) (.cons (.asg (.nm 3) (.mth .pop (.var 2) .nil)) (.cons (.ite (.and (.op (.isin .tuple) (.cons (.var 3) .nil)) (.not (.call 4 (.cons (.var 3) .nil)))) (.cons (.expr (.mth .extend (.var 2) (.cons (.var 3) .nil))) .nil) (.cons (.expr (.mth .append (.var 1) (.cons (.var 3) .nil))) .nil)) .nil))) (.cons (.ret (.var 1)) .nil))) }
/-- is_plain -/
def c15 : Fn := { np := 1, ns := 1, keep := false, body := (.cons (.ite (.or (.op .is_ (.cons (.var 0) (.cons (.cst .non) .nil))) (.op (.isin .str) (.cons (.var 0) .nil))) (.cons (.ret (.cst (.bl true))) .nil) .nil) (.cons (.ret (.and (.op (.isin .int) (.cons (.var 0) .nil)) (.and (.not (.op (.isin .bool) (.cons (.var 0) .nil))) (.op .lt (.cons (.op .abs (.cons (.var 0) .nil)) (.cons (.cst (.int 1000000000000000000)) .nil)))))) .nil)) }
/-- has_content_form -/
def c16 : Fn := { np := 1, ns := 2, keep := false, body := (.cons (.ret (.op .all (.cons (.comp false [1] (.nm 1) (.of (.call 14 (.cons (.var 0) .nil))) .nil (.or (.call 15 (.cons (.var 1) .nil)) (.call 4 (.cons (.var 1) .nil)))) .nil))) .nil) }
/-- need_fuse -/
def c17 : Fn := { np := 1, ns := 1, keep := false, body := (.cons (.ite (.and (.op .isnot (.cons (.var 0) (.cons (.cst .non) .nil))) (.not (.call 0 (.cons (.var 0) (.cons (.cst (.int 0)) .nil))))) (.cons (.raise 4 (.cons (.cst (.str "neither None nor a number")) .nil)) .nil) .nil) .nil) }
/-- _law_begun -/
def c18 : Fn := { np := 1, ns := 3, keep := true, body := (.cons (.asg (.nm 1) (.comp true [2] (.nm 2) (.of (.var 0)) (.cons (.op .ge (.cons (.op .abs (.cons (.var 2) .nil)) (.cons (.op .pow (.cons (.cst (.int 10)) (.cons (.cst (.int 18)) .nil))) .nil))) .nil) (.op .sub (.cons (.op .abs (.cons (.var 2) .nil)) (.cons (.op .pow (.cons (.cst (.int 10)) (.cons (.cst (.int 18)) .nil))) .nil))))) (.cons (.ret (.dct true (.cons (.cst (.str "great")) (.cons (.var 1) (.cons (.cst (.str "cells")) (.cons (.comp false [2] (.nm 2) (.of (.var 0)) .nil (.op .abs (.cons (.var 2) .nil))) (.cons (.cst (.str "left")) (.cons (.cst (.int 0)) (.cons (.cst (.str "turn")) (.cons (.cst (.int 0)) .nil)))))))))) .nil)) }
/-- _law_blended -/
def c19 : Fn := { np := 1, ns := 6, keep := false, body := (.cons (.asg (.tp (.cons (.nm 2) (.cons (.nm 3) .nil))) (.tup (.cons (.op .add (.cons (.op .idx (.cons (.var 0) (.cons (.cst (.str "turn")) .nil))) (.cons (.cst (.int 1)) .nil))) (.cons (.cst (.int 0)) .nil)))) (.cons (.asg (.sub (.var 0) (.cst (.str "turn"))) (.var 2)) (.cons (.forS (.nm 1) (.of (.lst false (.cons (.cst (.int 2147483477)) (.cons (.cst (.int 2147483423)) (.cons (.cst (.int 2147483399)) .nil))))) (.cons (.asg (.nm 4) (.op .add (.cons (.op .mul (.cons (.cst (.int 40014)) (.cons (.var 2) .nil))) (.cons (.op .fdiv (.cons (.var 1) (.cons (.cst (.int 67)) .nil))) .nil)))) (.cons (.forS (.nm 5) (.of (.op .idx (.cons (.var 0) (.cons (.cst (.str "cells")) .nil)))) (.cons (.asg (.nm 4) (.op .mod (.cons (.op .int (.cons (.op .add (.cons (.op .add (.cons (.op .mul (.cons (.var 4) (.cons (.cst (.int 69621)) .nil))) (.cons (.var 5) .nil))) (.cons (.var 2) .nil))) .nil)) (.cons (.var 1) .nil)))) .nil)) (.cons (.asg (.nm 3) (.op .add (.cons (.op .mul (.cons (.var 3) (.cons (.cst (.int 2147483647)) .nil))) (.cons (.op .mod (.cons (.op .int (.cons (.op .pow (.cons (.var 4) (.cons (.cst (.int 5)) .nil))) .nil)) (.cons (.var 1) .nil))) .nil)))) .nil)))) (.cons (.ret (.var 3)) .nil)))) }
/-- _law_draw -/
def c20 : Fn := { np := 2, ns := 3, keep := false, body := (.cons (.ite (.op .eq (.cons (.op .idx (.cons (.var 0) (.cons (.cst (.str "left")) .nil))) (.cons (.cst (.int 0)) .nil))) (.cons (.asg (.sub (.var 0) (.cst (.str "left"))) (.ite (.op .ne (.cons (.op .idx (.cons (.var 0) (.cons (.cst (.str "great")) .nil))) (.cons (.lst false .nil) .nil))) (.mth .popAt (.op .idx (.cons (.var 0) (.cons (.cst (.str "great")) .nil))) (.cons (.cst (.int 0)) .nil)) (.call 19 (.cons (.var 0) .nil)))) .nil) .nil) (.cons (.asg (.nm 2) (.op .mod (.cons (.op .int (.cons (.op .idx (.cons (.var 0) (.cons (.cst (.str "left")) .nil))) .nil)) (.cons (.var 1) .nil)))) (.cons (.asg (.sub (.var 0) (.cst (.str "left"))) (.op .fdiv (.cons (.op .idx (.cons (.var 0) (.cons (.cst (.str "left")) .nil))) (.cons (.var 1) .nil)))) (.cons (.ret (.var 2)) .nil)))) }
/-- _law_pick -/
def c21 : Fn := { np := 2, ns := 2, keep := false, body := (.cons (.ret (.op .idx (.cons (.var 1) (.cons (.call 20 (.cons (.var 0) (.cons (.op .len (.cons (.var 1) .nil)) .nil))) .nil)))) .nil) }
/-- _law_mixed -/
def c22 : Fn := { np := 2, ns := 4, keep := false, body := (.cons (.asg (.tp (.cons (.nm 2) (.cons (.nm 3) .nil))) (.tup (.cons (.op (.list true) (.cons (.var 1) .nil)) (.cons (.lst true .nil) .nil)))) (.cons (.whl (.op .ne (.cons (.var 2) (.cons (.lst false .nil) .nil))) (.cons (.expr (.mth .append (.var 3) (.cons (.mth .popAt (.var 2) (.cons (.call 20 (.cons (.var 0) (.cons (.op .len (.cons (.var 2) .nil)) .nil))) .nil)) .nil))) .nil)) (.cons (.ret (.var 3)) .nil))) }
/-- _law_is_truth -/
def c23 : Fn := { np := 2, ns := 2, keep := false, body := (.cons (.ret (.ite (.var 1) (.op .is_ (.cons (.var 0) (.cons (.cst (.bl true)) .nil))) (.op .is_ (.cons (.var 0) (.cons (.cst (.bl false)) .nil))))) .nil) }
/-- _law_is_whole -/
def c24 : Fn := { np := 1, ns := 1, keep := false, body := (.cons (.ret (.and (.op (.isin .int) (.cons (.var 0) .nil)) (.not (.op (.isin .bool) (.cons (.var 0) .nil))))) .nil) }
/-- _law_bent -/
def c25 : Fn := { np := 2, ns := 5, keep := false, body := (.cons (.asg (.nm 2) (.call 21 (.cons (.var 0) (.cons (.lst false (.cons (.cst .non) (.cons (.cst (.int 0)) (.cons (.op .neg (.cons (.cst (.int 1)) .nil)) (.cons (.cst (.bl true)) (.cons (.cst (.str "1")) (.cons (.cst (.str "")) (.cons (.tup .nil) (.cons (.lst false .nil) (.cons (.dct false .nil) (.cons (.tup (.cons (.cst (.int 1)) .nil)) (.cons (.tup (.cons (.tup (.cons (.cst (.int 0)) .nil)) .nil)) (.cons (.tup (.cons (.cst (.str "a")) .nil)) (.cons (.op .pow (.cons (.cst (.int 10)) (.cons (.cst (.int 17)) .nil))) .nil)))))))))))))) .nil)))) (.cons (.ite (.or (.not (.op (.isin .tuple) (.cons (.var 1) .nil))) (.or (.op .eq (.cons (.var 1) (.cons (.tup .nil) .nil))) (.op .eq (.cons (.call 20 (.cons (.var 0) (.cons (.cst (.int 9)) .nil))) (.cons (.cst (.int 0)) .nil))))) (.cons (.ret (.var 2)) .nil) .nil) (.cons (.asg (.tp (.cons (.nm 3) (.cons (.nm 4) .nil))) (.tup (.cons (.call 20 (.cons (.var 0) (.cons (.op .len (.cons (.var 1) .nil)) .nil))) (.cons (.call 20 (.cons (.var 0) (.cons (.cst (.int 8)) .nil))) .nil)))) (.cons (.ite (.op .lt (.cons (.var 4) (.cons (.cst (.int 4)) .nil))) (.cons (.ret (.op .add (.cons (.op .add (.cons (.op (.slc false true) (.cons (.var 1) (.cons (.var 3) .nil))) (.cons (.tup (.cons (.call 25 (.cons (.var 0) (.cons (.op .idx (.cons (.var 1) (.cons (.var 3) .nil))) .nil))) .nil)) .nil))) (.cons (.op (.slc true false) (.cons (.var 1) (.cons (.op .add (.cons (.var 3) (.cons (.cst (.int 1)) .nil))) .nil))) .nil)))) .nil) .nil) (.cons (.ite (.op .eq (.cons (.var 4) (.cons (.cst (.int 4)) .nil))) (.cons (.ret (.op .add (.cons (.op (.slc false true) (.cons (.var 1) (.cons (.var 3) .nil))) (.cons (.op (.slc true false) (.cons (.var 1) (.cons (.op .add (.cons (.var 3) (.cons (.cst (.int 1)) .nil))) .nil))) .nil)))) .nil) .nil) (.cons (.ite (.op .eq (.cons (.var 4) (.cons (.cst (.int 5)) .nil))) (.cons (.ret (.op .add (.cons (.op .add (.cons (.op (.slc false true) (.cons (.var 1) (.cons (.var 3) .nil))) (.cons (.op (.slc true true) (.cons (.var 1) (.cons (.var 3) (.cons (.op .add (.cons (.var 3) (.cons (.cst (.int 1)) .nil))) .nil)))) .nil))) (.cons (.op (.slc true false) (.cons (.var 1) (.cons (.var 3) .nil))) .nil)))) .nil) .nil) (.cons (.ite (.and (.op .eq (.cons (.var 4) (.cons (.cst (.int 6)) .nil))) (.call 24 (.cons (.op .idx (.cons (.var 1) (.cons (.var 3) .nil))) .nil))) (.cons (.ret (.op .add (.cons (.op .add (.cons (.op (.slc false true) (.cons (.var 1) (.cons (.var 3) .nil))) (.cons (.tup (.cons (.op .add (.cons (.op .idx (.cons (.var 1) (.cons (.var 3) .nil))) (.cons (.call 21 (.cons (.var 0) (.cons (.lst false (.cons (.cst (.int 1)) (.cons (.op .neg (.cons (.cst (.int 1)) .nil)) .nil))) .nil))) .nil))) .nil)) .nil))) (.cons (.op (.slc true false) (.cons (.var 1) (.cons (.op .add (.cons (.var 3) (.cons (.cst (.int 1)) .nil))) .nil))) .nil)))) .nil) .nil) (.cons (.ret (.ite (.op .eq (.cons (.var 4) (.cons (.cst (.int 7)) .nil))) (.op .rev (.cons (.var 1) .nil)) (.op (.list false) (.cons (.var 1) .nil)))) .nil)))))))) }
/-- _law_k05_is_row -/
def c26 : Fn := { np := 2, ns := 3, keep := false, body := (.cons (.ret (.and (.op (.isin .tuple) (.cons (.var 1) .nil)) (.and (.op .eq (.cons (.op .len (.cons (.var 1) .nil)) (.cons (.op .idx (.cons (.var 0) (.cons (.cst (.int 0)) .nil))) .nil))) (.op .notin (.cons (.cst (.bl false)) (.cons (.comp false [2] (.nm 2) (.of (.var 1)) .nil (.and (.call 24 (.cons (.var 2) .nil)) (.op .ge (.cons (.var 2) (.cons (.cst (.int 0)) .nil))))) .nil)))))) .nil) }
/-- _law_k05_is_name -/
def c27 : Fn := { np := 1, ns := 1, keep := false, body := (.cons (.ret (.and (.op (.isin .tuple) (.cons (.var 0) .nil)) (.and (.op .eq (.cons (.op .len (.cons (.var 0) .nil)) (.cons (.cst (.int 2)) .nil))) (.and (.op (.isin .str) (.cons (.op .idx (.cons (.var 0) (.cons (.cst (.int 0)) .nil))) .nil)) (.and (.op .eq (.cons (.op .idx (.cons (.var 0) (.cons (.cst (.int 0)) .nil))) (.cons (.cst (.str "name")) .nil))) (.and (.call 24 (.cons (.op .idx (.cons (.var 0) (.cons (.cst (.int 1)) .nil))) .nil)) (.op .ge (.cons (.op .idx (.cons (.var 0) (.cons (.cst (.int 1)) .nil))) (.cons (.cst (.int 0)) .nil))))))))) .nil) }
/-- _law_k05_is_end -/
def c28 : Fn := { np := 3, ns := 3, keep := false, body := (.cons (.ret (.and (.op (.isin .tuple) (.cons (.var 0) .nil)) (.and (.op .eq (.cons (.op .len (.cons (.var 0) .nil)) (.cons (.cst (.int 2)) .nil))) (.and (.op (.isin .str) (.cons (.op .idx (.cons (.var 0) (.cons (.cst (.int 0)) .nil))) .nil)) (.and (.op .eq (.cons (.op .idx (.cons (.var 0) (.cons (.cst (.int 0)) .nil))) (.cons (.var 1) .nil))) (.and (.call 24 (.cons (.op .idx (.cons (.var 0) (.cons (.cst (.int 1)) .nil))) .nil)) (.chain .le .lt (.cst (.int 0)) (.op .idx (.cons (.var 0) (.cons (.cst (.int 1)) .nil))) (.var 2)))))))) .nil) }
/-- _law_k05_is_letter -/
def c29 : Fn := { np := 2, ns := 6, keep := false, body := (.cons (.ite (.or (.not (.op (.isin .tuple) (.cons (.var 1) .nil))) (.or (.op .ne (.cons (.op .len (.cons (.var 1) .nil)) (.cons (.cst (.int 3)) .nil))) (.or (.not (.op (.isin .tuple) (.cons (.op .idx (.cons (.var 1) (.cons (.cst (.int 2)) .nil))) .nil))) (.op .lt (.cons (.op .len (.cons (.op .idx (.cons (.var 1) (.cons (.cst (.int 2)) .nil))) .nil)) (.cons (.cst (.int 4)) .nil)))))) (.cons (.ret (.cst (.bl false))) .nil) .nil) (.cons (.asg (.tp (.cons (.nm 2) (.cons (.nm 3) (.cons (.nm 4) .nil)))) (.var 1)) (.cons (.ite (.or (.not (.op (.isin .str) (.cons (.op .idx (.cons (.var 4) (.cons (.cst (.int 0)) .nil))) .nil))) (.op .ne (.cons (.comp false [5] (.nm 5) (.of (.op (.slc true true) (.cons (.var 4) (.cons (.cst (.int 1)) (.cons (.cst (.int 3)) .nil))))) (.cons (.or (.not (.call 24 (.cons (.var 5) .nil))) (.op .lt (.cons (.var 5) (.cons (.cst (.int 1)) .nil)))) .nil) (.var 5)) (.cons (.lst false .nil) .nil)))) (.cons (.ret (.cst (.bl false))) .nil) .nil) (.cons (.ite (.and (.call 28 (.cons (.var 2) (.cons (.cst (.str "hand")) (.cons (.op .idx (.cons (.var 0) (.cons (.cst (.int 0)) .nil))) .nil)))) (.call 28 (.cons (.var 3) (.cons (.cst (.str "house")) (.cons (.op .idx (.cons (.var 0) (.cons (.cst (.int 1)) .nil))) .nil))))) (.cons (.ite (.op .eq (.cons (.op .idx (.cons (.var 4) (.cons (.cst (.int 0)) .nil))) (.cons (.cst (.str "keep")) .nil))) (.cons (.ret (.and (.op .eq (.cons (.op .len (.cons (.var 4) .nil)) (.cons (.cst (.int 4)) .nil))) (.and (.op (.isin .tuple) (.cons (.op .idx (.cons (.var 4) (.cons (.cst (.int 3)) .nil))) .nil)) (.op .notin (.cons (.cst (.bl false)) (.cons (.comp false [5] (.nm 5) (.of (.op .idx (.cons (.var 4) (.cons (.cst (.int 3)) .nil)))) .nil (.call 27 (.cons (.var 5) .nil))) .nil)))))) .nil) .nil) (.cons (.ite (.or (.op .ne (.cons (.op .idx (.cons (.var 4) (.cons (.cst (.int 0)) .nil))) (.cons (.cst (.str "ask")) .nil))) (.or (.op .ne (.cons (.op .len (.cons (.var 4) .nil)) (.cons (.cst (.int 5)) .nil))) (.or (.not (.call 26 (.cons (.var 0) (.cons (.op .idx (.cons (.var 4) (.cons (.cst (.int 3)) .nil))) .nil)))) (.not (.op (.isin .tuple) (.cons (.op .idx (.cons (.var 4) (.cons (.cst (.int 4)) .nil))) .nil)))))) (.cons (.ret (.cst (.bl false))) .nil) .nil) (.cons (.ret (.and (.op .notin (.cons (.cst (.bl false)) (.cons (.comp false [5] (.nm 5) (.of (.op .idx (.cons (.var 4) (.cons (.cst (.int 4)) .nil)))) .nil (.call 27 (.cons (.var 5) .nil))) .nil))) (.op .eq (.cons (.comp false [5] (.nm 5) (.of (.op .idx (.cons (.var 4) (.cons (.cst (.int 4)) .nil)))) .nil (.op .idx (.cons (.var 5) (.cons (.cst (.int 1)) .nil)))) (.cons (.op (.sorted false) (.cons (.op (.dict false) (.cons (.comp false [5] (.nm 5) (.of (.op .idx (.cons (.var 4) (.cons (.cst (.int 4)) .nil)))) .nil (.tup (.cons (.op .idx (.cons (.var 5) (.cons (.cst (.int 1)) .nil))) (.cons (.cst (.bl true)) .nil)))) .nil)) .nil)) .nil))))) .nil))) .nil) (.cons (.ite (.or (.not (.call 28 (.cons (.var 2) (.cons (.cst (.str "house")) (.cons (.op .idx (.cons (.var 0) (.cons (.cst (.int 1)) .nil))) .nil))))) (.not (.call 28 (.cons (.var 3) (.cons (.cst (.str "hand")) (.cons (.op .idx (.cons (.var 0) (.cons (.cst (.int 0)) .nil))) .nil)))))) (.cons (.ret (.cst (.bl false))) .nil) .nil) (.cons (.ite (.op .eq (.cons (.op .idx (.cons (.var 4) (.cons (.cst (.int 0)) .nil))) (.cons (.cst (.str "kept")) .nil))) (.cons (.ret (.and (.op .eq (.cons (.op .len (.cons (.var 4) .nil)) (.cons (.cst (.int 4)) .nil))) (.call 27 (.cons (.op .idx (.cons (.var 4) (.cons (.cst (.int 3)) .nil))) .nil)))) .nil) .nil) (.cons (.ret (.and (.op .eq (.cons (.op .idx (.cons (.var 4) (.cons (.cst (.int 0)) .nil))) (.cons (.cst (.str "have")) .nil))) (.and (.op .eq (.cons (.op .len (.cons (.var 4) .nil)) (.cons (.cst (.int 5)) .nil))) (.and (.op (.isin .tuple) (.cons (.op .idx (.cons (.var 4) (.cons (.cst (.int 3)) .nil))) .nil)) (.and (.op .notin (.cons (.cst (.bl false)) (.cons (.comp false [5] (.nm 5) (.of (.op .idx (.cons (.var 4) (.cons (.cst (.int 3)) .nil)))) .nil (.call 27 (.cons (.var 5) .nil))) .nil))) (.call 27 (.cons (.op .idx (.cons (.var 4) (.cons (.cst (.int 4)) .nil))) .nil))))))) .nil))))))) }
/-- _law_k05_letter -/
def c30 : Fn := { np := 2, ns := 13, keep := false, body := (.cons (.asg (.tp (.cons (.nm 6) (.cons (.nm 7) .nil))) (.tup (.cons (.tup (.cons (.cst (.str "hand")) (.cons (.call 20 (.cons (.var 0) (.cons (.op .idx (.cons (.var 1) (.cons (.cst (.int 0)) .nil))) .nil))) .nil))) (.cons (.tup (.cons (.cst (.str "house")) (.cons (.call 20 (.cons (.var 0) (.cons (.op .idx (.cons (.var 1) (.cons (.cst (.int 1)) .nil))) .nil))) .nil))) .nil)))) (.cons (.asg (.nm 2) (.op .tuple (.cons (.comp false [9] (.nm 9) (.rng (.call 20 (.cons (.var 0) (.cons (.cst (.int 4)) .nil)))) .nil (.tup (.cons (.cst (.str "name")) (.cons (.call 20 (.cons (.var 0) (.cons (.cst (.int 9)) .nil))) .nil)))) .nil))) (.cons (.asg (.tp (.cons (.nm 8) (.cons (.nm 9) .nil))) (.tup (.cons (.op .add (.cons (.cst (.int 1)) (.cons (.call 20 (.cons (.var 0) (.cons (.cst (.int 3)) .nil))) .nil))) (.cons (.op .add (.cons (.cst (.int 1)) (.cons (.call 20 (.cons (.var 0) (.cons (.op .pow (.cons (.cst (.int 10)) (.cons (.cst (.int 6)) .nil))) .nil))) .nil))) .nil)))) (.cons (.asg (.nm 3) (.op .tuple (.cons (.op (.sorted false) (.cons (.comp false [11, 12] (.tp (.cons (.nm 11) (.cons (.nm 12) .nil))) (.enum (.var 2)) (.cons (.op .notin (.cons (.var 12) (.cons (.op (.slc false true) (.cons (.var 2) (.cons (.var 11) .nil))) .nil))) .nil) (.var 12)) .nil)) .nil))) (.cons (.asg (.nm 4) (.op .tuple (.cons (.comp false [10] (.nm 10) (.rng (.op .idx (.cons (.var 1) (.cons (.cst (.int 0)) .nil)))) .nil (.call 20 (.cons (.var 0) (.cons (.cst (.int 5)) .nil)))) .nil))) (.cons (.asg (.nm 5) (.lst false (.cons (.tup (.cons (.var 6) (.cons (.var 7) (.cons (.tup (.cons (.cst (.str "ask")) (.cons (.var 8) (.cons (.var 9) (.cons (.var 4) (.cons (.var 3) .nil)))))) .nil)))) (.cons (.tup (.cons (.var 6) (.cons (.var 7) (.cons (.tup (.cons (.cst (.str "keep")) (.cons (.var 8) (.cons (.var 9) (.cons (.var 2) .nil))))) .nil)))) .nil)))) (.cons (.ret (.call 21 (.cons (.var 0) (.cons (.op .add (.cons (.var 5) (.cons (.lst false (.cons (.tup (.cons (.var 7) (.cons (.var 6) (.cons (.tup (.cons (.cst (.str "have")) (.cons (.var 8) (.cons (.var 9) (.cons (.var 2) (.cons (.tup (.cons (.cst (.str "name")) (.cons (.cst (.int 3)) .nil))) .nil)))))) .nil)))) (.cons (.tup (.cons (.var 7) (.cons (.var 6) (.cons (.tup (.cons (.cst (.str "kept")) (.cons (.var 8) (.cons (.var 9) (.cons (.tup (.cons (.cst (.str "name")) (.cons (.cst (.int 0)) .nil))) .nil))))) .nil)))) .nil))) .nil))) .nil)))) .nil))))))) }
/-- _law_k05_disk -/
def c31 : Fn := { np := 1, ns := 16, keep := false, body := (.cons (.asg (.nm 1) (.lst false (.cons (.cst (.int 0)) (.cons (.op .neg (.cons (.cst (.int 5)) .nil)) (.cons (.cst (.str "x")) (.cons (.cst (.str "")) (.cons (.cst .non) (.cons (.tup .nil) (.cons (.tup (.cons (.cst (.int 1)) (.cons (.tup (.cons (.cst (.str "name")) (.cons (.cst (.int 7)) .nil))) (.cons (.cst .non) .nil)))) (.cons (.tup (.cons (.cst (.str "name")) (.cons (.op .pow (.cons (.cst (.int 10)) (.cons (.cst (.int 9)) .nil))) .nil))) (.cons (.tup (.cons (.tup (.cons (.tup (.cons (.cst (.str "a")) .nil)) .nil)) .nil)) .nil))))))))))) (.cons (.asg (.nm 2) (.lst false (.cons (.cst (.bl true)) (.cons (.lst false .nil) (.cons (.dct true .nil) (.cons (.tup (.cons (.cst (.int 1)) (.cons (.lst false (.cons (.cst (.int 2)) .nil)) .nil))) (.cons (.tup (.cons (.cst (.bl true)) .nil)) .nil))))))) (.cons (.asg (.nm 3) (.op (.dict false) (.cons (.comp false [12] (.nm 12) (.of (.op (.slc false true) (.cons (.call 22 (.cons (.var 0) (.cons (.lst false (.cons (.cst (.str "b")) (.cons (.cst (.str "a")) (.cons (.cst (.str "")) (.cons (.cst (.str "stock")) .nil))))) .nil))) (.cons (.call 20 (.cons (.var 0) (.cons (.cst (.int 5)) .nil))) .nil)))) .nil (.tup (.cons (.var 12) (.cons (.call 21 (.cons (.var 0) (.cons (.var 1) .nil))) .nil)))) .nil))) (.cons (.asg (.nm 4) (.call 21 (.cons (.var 0) (.cons (.lst false (.cons (.cst .non) (.cons (.cst (.int 0)) (.cons (.cst (.int 1)) (.cons (.cst (.int 3)) .nil))))) .nil)))) (.cons (.asg (.nm 5) (.op (.dict true) (.cons (.var 3) .nil))) (.cons (.asg (.tp (.cons (.nm 8) (.cons (.nm 9) (.cons (.nm 10) .nil)))) (.tup (.cons (.newK 10 .nil (.cons (.var 5) (.cons (.var 4) .nil))) (.cons (.op (.dict true) (.cons (.var 3) .nil)) (.cons (.var 4) .nil))))) (.cons (.asg (.sub (.var 5) (.cst (.str "late"))) (.cst (.int 1))) (.cons (.forS (.nm 6) (.rng (.cst (.int 14))) (.cons (.asg (.tp (.cons (.nm 12) (.cons (.nm 13) (.cons (.nm 14) .nil)))) (.tup (.cons (.call 21 (.cons (.var 0) (.cons (.lst false (.cons (.cst (.str "a")) (.cons (.cst (.str "b")) (.cons (.cst (.str "z")) (.cons (.cst (.str "stock")) (.cons (.cst (.str "")) .nil)))))) .nil))) (.cons (.call 21 (.cons (.var 0) (.cons (.var 1) .nil))) (.cons (.call 21 (.cons (.var 0) (.cons (.var 2) .nil))) .nil))))) (.cons (.ite (.or (.op .ne (.cons (.op .repr (.cons (.meth 4 (.var 8) (.cons (.var 12) .nil)) .nil)) (.cons (.op .repr (.cons (.mth .get (.var 9) (.cons (.var 12) .nil)) .nil)) .nil))) (.or (.op .ne (.cons (.op .repr (.cons (.meth 5 (.var 8) .nil) .nil)) (.cons (.op .repr (.cons (.op (.dict false) (.cons (.comp false [15] (.nm 15) (.of (.op (.sorted false) (.cons (.var 9) .nil))) .nil (.tup (.cons (.var 15) (.cons (.op .idx (.cons (.var 9) (.cons (.var 15) .nil))) .nil)))) .nil)) .nil)) .nil))) (.op .ne (.cons (.attr 1 (.var 8)) (.cons (.var 10) .nil))))) (.cons (.ret (.cst (.bl false))) .nil) .nil) (.cons (.ite (.not (.op (.isin (.own 3)) (.cons (.caught (.meth 6 (.var 8) (.cons (.var 12) (.cons (.var 14) .nil)))) .nil))) (.cons (.ret (.cst (.bl false))) .nil) .nil) (.cons (.ite (.not (.op (.isin (.own 1)) (.cons (.caught (.meth 4 (.var 8) (.cons (.call 21 (.cons (.var 0) (.cons (.lst false (.cons (.cst .non) (.cons (.cst (.int 5)) (.cons (.tup (.cons (.cst (.str "a")) .nil)) .nil)))) .nil))) .nil))) .nil))) (.cons (.ret (.cst (.bl false))) .nil) .nil) (.cons (.asg (.nm 11) (.caught (.meth 6 (.var 8) (.cons (.var 12) (.cons (.var 13) .nil))))) (.cons (.ite (.or (.op .ne (.cons (.op .eq (.cons (.var 10) (.cons (.cst (.int 0)) .nil))) (.cons (.op (.isin (.own 9)) (.cons (.var 11) .nil)) .nil))) (.and (.op .ne (.cons (.var 10) (.cons (.cst (.int 0)) .nil))) (.op .isnot (.cons (.var 11) (.cons (.cst .non) .nil))))) (.cons (.ret (.cst (.bl false))) .nil) .nil) (.cons (.ite (.op .ne (.cons (.var 10) (.cons (.cst (.int 0)) .nil))) (.cons (.asg (.tp (.cons (.sub (.var 9) (.var 12)) (.cons (.nm 10) .nil))) (.tup (.cons (.var 13) (.cons (.ite (.op .is_ (.cons (.var 10) (.cons (.cst .non) .nil))) (.cst .non) (.op .sub (.cons (.var 10) (.cons (.cst (.int 1)) .nil)))) .nil)))) .nil) .nil) .nil)))))))) (.cons (.asg (.nm 7) (.comp false [14] (.nm 14) (.of (.lst false (.cons (.cst .non) (.cons (.lst false .nil) (.cons (.dct true (.cons (.cst (.int 5)) (.cons (.cst (.int 1)) .nil))) (.cons (.dct true (.cons (.cst (.str "a")) (.cons (.cst (.bl true)) .nil))) (.cons (.dct true (.cons (.cst (.str "a")) (.cons (.lst false (.cons (.cst (.int 1)) .nil)) .nil))) .nil))))))) .nil (.op (.isin (.own 2)) (.cons (.caught (.new 10 (.cons (.var 14) (.cons (.cst .non) .nil)))) .nil)))) (.cons (.asg (.nm 7) (.op .add (.cons (.var 7) (.cons (.comp false [14] (.nm 14) (.of (.lst false (.cons (.op .neg (.cons (.cst (.int 1)) .nil)) (.cons (.cst (.bl true)) (.cons (.cst (.str "1")) (.cons (.tup .nil) .nil)))))) .nil (.op (.isin (.own 4)) (.cons (.caught (.new 10 (.cons (.dct true .nil) (.cons (.var 14) .nil)))) .nil))) .nil)))) (.cons (.ret (.op .notin (.cons (.cst (.bl false)) (.cons (.var 7) .nil)))) .nil))))))))))) }
/-- _law_k05_road -/
def c32 : Fn := { np := 2, ns := 12, keep := false, body := (.cons (.asg (.tp (.cons (.nm 4) (.cons (.nm 5) .nil))) (.tup (.cons (.new 11 (.cons (.var 1) .nil)) (.cons (.lst false .nil) .nil)))) (.cons (.ite (.or (.op .ne (.cons (.attr 2 (.var 4)) (.cons (.var 1) .nil))) (.or (.op .ne (.cons (.meth 7 (.var 4) .nil) (.cons (.cst (.int 0)) .nil))) (.not (.op (.isin (.own 7)) (.cons (.caught (.new 11 (.cons (.tup (.cons (.cst (.int 1)) (.cons (.cst (.int 1)) (.cons (.cst (.int 1)) .nil)))) .nil))) .nil))))) (.cons (.ret (.cst (.bl false))) .nil) .nil) (.cons (.forS (.nm 2) (.rng (.cst (.int 12))) (.cons (.asg (.nm 6) (.call 30 (.cons (.var 0) (.cons (.var 1) .nil)))) (.cons (.asg (.nm 7) (.call 25 (.cons (.var 0) (.cons (.var 6) .nil)))) (.cons (.ite (.and (.op .is_ (.cons (.call 29 (.cons (.var 1) (.cons (.var 7) .nil))) (.cons (.cst (.bl false)) .nil))) (.not (.op (.isin (.own 5)) (.cons (.caught (.meth 8 (.var 4) (.cons (.var 7) .nil))) .nil)))) (.cons (.ret (.cst (.bl false))) .nil) .nil) (.cons (.ite (.op .ne (.cons (.meth 8 (.var 4) (.cons (.var 6) .nil)) (.cons (.op .len (.cons (.var 5) .nil)) .nil))) (.cons (.ret (.cst (.bl false))) .nil) .nil) (.cons (.asg (.nm 5) (.op .add (.cons (.var 5) (.cons (.lst false (.cons (.var 6) .nil)) .nil)))) (.cons (.asg (.tp (.cons (.nm 8) (.cons (.nm 9) .nil))) (.tup (.cons (.call 20 (.cons (.var 0) (.cons (.op .len (.cons (.var 5) .nil)) .nil))) (.cons (.op .idx (.cons (.call 21 (.cons (.var 0) (.cons (.var 5) .nil))) (.cons (.cst (.int 1)) .nil))) .nil)))) (.cons (.ite (.or (.op .ne (.cons (.op .repr (.cons (.meth 9 (.var 4) (.cons (.var 8) .nil)) .nil)) (.cons (.op .repr (.cons (.op .idx (.cons (.var 5) (.cons (.var 8) .nil))) .nil)) .nil))) (.op .ne (.cons (.meth 7 (.var 4) .nil) (.cons (.op .len (.cons (.var 5) .nil)) .nil)))) (.cons (.ret (.cst (.bl false))) .nil) .nil) (.cons (.ite (.op .ne (.cons (.op .repr (.cons (.meth 10 (.var 4) (.cons (.var 9) .nil)) .nil)) (.cons (.op .repr (.cons (.comp false [10, 11] (.tp (.cons (.nm 10) (.cons (.nm 11) .nil))) (.enum (.var 5)) (.cons (.op .eq (.cons (.op .idx (.cons (.var 11) (.cons (.cst (.int 1)) .nil))) (.cons (.var 9) .nil))) .nil) (.var 10)) .nil)) .nil))) (.cons (.ret (.cst (.bl false))) .nil) .nil) (.cons (.forS (.nm 3) (.of (.lst false (.cons (.op .len (.cons (.var 5) .nil)) (.cons (.op .neg (.cons (.cst (.int 1)) .nil)) (.cons (.cst (.bl true)) (.cons (.cst .non) .nil)))))) (.cons (.ite (.not (.op (.isin (.own 6)) (.cons (.caught (.meth 9 (.var 4) (.cons (.var 3) .nil))) .nil))) (.cons (.ret (.cst (.bl false))) .nil) .nil) .nil)) .nil)))))))))) (.cons (.forS (.nm 3) (.of (.lst false (.cons (.tup (.cons (.cst (.str "hand")) (.cons (.op .idx (.cons (.var 1) (.cons (.cst (.int 0)) .nil))) .nil))) (.cons (.tup (.cons (.cst (.str "house")) (.cons (.op .idx (.cons (.var 1) (.cons (.cst (.int 1)) .nil))) .nil))) (.cons (.tup (.cons (.cst (.str "hand")) (.cons (.cst (.bl true)) .nil))) (.cons (.cst .non) (.cons (.tup (.cons (.cst (.str "liar")) (.cons (.cst (.int 0)) .nil))) (.cons (.lst false (.cons (.cst (.str "hand")) (.cons (.cst (.int 0)) .nil))) .nil)))))))) (.cons (.ite (.not (.op (.isin (.own 8)) (.cons (.caught (.meth 10 (.var 4) (.cons (.var 3) .nil))) .nil))) (.cons (.ret (.cst (.bl false))) .nil) .nil) .nil)) (.cons (.ret (.cst (.bl true))) .nil))))) }
/-- law -/
def c33 : Fn := { np := 1, ns := 7, keep := false, body := (.cons (.asg (.nm 1) (.call 18 (.cons (.var 0) .nil))) (.cons (.forS (.nm 2) (.rng (.op .add (.cons (.cst (.int 2)) (.cons (.op .min2 (.cons (.op .len (.cons (.var 0) .nil)) (.cons (.cst (.int 4)) .nil))) .nil)))) (.cons (.asg (.nm 3) (.call 21 (.cons (.var 1) (.cons (.lst false (.cons (.tup (.cons (.cst (.int 1)) (.cons (.cst (.int 1)) (.cons (.cst (.int 0)) .nil)))) (.cons (.tup (.cons (.cst (.int 2)) (.cons (.cst (.int 4)) (.cons (.cst (.int 1)) .nil)))) (.cons (.tup (.cons (.cst (.int 6)) (.cons (.cst (.int 13)) (.cons (.cst (.int 4)) .nil)))) (.cons (.tup (.cons (.cst (.int 3)) (.cons (.cst (.int 2)) (.cons (.cst (.int 0)) .nil)))) .nil))))) .nil)))) (.cons (.ite (.or (.not (.call 31 (.cons (.var 1) .nil))) (.not (.call 32 (.cons (.var 1) (.cons (.var 3) .nil))))) (.cons (.ret (.cst (.bl false))) .nil) .nil) (.cons (.forS (.nm 4) (.rng (.cst (.int 12))) (.cons (.asg (.nm 5) (.call 30 (.cons (.var 1) (.cons (.var 3) .nil)))) (.cons (.forS (.nm 6) (.of (.lst false (.cons (.var 5) (.cons (.call 25 (.cons (.var 1) (.cons (.var 5) .nil))) (.cons (.call 25 (.cons (.var 1) (.cons (.var 5) .nil))) (.cons (.op .add (.cons (.op (.slc false true) (.cons (.var 5) (.cons (.cst (.int 2)) .nil))) (.cons (.tup (.cons (.op (.slc false true) (.cons (.op .idx (.cons (.var 5) (.cons (.cst (.int 2)) .nil))) (.cons (.op .neg (.cons (.cst (.int 1)) .nil)) .nil))) .nil)) .nil))) (.cons (.op .add (.cons (.op (.slc false true) (.cons (.var 5) (.cons (.cst (.int 2)) .nil))) (.cons (.tup (.cons (.op .add (.cons (.op .idx (.cons (.var 5) (.cons (.cst (.int 2)) .nil))) (.cons (.tup (.cons (.cst (.int 1)) .nil)) .nil))) .nil)) .nil))) (.cons (.op .rev (.cons (.var 5) .nil)) (.cons (.op (.list false) (.cons (.var 5) .nil)) .nil))))))))) (.cons (.ite (.not (.call 23 (.cons (.callK 12 .nil (.cons (.var 3) (.cons (.var 6) .nil))) (.cons (.call 29 (.cons (.var 3) (.cons (.var 6) .nil))) .nil)))) (.cons (.ret (.cst (.bl false))) .nil) .nil) .nil)) .nil))) (.cons (.ite (.not (.op (.isin (.own 7)) (.cons (.caught (.call 12 (.cons (.call 21 (.cons (.var 1) (.cons (.lst false (.cons (.cst .non) (.cons (.tup (.cons (.cst (.int 0)) (.cons (.cst (.int 1)) (.cons (.cst (.int 0)) .nil)))) (.cons (.tup (.cons (.cst (.int 1)) (.cons (.cst (.int 3)) (.cons (.cst (.int 1)) .nil)))) (.cons (.tup (.cons (.cst (.int 7)) (.cons (.cst (.int 4)) (.cons (.cst (.int 1)) .nil)))) (.cons (.tup (.cons (.cst (.int 1)) (.cons (.cst (.int 14)) (.cons (.cst (.int 1)) .nil)))) (.cons (.tup (.cons (.cst (.int 1)) (.cons (.cst (.int 4)) .nil))) .nil))))))) .nil))) (.cons (.cst .non) .nil)))) .nil))) (.cons (.ret (.cst (.bl false))) .nil) .nil) .nil))))) (.cons (.ret (.cst (.bl true))) .nil))) }
/-- Disk.__init__ -/
def c34 : Fn := { np := 3, ns := 4, keep := false, body := (.cons (.ite (.or (.not (.op (.isin .dict) (.cons (.var 1) .nil))) (.not (.op .all (.cons (.comp false [3] (.nm 3) (.keys 1) .nil (.op (.isin .str) (.cons (.var 3) .nil))) .nil)))) (.cons (.raise 2 (.cons (.cst (.str "no dict of cells")) .nil)) .nil) .nil) (.cons (.ite (.not (.op .all (.cons (.comp false [3] (.nm 3) (.keys 1) .nil (.call 16 (.cons (.op .idx (.cons (.var 1) (.cons (.var 3) .nil))) .nil))) .nil))) (.cons (.raise 2 (.cons (.cst (.str "a cell that holds no content")) .nil)) .nil) .nil) (.cons (.expr (.call 17 (.cons (.var 2) .nil))) (.cons (.asg (.fld 0 (.var 0)) (.op (.dict true) (.cons (.var 1) .nil))) (.cons (.asg (.fld 1 (.var 0)) (.var 2)) .nil))))) }
/-- Disk.read -/
def c35 : Fn := { np := 2, ns := 2, keep := false, body := (.cons (.ite (.not (.op (.isin .str) (.cons (.var 1) .nil))) (.cons (.raise 1 (.cons (.cst (.str "no name of a cell")) .nil)) .nil) .nil) (.cons (.ret (.mth .get (.attr 0 (.var 0)) (.cons (.var 1) .nil))) .nil)) }
/-- Disk.write -/
def c36 : Fn := { np := 3, ns := 3, keep := false, body := (.cons (.ite (.not (.op (.isin .str) (.cons (.var 1) .nil))) (.cons (.raise 1 (.cons (.cst (.str "no name of a cell")) .nil)) .nil) .nil) (.cons (.ite (.not (.call 16 (.cons (.var 2) .nil))) (.cons (.raise 3 (.cons (.cst (.str "no content")) .nil)) .nil) .nil) (.cons (.ite (.op .eq (.cons (.attr 1 (.var 0)) (.cons (.cst (.int 0)) .nil))) (.cons (.raise 9 (.cons (.cst (.str "no more writes")) .nil)) .nil) .nil) (.cons (.asg (.sub (.attr 0 (.var 0)) (.var 1)) (.var 2)) (.cons (.ite (.op .isnot (.cons (.attr 1 (.var 0)) (.cons (.cst .non) .nil))) (.cons (.asg (.fld 1 (.var 0)) (.op .sub (.cons (.attr 1 (.var 0)) (.cons (.cst (.int 1)) .nil)))) .nil) .nil) .nil))))) }
/-- Disk.cells -/
def c37 : Fn := { np := 1, ns := 2, keep := false, body := (.cons (.ret (.dcomp false [1] (.nm 1) (.of (.op (.sorted false) (.cons (.attr 0 (.var 0)) .nil))) (.var 1) (.op .idx (.cons (.attr 0 (.var 0)) (.cons (.var 1) .nil))))) .nil) }
/-- Road.__init__ -/
def c38 : Fn := { np := 2, ns := 2, keep := false, body := (.cons (.expr (.call 2 (.cons (.var 1) .nil))) (.cons (.asg (.fld 2 (.var 0)) (.var 1)) (.cons (.asg (.fld 3 (.var 0)) (.lst true .nil)) .nil))) }
/-- Road.send -/
def c39 : Fn := { np := 2, ns := 2, keep := false, body := (.cons (.expr (.call 13 (.cons (.attr 2 (.var 0)) (.cons (.var 1) .nil)))) (.cons (.expr (.mth .append (.attr 3 (.var 0)) (.cons (.var 1) .nil))) (.cons (.ret (.op .sub (.cons (.op .len (.cons (.attr 3 (.var 0)) .nil)) (.cons (.cst (.int 1)) .nil)))) .nil))) }
/-- Road.count -/
def c40 : Fn := { np := 1, ns := 1, keep := false, body := (.cons (.ret (.op .len (.cons (.attr 3 (.var 0)) .nil))) .nil) }
/-- Road.letter -/
def c41 : Fn := { np := 2, ns := 2, keep := false, body := (.cons (.ite (.or (.not (.call 0 (.cons (.var 1) (.cons (.cst (.int 0)) .nil)))) (.op .ge (.cons (.var 1) (.cons (.op .len (.cons (.attr 3 (.var 0)) .nil)) .nil)))) (.cons (.raise 6 (.cons (.cst (.str "no letter has this number")) .nil)) .nil) .nil) (.cons (.ret (.op .idx (.cons (.attr 3 (.var 0)) (.cons (.var 1) .nil)))) .nil)) }
/-- Road.waiting -/
def c42 : Fn := { np := 2, ns := 4, keep := false, body := (.cons (.ite (.and (.not (.call 7 (.cons (.var 1) (.cons (.cst (.str "hand")) (.cons (.op .idx (.cons (.attr 2 (.var 0)) (.cons (.cst (.int 0)) .nil))) .nil))))) (.not (.call 7 (.cons (.var 1) (.cons (.cst (.str "house")) (.cons (.op .idx (.cons (.attr 2 (.var 0)) (.cons (.cst (.int 1)) .nil))) .nil)))))) (.cons (.raise 8 (.cons (.cst (.str "nobody of the store")) .nil)) .nil) .nil) (.cons (.ret (.comp false [2, 3] (.tp (.cons (.nm 2) (.cons (.nm 3) .nil))) (.enum (.attr 3 (.var 0))) (.cons (.op .eq (.cons (.op .idx (.cons (.var 3) (.cons (.cst (.int 1)) .nil))) (.cons (.var 1) .nil))) .nil) (.var 2))) .nil)) }
def prog : Prog := { fns := [c0, c1, c2, c3, c4, c5, c6, c7, c8, c9, c10, c11, c12, c13, c14, c15, c16, c17, c18, c19, c20, c21, c22, c23, c24, c25, c26, c27, c28, c29, c30, c31, c32, c33, c34, c35, c36, c37, c38, c39, c40, c41, c42], cls := [({ init := 0, meths := [], flds := [], exc := true, up := [0] } : Cl),
  ({ init := 0, meths := [], flds := [], exc := true, up := [1, 0] } : Cl),
  ({ init := 0, meths := [], flds := [], exc := true, up := [2, 0] } : Cl),
  ({ init := 0, meths := [], flds := [], exc := true, up := [3, 0] } : Cl),
  ({ init := 0, meths := [], flds := [], exc := true, up := [4, 0] } : Cl),
  ({ init := 0, meths := [], flds := [], exc := true, up := [5, 0] } : Cl),
  ({ init := 0, meths := [], flds := [], exc := true, up := [6, 0] } : Cl),
  ({ init := 0, meths := [], flds := [], exc := true, up := [7, 0] } : Cl),
  ({ init := 0, meths := [], flds := [], exc := true, up := [8, 0] } : Cl),
  ({ init := 0, meths := [], flds := [], exc := true, up := [9, 0] } : Cl),
  ({ init := 34, meths := [(4, 35), (6, 36), (5, 37)], flds := [0, 1], exc := false, up := [10] } : Cl),
  ({ init := 38, meths := [(8, 39), (7, 40), (9, 41), (10, 42)], flds := [2, 3], exc := false, up := [11] } : Cl)], top := 0 }
end K05
set_option maxRecDepth 100000
namespace K05
open Sa PySem
def tab : Tab := { gl := [(("MOST_NUMBER" : Str), Gk.val (.int 1000000000000000000)), (("is_number" : Str), Gk.fn 0), (("MOST_HANDS" : Str), Gk.val (.int 6)), (("MOST_HOUSES" : Str), Gk.val (.int 13)), (("is_store" : Str), Gk.fn 1), (("BadStore" : Str), Gk.ecls 7), (("has_name_form" : Str), Gk.fn 4), (("is_round" : Str), Gk.fn 8), (("is_row" : Str), Gk.fn 3), (("are_rising" : Str), Gk.fn 5), (("are_names" : Str), Gk.fn 6), (("is_end" : Str), Gk.fn 7), (("is_hand_body" : Str), Gk.fn 9), (("is_house_body" : Str), Gk.fn 10), (("need_store" : Str), Gk.fn 2), (("right_letter" : Str), Gk.fn 11), (("BadLetter" : Str), Gk.ecls 5), (("parts_within" : Str), Gk.fn 14), (("is_plain" : Str), Gk.fn 15), (("BadFuse" : Str), Gk.ecls 4), (("_law_blended" : Str), Gk.fn 19), (("_law_draw" : Str), Gk.fn 20), (("_law_pick" : Str), Gk.fn 21), (("_law_bent" : Str), Gk.fn 25), (("_law_is_whole" : Str), Gk.fn 24), (("_law_k05_is_end" : Str), Gk.fn 28), (("_law_k05_is_name" : Str), Gk.fn 27), (("_law_k05_is_row" : Str), Gk.fn 26), (("_law_mixed" : Str), Gk.fn 22), (("Disk" : Str), Gk.cls 10), (("BadContent" : Str), Gk.ecls 3), (("_law_caught" : Str), Gk.caught), (("BadCell" : Str), Gk.ecls 1), (("Fell" : Str), Gk.ecls 9), (("BadCells" : Str), Gk.ecls 2), (("Road" : Str), Gk.cls 11), (("_law_k05_letter" : Str), Gk.fn 30), (("_law_k05_is_letter" : Str), Gk.fn 29), (("BadNumber" : Str), Gk.ecls 6), (("BadWho" : Str), Gk.ecls 8), (("_law_begun" : Str), Gk.fn 18), (("_law_k05_disk" : Str), Gk.fn 31), (("_law_k05_road" : Str), Gk.fn 32), (("_law_is_truth" : Str), Gk.fn 23), (("is_letter" : Str), Gk.fn 12), (("has_content_form" : Str), Gk.fn 16), (("need_fuse" : Str), Gk.fn 17), (("need_letter" : Str), Gk.fn 13)], ps := [([("value" : Str), ("low" : Str)] : List Str), ([("value" : Str)] : List Str), ([("store" : Str)] : List Str), ([("value" : Str), ("hands" : Str)] : List Str), ([("value" : Str)] : List Str), ([("value" : Str)] : List Str), ([("value" : Str)] : List Str), ([("value" : Str), ("word" : Str), ("many" : Str)] : List Str), ([("body" : Str), ("many" : Str)] : List Str), ([("store" : Str), ("body" : Str)] : List Str), ([("body" : Str)] : List Str), ([("store" : Str), ("value" : Str)] : List Str), ([("store" : Str), ("value" : Str)] : List Str), ([("store" : Str), ("letter" : Str)] : List Str), ([("value" : Str)] : List Str), ([("item" : Str)] : List Str), ([("value" : Str)] : List Str), ([("fuse" : Str)] : List Str), ([("script" : Str)] : List Str), ([("state" : Str)] : List Str), ([("state" : Str), ("size_here" : Str)] : List Str), ([("state" : Str), ("several" : Str)] : List Str), ([("state" : Str), ("several" : Str)] : List Str), ([("found" : Str), ("due" : Str)] : List Str), ([("item" : Str)] : List Str), ([("state" : Str), ("item" : Str)] : List Str), ([("store" : Str), ("value" : Str)] : List Str), ([("value" : Str)] : List Str), ([("value" : Str), ("word" : Str), ("many" : Str)] : List Str), ([("store" : Str), ("value" : Str)] : List Str), ([("state" : Str), ("store" : Str)] : List Str), ([("state" : Str)] : List Str), ([("state" : Str), ("store" : Str)] : List Str), ([("script" : Str)] : List Str), ([("self" : Str), ("cells" : Str), ("fuse" : Str)] : List Str), ([("self" : Str), ("cell" : Str)] : List Str), ([("self" : Str), ("cell" : Str), ("value" : Str)] : List Str), ([("self" : Str)] : List Str), ([("self" : Str), ("store" : Str)] : List Str), ([("self" : Str), ("letter" : Str)] : List Str), ([("self" : Str)] : List Str), ([("self" : Str), ("number" : Str)] : List Str), ([("self" : Str), ("receiver" : Str)] : List Str)], gd := [false, false, false, false, false, false, false, false, false, false, false, false, false, false, false, false, false, false, false, false, false, false, false, false, false, false, false, false, false, false, false, true, true, true, false, false, false, false, false, false, false, false, false], fl := [("held" : Str), ("fuse" : Str), ("store" : Str), ("sent" : Str), ("read" : Str), ("cells" : Str), ("write" : Str), ("count" : Str), ("send" : Str), ("letter" : Str), ("waiting" : Str)] }
def dat : Dat := { T := tab, P := prog, fd := [({ loc := (.glo "is_number"), Nf := [("value" : Str), ("low" : Str)], lam := false } : FD),
    ({ loc := (.glo "is_store"), Nf := [("value" : Str), ("hands" : Str), ("houses" : Str), ("lies" : Str), ("item" : Str)], lam := false } : FD),
    ({ loc := (.glo "need_store"), Nf := [("store" : Str)], lam := false } : FD),
    ({ loc := (.glo "is_row"), Nf := [("value" : Str), ("hands" : Str), ("item" : Str)], lam := false } : FD),
    ({ loc := (.glo "has_name_form"), Nf := [("value" : Str)], lam := false } : FD),
    ({ loc := (.glo "are_rising"), Nf := [("value" : Str), ("one" : Str), ("other" : Str), ("item" : Str)], lam := false } : FD),
    ({ loc := (.glo "are_names"), Nf := [("value" : Str), ("item" : Str)], lam := false } : FD),
    ({ loc := (.glo "is_end"), Nf := [("value" : Str), ("word" : Str), ("many" : Str)], lam := false } : FD),
    ({ loc := (.glo "is_round"), Nf := [("body" : Str), ("many" : Str)], lam := false } : FD),
    ({ loc := (.glo "is_hand_body"), Nf := [("store" : Str), ("body" : Str)], lam := false } : FD),
    ({ loc := (.glo "is_house_body"), Nf := [("body" : Str)], lam := false } : FD),
    ({ loc := (.glo "right_letter"), Nf := [("store" : Str), ("value" : Str), ("sender" : Str), ("receiver" : Str), ("body" : Str)], lam := false } : FD),
    ({ loc := (.glo "is_letter"), Nf := [("store" : Str), ("value" : Str)], lam := false } : FD),
    ({ loc := (.glo "need_letter"), Nf := [("store" : Str), ("letter" : Str)], lam := false } : FD),
    ({ loc := (.glo "parts_within"), Nf := [("value" : Str), ("found" : Str), ("left" : Str), ("item" : Str)], lam := false } : FD),
    ({ loc := (.glo "is_plain"), Nf := [("item" : Str)], lam := false } : FD),
    ({ loc := (.glo "has_content_form"), Nf := [("value" : Str), ("item" : Str)], lam := false } : FD),
    ({ loc := (.glo "need_fuse"), Nf := [("fuse" : Str)], lam := false } : FD),
    ({ loc := (.glo "_law_begun"), Nf := [("script" : Str), ("great" : Str), ("cell" : Str)], lam := false } : FD),
    ({ loc := (.glo "_law_blended"), Nf := [("state" : Str), ("prime" : Str), ("turn" : Str), ("found" : Str), ("blend" : Str), ("cell" : Str)], lam := false } : FD),
    ({ loc := (.glo "_law_draw"), Nf := [("state" : Str), ("size_here" : Str), ("found" : Str)], lam := false } : FD),
    ({ loc := (.glo "_law_pick"), Nf := [("state" : Str), ("several" : Str)], lam := false } : FD),
    ({ loc := (.glo "_law_mixed"), Nf := [("state" : Str), ("several" : Str), ("left" : Str), ("found" : Str)], lam := false } : FD),
    ({ loc := (.glo "_law_is_truth"), Nf := [("found" : Str), ("due" : Str)], lam := false } : FD),
    ({ loc := (.glo "_law_is_whole"), Nf := [("item" : Str)], lam := false } : FD),
    ({ loc := (.glo "_law_bent"), Nf := [("state" : Str), ("item" : Str), ("odd" : Str), ("at" : Str), ("way" : Str)], lam := false } : FD),
    ({ loc := (.glo "_law_k05_is_row"), Nf := [("store" : Str), ("value" : Str), ("one" : Str)], lam := false } : FD),
    ({ loc := (.glo "_law_k05_is_name"), Nf := [("value" : Str)], lam := false } : FD),
    ({ loc := (.glo "_law_k05_is_end"), Nf := [("value" : Str), ("word" : Str), ("many" : Str)], lam := false } : FD),
    ({ loc := (.glo "_law_k05_is_letter"), Nf := [("store" : Str), ("value" : Str), ("sender" : Str), ("receiver" : Str), ("body" : Str), ("one" : Str)], lam := false } : FD),
    ({ loc := (.glo "_law_k05_letter"), Nf := [("state" : Str), ("store" : Str), ("names" : Str), ("about" : Str), ("row" : Str), ("some" : Str), ("hand" : Str), ("house" : Str), ("life" : Str), ("turn" : Str), ("one" : Str), ("at" : Str), ("name" : Str)], lam := false } : FD),
    ({ loc := (.glo "_law_k05_disk"), Nf := [("state" : Str), ("contents" : Str), ("wrong" : Str), ("first" : Str), ("fuse" : Str), ("given" : Str), ("turn" : Str), ("kinds" : Str), ("disk" : Str), ("own" : Str), ("left" : Str), ("error" : Str), ("cell" : Str), ("value" : Str), ("odd" : Str), ("one" : Str)], lam := true } : FD),
    ({ loc := (.glo "_law_k05_road"), Nf := [("state" : Str), ("store" : Str), ("turn" : Str), ("wrong" : Str), ("road" : Str), ("own" : Str), ("letter" : Str), ("bent" : Str), ("number" : Str), ("who" : Str), ("at" : Str), ("one" : Str)], lam := true } : FD),
    ({ loc := (.glo "law"), Nf := [("script" : Str), ("state" : Str), ("lap" : Str), ("store" : Str), ("turn" : Str), ("letter" : Str), ("value" : Str)], lam := true } : FD),
    ({ loc := (.met 10 "__init__"), Nf := [("self" : Str), ("cells" : Str), ("fuse" : Str), ("cell" : Str)], lam := false } : FD),
    ({ loc := (.met 10 "read"), Nf := [("self" : Str), ("cell" : Str)], lam := false } : FD),
    ({ loc := (.met 10 "write"), Nf := [("self" : Str), ("cell" : Str), ("value" : Str)], lam := false } : FD),
    ({ loc := (.met 10 "cells"), Nf := [("self" : Str), ("cell" : Str)], lam := false } : FD),
    ({ loc := (.met 11 "__init__"), Nf := [("self" : Str), ("store" : Str)], lam := false } : FD),
    ({ loc := (.met 11 "send"), Nf := [("self" : Str), ("letter" : Str)], lam := false } : FD),
    ({ loc := (.met 11 "count"), Nf := [("self" : Str)], lam := false } : FD),
    ({ loc := (.met 11 "letter"), Nf := [("self" : Str), ("number" : Str)], lam := false } : FD),
    ({ loc := (.met 11 "waiting"), Nf := [("self" : Str), ("receiver" : Str), ("number" : Str), ("letter" : Str)], lam := false } : FD)], cn := [("SeenError" : Str), ("BadCell" : Str), ("BadCells" : Str), ("BadContent" : Str), ("BadFuse" : Str), ("BadLetter" : Str), ("BadNumber" : Str), ("BadStore" : Str), ("BadWho" : Str), ("Fell" : Str), ("Disk" : Str), ("Road" : Str)], lv := [(("MOST_NUMBER" : Str), (1000000000000000000 : Int))] }
end K05
/-! Tools for the plain law: what runs of the evaluator give. -/
namespace Sa
/-- runs to an end, with this -/
def Ok {α : Type} (r : R α) (Q : α → Sto → Prop) : Prop := match r with
  | .ok a S => Q a S
  | _ => False
theorem Ok.bind {α β : Type} {r : R α} {k : α → Sto → R β} {P : α → Sto → Prop} {Q : β → Sto → Prop} (h : Ok r P) (f : ∀ a S, P a S → Ok (k a S) Q) : Ok (r.bind k) Q := by
  cases r with
  | ok a S => exact f a S h
  | err e S => exact h.elim
  | bad => exact h.elim
theorem Ok.imp {α : Type} {r : R α} {P Q : α → Sto → Prop} (h : Ok r P) (f : ∀ a S, P a S → Q a S) : Ok r Q := by
  cases r with
  | ok a S => exact f a S h
  | err e S => exact h.elim
  | bad => exact h.elim
theorem Ok.ex {α : Type} {r : R α} {Q : α → Sto → Prop} (h : Ok r Q) : ∃ a S, r = .ok a S ∧ Q a S := by
  cases r with
  | ok a S => exact ⟨a, S, rfl, h⟩
  | err e S => exact h.elim
  | bad => exact h.elim
/-- a comprehension's turns that change nothing -/
theorem loopC_pure {ck : Ck} {turn : D → Sto → R (Option D)} {f : D → Option D} {S : Sto} (hk : ck.ok S = true) : ∀ (xs acc : List D), (∀ x ∈ xs, turn x S = .ok (f x) S) → acc.length + xs.length ≤ big → loopC ck turn xs acc S = .ok (acc ++ xs.filterMap f) S
  | [], acc, _, _ => by simp [loopC, hk]
  | x :: r, acc, h, hl => by
    have hx := h x List.mem_cons_self
    have ih := fun acc => loopC_pure (f := f) hk r acc (fun y hy => h y (List.mem_cons_of_mem _ hy))
    simp only [List.length_cons] at hl
    unfold loopC
    rw [hk, hx]
    cases hf : f x with
    | none =>
      simp only [if_true]
      rw [ih acc (by omega)]
      simp [List.filterMap_cons, hf]
    | some v =>
      simp only [if_true]
      rw [if_pos (by omega), ih (acc ++ [v]) (by simp; omega)]
      simp [List.filterMap_cons, hf]
theorem loopC_map {ck : Ck} {turn : D → Sto → R (Option D)} {f : D → D} {S : Sto} (hk : ck.ok S = true) {xs : List D} (h : ∀ x ∈ xs, turn x S = .ok (some (f x)) S) (hl : xs.length ≤ big) : loopC ck turn xs [] S = .ok (xs.map f) S := by
  rw [loopC_pure (f := fun x => some (f x)) hk xs [] h (by simpa using hl)]
  simp
theorem bls_map {α : Type} (p : α → Bool) : ∀ xs : List α, bls (xs.map fun x => D.bl (p x)) = some (xs.map p)
  | [] => rfl
  | x :: r => by simp [bls, bls_map p r]
end Sa
namespace Sa
/-! ### runs that change nothing -/
variable {C : Rt} {env : Env} {S : Sto} {a b c : E} {d e z : D} {x y : Bool} {o p q : Op}
def Pu (C : Rt) (e : E) (env : Env) (S : Sto) (d : D) : Prop := evE C e env S = .ok d S
def Pus (C : Rt) (e : Es) (env : Env) (S : Sto) (ds : List D) : Prop := evEs C e env S = .ok ds S
theorem Pu.cst {d : D} : Pu C (.cst d) env S d := rfl
theorem Pu.var {i : Nat} (h : env[i]? = some (some d)) : Pu C (.var i) env S d := by
  show evE C (.var i) env S = _
  simp only [evE, h]
theorem Pu.and (ha : Pu C a env S (.bl x)) (hb : x = true → Pu C b env S (.bl y)) : Pu C (.and a b) env S (.bl (x && y)) := by
  show evE C (.and a b) env S = _
  simp only [evE]
  rw [show evE C a env S = _ from ha, R.bind_ok]
  cases x with
  | true => exact hb rfl
  | false => rfl
theorem Pu.or (ha : Pu C a env S (.bl x)) (hb : x = false → Pu C b env S (.bl y)) : Pu C (.or a b) env S (.bl (x || y)) := by
  show evE C (.or a b) env S = _
  simp only [evE]
  rw [show evE C a env S = _ from ha, R.bind_ok]
  cases x with
  | true => rfl
  | false => exact hb rfl
theorem Pu.not (ha : Pu C a env S (.bl x)) : Pu C (.not a) env S (.bl (!x)) := by
  show evE C (.not a) env S = _
  simp only [evE]
  rw [show evE C a env S = _ from ha, R.bind_ok]
theorem Pu.ite (hc : Pu C c env S (.bl x)) (ha : x = true → Pu C a env S d) (hb : x = false → Pu C b env S d) : Pu C (.ite c a b) env S d := by
  show evE C (.ite c a b) env S = _
  simp only [evE]
  rw [show evE C c env S = _ from hc, R.bind_ok]
  cases x with
  | true => exact ha rfl
  | false => exact hb rfl
theorem Pu.op1 (ha : Pu C a env S d) (h : opSem C.P o [d] S = .ok z S) : Pu C (.op o (.cons a .nil)) env S z := by
  show evE C (.op o (.cons a .nil)) env S = _
  simp only [evE, evEs]
  rw [show evE C a env S = _ from ha]
  simp only [R.bind_ok, h, R.calm_ok]
theorem Pu.op2 (ha : Pu C a env S d) (hb : Pu C b env S e) (h : opSem C.P o [d, e] S = .ok z S) : Pu C (.op o (.cons a (.cons b .nil))) env S z := by
  show evE C (.op o (.cons a (.cons b .nil))) env S = _
  simp only [evE, evEs]
  rw [show evE C a env S = _ from ha]
  simp only [R.bind_ok]
  rw [show evE C b env S = _ from hb]
  simp only [R.bind_ok, h, R.calm_ok]
theorem Pu.op3 (ha : Pu C a env S d) (hb : Pu C b env S e) {f : D} (hc : Pu C c env S f) (h : opSem C.P o [d, e, f] S = .ok z S) : Pu C (.op o (.cons a (.cons b (.cons c .nil)))) env S z := by
  show evE C (.op o (.cons a (.cons b (.cons c .nil)))) env S = _
  simp only [evE, evEs]
  rw [show evE C a env S = _ from ha]
  simp only [R.bind_ok]
  rw [show evE C b env S = _ from hb]
  simp only [R.bind_ok]
  rw [show evE C c env S = _ from hc]
  simp only [R.bind_ok, h, R.calm_ok]
theorem Pu.chain {f : D} (ha : Pu C a env S d) (hb : Pu C b env S e) (h1 : opSem C.P p [d, e] S = .ok (.bl x) S) (hc : x = true → Pu C c env S f ∧ opSem C.P q [e, f] S = .ok (.bl y) S) : Pu C (.chain p q a b c) env S (.bl (x && y)) := by
  show evE C (.chain p q a b c) env S = _
  simp only [evE]
  rw [show evE C a env S = _ from ha, R.bind_ok, show evE C b env S = _ from hb, R.bind_ok, h1, R.calm_ok, R.bind_ok]
  cases x with
  | true =>
    obtain ⟨h2, h3⟩ := hc rfl
    show (evE C c env S).bind _ = _
    rw [show evE C c env S = _ from h2, R.bind_ok, h3]
    rfl
  | false => rfl
theorem Pus.nil : Pus C .nil env S [] := rfl
theorem Pus.cons {r : Es} {ds : List D} (h : Pu C a env S d) (hr : Pus C r env S ds) : Pus C (.cons a r) env S (d :: ds) := by
  show evEs C (.cons a r) env S = _
  simp only [evEs]
  rw [show evE C a env S = _ from h, R.bind_ok, show evEs C r env S = _ from hr, R.bind_ok]
theorem Pu.tup {es : Es} {ds : List D} (h : Pus C es env S ds) : Pu C (.tup es) env S (.tup ds) := by
  show evE C (.tup es) env S = _
  simp only [evE]
  rw [show evEs C es env S = _ from h, R.bind_ok]
theorem Pu.call {f : Nat} {es : Es} {ds : List D} (h : Pus C es env S ds) (hc : C.call f ds S = .ok z S) : Pu C (.call f es) env S z := by
  show evE C (.call f es) env S = _
  simp only [evE]
  rw [show evEs C es env S = _ from h, R.bind_ok, hc]
end Sa
namespace Sa
variable {C : Rt} {env : Env} {S : Sto} {a b c : E} {d e z : D} {x y : Bool} {o p q : Op}
theorem Pu.compG {e : E} {own : List Nat} {t : Tg} {it : It} {xs : List D} {g : D → Env} {f : D → D} (hi : evIt C it env S = .ok (xs, .no) S) (ht : ∀ x ∈ xs, evTg C t x (wipeE env own) S = .ok (g x) S) (he : ∀ x ∈ xs, Pu C e (g x) S (f x)) (hl : xs.length ≤ big) :
    Pu C (.comp false own t it .nil e) env S (.lst (xs.map f)) := by
  show evE C (.comp false own t it .nil e) env S = _
  simp only [evE]
  rw [hi, R.bind_ok]
  show (loopC .no _ xs [] S).bind _ = _
  rw [loopC_map (f := f) rfl (fun x hx => ?_) hl]
  · show newL false _ _ = _
    unfold newL
    rw [if_pos (by simpa using hl)]
    rfl
  · rw [ht x hx, R.bind_ok]
    simp only [evEs, R.bind_ok]
    rw [show evE C e (g x) S = _ from he x hx, R.bind_ok]
theorem Pu.compT {e : E} {own : List Nat} {t : Tg} {it : It} {xs : List D} {g : D → Env} {f : D → D} {p : D → Bool} (hi : evIt C it env S = .ok (xs, .no) S) (ht : ∀ x ∈ xs, evTg C t x (wipeE env own) S = .ok (g x) S) (hb : ∀ x ∈ xs, Pu C b (g x) S (.bl (p x)))
    (he : ∀ x ∈ xs, p x = true → Pu C e (g x) S (f x)) (hl : xs.length ≤ big) : Pu C (.comp false own t it (.cons b .nil) e) env S (.lst ((xs.filter p).map f)) := by
  show evE C (.comp false own t it (.cons b .nil) e) env S = _
  simp only [evE]
  rw [hi, R.bind_ok]
  show (loopC .no _ xs [] S).bind _ = _
  rw [loopC_pure (f := fun x => if p x then some (f x) else none) rfl xs [] (fun x hx => ?_) (by simpa using hl)]
  · have e1 : xs.filterMap (fun x => if p x = true then some (f x) else none) = (xs.filter p).map f := by
      clear hi ht hb he hl
      induction xs with
      | nil => rfl
      | cons x r ih =>
        simp only [List.filterMap_cons, List.filter_cons]
        cases p x <;> simp [ih]
    rw [List.nil_append, e1]
    show newL false _ _ = _
    unfold newL
    rw [if_pos (by rw [List.length_map]; exact Nat.le_trans (List.length_filter_le _ _) hl)]
    rfl
  · rw [ht x hx, R.bind_ok]
    simp only [evEs, R.bind_ok]
    rw [show evE C b (g x) S = _ from hb x hx, R.bind_ok]
    cases hp : p x with
    | true =>
      show (evE C e (g x) S).bind _ = _
      rw [show evE C e (g x) S = _ from he x hx hp]
      rfl
    | false => rfl
end Sa
namespace Sa
variable {C : Rt} {env env' : Env} {S : Sto} {a b c : E} {d e z : D} {x y : Bool} {o p q : Op} {w : Fl × Env}
def PuS (C : Rt) (s : Sm) (env : Env) (S : Sto) (w : Fl × Env) : Prop := evS C s env S = .ok w S
def PuSs (C : Rt) (s : Sms) (env : Env) (S : Sto) (w : Fl × Env) : Prop := evSs C s env S = .ok w S
theorem PuS.ret (h : Pu C a env S d) : PuS C (.ret a) env S (.rt d, env) := by
  show evS C (.ret a) env S = _
  simp only [evS]
  rw [show evE C a env S = _ from h, R.bind_ok]
theorem PuS.asg {t : Tg} (h : Pu C a env S d) (ht : evTg C t d env S = .ok env' S) : PuS C (.asg t a) env S (.nx, env') := by
  show evS C (.asg t a) env S = _
  simp only [evS]
  rw [show evE C a env S = _ from h, R.bind_ok, ht, R.bind_ok]
theorem PuS.expr (h : Pu C a env S d) : PuS C (.expr a) env S (.nx, env) := by
  show evS C (.expr a) env S = _
  simp only [evS]
  rw [show evE C a env S = _ from h, R.bind_ok]
theorem PuS.ite {s r : Sms} (hc : Pu C c env S (.bl x)) (h1 : x = true → PuSs C s env S w) (h2 : x = false → PuSs C r env S w) : PuS C (.ite c s r) env S w := by
  show evS C (.ite c s r) env S = _
  simp only [evS]
  rw [show evE C c env S = _ from hc, R.bind_ok]
  cases x with
  | true => exact h1 rfl
  | false => exact h2 rfl
theorem PuSs.nil : PuSs C .nil env S (.nx, env) := rfl
theorem PuSs.cons {s : Sm} {r : Sms} (h : PuS C s env S (.nx, env')) (hr : PuSs C r env' S w) : PuSs C (.cons s r) env S w := by
  show evSs C (.cons s r) env S = _
  simp only [evSs]
  rw [show evS C s env S = _ from h, R.bind_ok]
  exact hr
theorem PuSs.stop {s : Sm} {r : Sms} (h : PuS C s env S (.rt d, env')) : PuSs C (.cons s r) env S (.rt d, env') := by
  show evSs C (.cons s r) env S = _
  simp only [evSs]
  rw [show evS C s env S = _ from h, R.bind_ok]
/-- if c: return d -/
theorem PuSs.guard {s r : Sms} (hc : Pu C c env S (.bl x)) (h1 : x = true → PuSs C s env S w ∧ w.1 ≠ .nx) (h2 : x = false → PuSs C r env S w) : PuSs C (.cons (.ite c s .nil) r) env S w := by
  show evSs C (.cons (.ite c s .nil) r) env S = _
  simp only [evSs, evS]
  rw [show evE C c env S = _ from hc, R.bind_ok]
  cases x with
  | true =>
    obtain ⟨q, n⟩ := h1 rfl
    obtain ⟨f, e'⟩ := w
    show (evSs C s env S).bind _ = _
    rw [show evSs C s env S = _ from q, R.bind_ok]
    cases f with
    | nx => exact (n rfl).elim
    | _ => rfl
  | false => exact h2 rfl
end Sa
/-! Rules for runs that may change things: `Ok run Q`. -/
namespace Sa
variable {C : Rt} {env env' : Env} {S S' : Sto} {a b c e : E} {d z : D} {x y : Bool} {o p q : Op} {es r : Es} {t : Tg}
theorem Ok.of {α : Type} {r : R α} {a : α} {S : Sto} {Q : α → Sto → Prop} (h : r = .ok a S) (q : Q a S) : Ok r Q := by rw [h]; exact q
theorem Ok.pu {Q : D → Sto → Prop} (h : Pu C e env S d) (q : Q d S) : Ok (evE C e env S) Q := Ok.of h q
theorem Ok.pus {Q : List D → Sto → Prop} {ds : List D} (h : Pus C es env S ds) (q : Q ds S) : Ok (evEs C es env S) Q := Ok.of h q
theorem Ok.calm {α : Type} {r : R α} {Q : α → Sto → Prop} (h : Ok r Q) : Ok r.calm Q := by
  obtain ⟨a, S, e, q⟩ := h.ex
  rw [e]; exact q
/-! expressions -/
theorem OkEs.nil {Q : List D → Sto → Prop} (h : Q [] S) : Ok (evEs C .nil env S) Q := h
theorem OkEs.cons {Q : List D → Sto → Prop} (h : Ok (evE C e env S) fun d S1 => Ok (evEs C r env S1) fun ds S2 => Q (d :: ds) S2) : Ok (evEs C (.cons e r) env S) Q := by
  simp only [evEs]
  exact h.bind fun d S1 h1 => h1.bind fun ds S2 h2 => h2
theorem OkEs.pcons {Q : List D → Sto → Prop} (hp : Pu C e env S d) (h : Ok (evEs C r env S) fun ds S2 => Q (d :: ds) S2) : Ok (evEs C (.cons e r) env S) Q := OkEs.cons (Ok.pu hp h)
theorem OkE.tup {Q : D → Sto → Prop} (h : Ok (evEs C es env S) fun ds S1 => Q (.tup ds) S1) : Ok (evE C (.tup es) env S) Q := by
  simp only [evE]
  exact h.bind fun _ _ h1 => h1
theorem OkE.lst {al : Bool} {Q : D → Sto → Prop} (h : Ok (evEs C es env S) fun ds S1 => Ok (newL al ds S1) Q) : Ok (evE C (.lst al es) env S) Q := by
  simp only [evE]
  exact h.bind fun _ _ h1 => h1
theorem OkE.dct {al : Bool} {Q : D → Sto → Prop} (h : Ok (evEs C es env S) fun ds S1 => Ok (evD al ds [] S1) Q) : Ok (evE C (.dct al es) env S) Q := by
  simp only [evE]
  exact h.bind fun _ _ h1 => h1
theorem OkE.op {Q : D → Sto → Prop} (h : Ok (evEs C es env S) fun ds S1 => Ok (opSem C.P o ds S1) Q) : Ok (evE C (.op o es) env S) Q := by
  simp only [evE]
  exact h.bind fun _ _ h1 => h1.calm
theorem OkE.mth {Q : D → Sto → Prop} (h : Ok (evE C a env S) fun x S1 => mthOk o S1 x = true ∧ Ok (evEs C es env S1) fun ds S2 => Ok (opSem C.P o (x :: ds) S2) Q) : Ok (evE C (.mth o a es) env S) Q := by
  simp only [evE]
  exact h.bind fun x S1 h1 => by
    rw [if_pos h1.1]
    exact h1.2.bind fun _ _ h2 => h2.calm
theorem OkE.call {f : Nat} {Q : D → Sto → Prop} (h : Ok (evEs C es env S) fun ds S1 => Ok (C.call f ds S1) Q) : Ok (evE C (.call f es) env S) Q := by
  simp only [evE]
  exact h.bind fun _ _ h1 => h1
theorem OkE.callK {f : Nat} {ks : Es} {Q : D → Sto → Prop} (h : Ok (evEs C es env S) fun ds S1 => Ok (evEs C ks env S1) fun fs S2 => Ok (C.call f (ds ++ fs) S2) Q) : Ok (evE C (.callK f es ks) env S) Q := by
  simp only [evE]
  exact h.bind fun _ _ h1 => h1.bind fun _ _ h2 => h2
theorem OkE.new {f : Nat} {cl : Cl} {Q : D → Sto → Prop} (hc : C.P.cls[f]? = some cl) (h : Ok (evEs C es env S) fun ds S1 => Ok (C.call cl.init (.loc S1.length :: ds) (S1 ++ [.ins f []])) fun d S2 => d = .non ∧ Q (.loc S1.length) S2) : Ok (evE C (.new f es) env S) Q := by
  simp only [evE]
  refine h.bind fun ds S1 h1 => ?_
  rw [hc]
  exact h1.bind fun d S2 h2 => by rw [h2.1]; exact h2.2
theorem OkE.newK {f : Nat} {ks : Es} {cl : Cl} {Q : D → Sto → Prop} (hc : C.P.cls[f]? = some cl) (h : Ok (evEs C es env S) fun ds S1 => Ok (evEs C ks env S1) fun fs S2 => Ok (C.call cl.init (.loc S2.length :: (ds ++ fs)) (S2 ++ [.ins f []])) fun d S3 => d = .non ∧ Q (.loc S2.length) S3) : Ok (evE C (.newK f es ks) env S) Q := by
  simp only [evE]
  refine h.bind fun ds S1 h1 => h1.bind fun fs S2 h2 => ?_
  rw [hc]
  exact h2.bind fun d S2 h2 => by rw [h2.1]; exact h2.2
/-- a thing of the store of this class, and its def of this name -/
def MethAt (P : Prog) (S : Sto) (x : D) (m : Nat) (f : Nat) : Prop := ∃ a c fs cl, x = .loc a ∧ S[a]? = some (.ins c fs) ∧ P.cls[c]? = some cl ∧ getN cl.meths m = some f ∧ getF fs m = none
theorem OkE.meth {m : Nat} {Q : D → Sto → Prop} (h : Ok (evE C a env S) fun x S1 => ∃ f, MethAt C.P S1 x m f ∧ Ok (evEs C es env S1) fun ds S2 => Ok (C.call f (x :: ds) S2) Q) : Ok (evE C (.meth m a es) env S) Q := by
  simp only [evE]
  refine h.bind fun x S1 h1 => ?_
  obtain ⟨f, ⟨a, c, fs, cl, e1, e2, e3, e4, e5⟩, h2⟩ := h1
  subst e1
  simp only [e2, e3, e4, e5]
  exact h2.bind fun _ _ h3 => h3
theorem OkE.and {Q : D → Sto → Prop} (h : Ok (evE C a env S) fun d S1 => ∃ x, d = .bl x ∧ (x = true → Ok (evE C b env S1) Q) ∧ (x = false → Q (.bl false) S1)) : Ok (evE C (.and a b) env S) Q := by
  simp only [evE]
  refine h.bind fun d S1 h1 => ?_
  obtain ⟨x, e, h2, h3⟩ := h1
  subst e
  cases x with
  | true => exact h2 rfl
  | false => exact h3 rfl
theorem OkE.or {Q : D → Sto → Prop} (h : Ok (evE C a env S) fun d S1 => ∃ x, d = .bl x ∧ (x = true → Q (.bl true) S1) ∧ (x = false → Ok (evE C b env S1) Q)) : Ok (evE C (.or a b) env S) Q := by
  simp only [evE]
  refine h.bind fun d S1 h1 => ?_
  obtain ⟨x, e, h2, h3⟩ := h1
  subst e
  cases x with
  | true => exact h2 rfl
  | false => exact h3 rfl
theorem OkE.not {Q : D → Sto → Prop} (h : Ok (evE C a env S) fun d S1 => ∃ x, d = .bl x ∧ Q (.bl (!x)) S1) : Ok (evE C (.not a) env S) Q := by
  simp only [evE]
  refine h.bind fun d S1 h1 => ?_
  obtain ⟨x, e, h2⟩ := h1
  subst e
  exact h2
theorem OkE.ite {Q : D → Sto → Prop} (h : Ok (evE C c env S) fun d S1 => ∃ x, d = .bl x ∧ (x = true → Ok (evE C a env S1) Q) ∧ (x = false → Ok (evE C b env S1) Q)) : Ok (evE C (.ite c a b) env S) Q := by
  simp only [evE]
  refine h.bind fun d S1 h1 => ?_
  obtain ⟨x, e, h2, h3⟩ := h1
  subst e
  cases x with
  | true => exact h2 rfl
  | false => exact h3 rfl
theorem OkE.caughtOk {Q : D → Sto → Prop} (h : Ok (evE C e env S) fun _ S1 => Q .non S1) : Ok (evE C (.caught e) env S) Q := by
  obtain ⟨d, S1, e1, q⟩ := h.ex
  simp only [evE]
  rw [e1]; exact q
theorem OkE.caughtErr {k : Nat} {fs : List D} {Q : D → Sto → Prop} (h : evE C e env S = .err (.exc k fs) S') (hs : isSub C.P k C.P.top = true) (q : Q (.exc k fs) S') : Ok (evE C (.caught e) env S) Q := by
  simp only [evE]
  rw [h]
  show Ok (if isSub C.P k C.P.top then _ else _) Q
  rw [if_pos hs]; exact q
/-! comprehensions with an invariant of the store -/
theorem loopC_ok {ck : Ck} {turn : D → Sto → R (Option D)} {I : Sto → List D → List D → Prop} (hk : ∀ S l acc, I S l acc → ck.ok S = true) : ∀ (l acc : List D) (S : Sto), I S l acc → acc.length + l.length ≤ big →
    (∀ x l acc S, I S (x :: l) acc → Ok (turn x S) fun v S' => match v with
      | some v => I S' l (acc ++ [v])
      | none => I S' l acc) → Ok (loopC ck turn l acc S) fun acc' S' => I S' [] acc'
  | [], acc, S, h, _, _ => by
    unfold loopC
    rw [hk _ _ _ h]
    exact h
  | x :: l, acc, S, h, hl, ht => by
    obtain ⟨v, S', e, q⟩ := (ht x l acc S h).ex
    simp only [List.length_cons] at hl
    unfold loopC
    rw [hk _ _ _ h, e]
    cases v with
    | none =>
      simp only [if_true]
      exact loopC_ok hk l acc S' q (by omega) ht
    | some v =>
      simp only [if_true]
      rw [if_pos (by omega)]
      exact loopC_ok hk l (acc ++ [v]) S' q (by simp; omega) ht
theorem OkE.comp {own : List Nat} {it : It} {al : Bool} {cs : Es} {Q : D → Sto → Prop} (I : Sto → List D → List D → Prop) (hi : Ok (evIt C it env S) fun p S' => p.2 = .no ∧ p.1.length ≤ big ∧ I S' p.1 [])
    (ht : ∀ x l acc S1, I S1 (x :: l) acc → Ok (evTg C t x (wipeE env own) S1) fun env' S2 => Ok (evEs C cs env' S2) fun bs S3 => match bs with
      | [] => Ok (evE C e env' S3) fun v S4 => I S4 l (acc ++ [v])
      | [.bl true] => Ok (evE C e env' S3) fun v S4 => I S4 l (acc ++ [v])
      | [.bl false] => I S3 l acc
      | _ => False)
    (hq : ∀ ys S4, I S4 [] ys → ys.length ≤ big → Ok (newL al ys S4) Q) : Ok (evE C (.comp al own t it cs e) env S) Q := by
  simp only [evE]
  refine hi.bind fun p S' hp => ?_
  obtain ⟨xs, ck⟩ := p
  obtain ⟨e0, hl, h0⟩ := hp
  cases e0
  show Ok ((loopC .no _ xs [] S').bind _) Q
  have hl : xs.length ≤ big := hl
  refine Ok.bind (loopC_ok (I := fun S l acc => I S l acc ∧ acc.length + l.length ≤ big) (fun _ _ _ _ => rfl) xs [] S' ⟨h0, by simpa using hl⟩ (by simpa using hl) fun x l acc S1 hx => ?_) fun ys S4 h4 => hq ys S4 h4.1 (by simpa using h4.2)
  obtain ⟨hx, hb⟩ := hx
  simp only [List.length_cons] at hb
  refine (ht x l acc S1 hx).bind fun env' S2 h2 => h2.bind fun bs S3 h3 => ?_
  revert h3
  cases bs with
  | nil => exact fun h3 => h3.bind fun v S4 h4 => ⟨h4, by simp; omega⟩
  | cons b r =>
    cases r with
    | nil =>
      cases b with
      | bl x => cases x with
        | true => exact fun h3 => h3.bind fun v S4 h4 => ⟨h4, by simp; omega⟩
        | false => exact fun h3 => ⟨h3, by omega⟩
      | _ => exact fun h3 => h3.elim
    | cons c r =>
      cases b with
      | bl x => cases x <;> exact fun h3 => h3.elim
      | _ => exact fun h3 => h3.elim
/-- each thing's value, where the source of draws may change -/
theorem OkE.map {own : List Nat} {it : It} {Q : D → Sto → Prop} (I : Sto → List D → List D → Prop) (hi : Ok (evIt C it env S) fun p S' => p.2 = .no ∧ p.1.length ≤ big ∧ I S' p.1 [])
    (ht : ∀ x l acc S1, I S1 (x :: l) acc → Ok (evTg C t x (wipeE env own) S1) fun env' S2 => Ok (evE C e env' S2) fun v S4 => I S4 l (acc ++ [v]))
    (hq : ∀ ys S4, I S4 [] ys → Q (.lst ys) S4) : Ok (evE C (.comp false own t it .nil e) env S) Q :=
  OkE.comp I hi (fun x l acc S1 h => (ht x l acc S1 h).imp fun env' S2 h => h) fun ys S4 h hl => by
    unfold newL
    rw [if_pos hl]
    exact hq ys S4 h
theorem OkI.rng {Q : List D × Ck → Sto → Prop} (h : Ok (evE C e env S) fun d S1 => ∃ n : Int, d = .int n ∧ -(big : Int) ≤ n ∧ n ≤ big ∧ Q (upto 0 n.toNat, .no) S1) : Ok (evIt C (.rng e) env S) Q := by
  simp only [evIt]
  refine h.bind fun d S1 h1 => ?_
  obtain ⟨n, rfl, h2, h3, h4⟩ := h1
  show Ok (if -(big : Int) ≤ n ∧ n ≤ big then _ else _) Q
  rw [if_pos ⟨h2, h3⟩]
  exact h4
theorem OkI.of {Q : List D × Ck → Sto → Prop} (h : Ok (evE C e env S) fun d S1 => ∃ p, spans S1 d = some p ∧ Q p S1) : Ok (evIt C (.of e) env S) Q := by
  simp only [evIt]
  refine h.bind fun d S1 h1 => ?_
  obtain ⟨p, h2, h3⟩ := h1
  rw [h2]
  exact h3
/-! targets -/
theorem OkT.nm {i : Nat} {Q : Env → Sto → Prop} (h : Q (env.set i (some d)) S) : Ok (evTg C (.nm i) d env S) Q := h
/-! statements -/
/-- what follows a statement -/
def Gn (C : Rt) (r : Sms) (Q : Fl × Env → Sto → Prop) (p : Fl × Env) (S : Sto) : Prop := match p.1 with
  | .nx => Ok (evSs C r p.2 S) Q
  | _ => Q p S
theorem OkSs.nil {Q : Fl × Env → Sto → Prop} (h : Q (.nx, env) S) : Ok (evSs C .nil env S) Q := h
theorem OkSs.cons {s : Sm} {r : Sms} {Q : Fl × Env → Sto → Prop} (h : Ok (evS C s env S) (Gn C r Q)) : Ok (evSs C (.cons s r) env S) Q := by
  simp only [evSs]
  refine h.bind fun p S1 h1 => ?_
  obtain ⟨f, env'⟩ := p
  cases f <;> exact h1
theorem OkSs.asg {r : Sms} {Q : Fl × Env → Sto → Prop} (h : Ok (evE C e env S) fun d S1 => Ok (evTg C t d env S1) fun env' S2 => Ok (evSs C r env' S2) Q) : Ok (evSs C (.cons (.asg t e) r) env S) Q := by
  refine OkSs.cons ?_
  simp only [evS]
  exact h.bind fun d S1 h1 => h1.bind fun env' S2 h2 => h2
/-- a value is named -/
theorem OkSs.asgN {i : Nat} {r : Sms} {Q : Fl × Env → Sto → Prop} (h : Ok (evE C e env S) fun d S1 => Ok (evSs C r (env.set i (some d)) S1) Q) : Ok (evSs C (.cons (.asg (.nm i) e) r) env S) Q := OkSs.asg h
theorem OkSs.expr {r : Sms} {Q : Fl × Env → Sto → Prop} (h : Ok (evE C e env S) fun _ S1 => Ok (evSs C r env S1) Q) : Ok (evSs C (.cons (.expr e) r) env S) Q := by
  refine OkSs.cons ?_
  simp only [evS]
  exact h.bind fun d S1 h1 => h1
theorem OkSs.ret {r : Sms} {Q : Fl × Env → Sto → Prop} (h : Ok (evE C e env S) fun d S1 => Q (.rt d, env) S1) : Ok (evSs C (.cons (.ret e) r) env S) Q := by
  refine OkSs.cons ?_
  simp only [evS]
  exact h.bind fun d S1 h1 => h1
theorem OkSs.ite {s1 s2 r : Sms} {Q : Fl × Env → Sto → Prop} (h : Ok (evE C c env S) fun d S1 => ∃ x, d = .bl x ∧ (x = true → Ok (evSs C s1 env S1) (Gn C r Q)) ∧ (x = false → Ok (evSs C s2 env S1) (Gn C r Q))) : Ok (evSs C (.cons (.ite c s1 s2) r) env S) Q := by
  refine OkSs.cons ?_
  simp only [evS]
  refine h.bind fun d S1 h1 => ?_
  obtain ⟨x, e, h2, h3⟩ := h1
  subst e
  cases x with
  | true => exact h2 rfl
  | false => exact h3 rfl
/-- if c: .. with nothing else to do -/
theorem OkSs.when {s1 r : Sms} {Q : Fl × Env → Sto → Prop} (h : Ok (evE C c env S) fun d S1 => ∃ x, d = .bl x ∧ (x = true → Ok (evSs C s1 env S1) (Gn C r Q)) ∧ (x = false → Ok (evSs C r env S1) Q)) : Ok (evSs C (.cons (.ite c s1 .nil) r) env S) Q := OkSs.ite (h.imp fun d S1 ⟨x, e, h1, h2⟩ => ⟨x, e, h1, h2⟩)
/-- a test that says no -/
theorem OkSs.skip {s1 r : Sms} {Q : Fl × Env → Sto → Prop} (h : Ok (evE C c env S) fun d S1 => d = .bl false ∧ Ok (evSs C r env S1) Q) : Ok (evSs C (.cons (.ite c s1 .nil) r) env S) Q := OkSs.when (h.imp fun d S1 ⟨e, h1⟩ => ⟨false, e, nofun, fun _ => h1⟩)
theorem loopF_ok {ck : Ck} {body : D → Env → Sto → R (Fl × Env)} {I : Env → Sto → List D → Prop} {Q : Fl × Env → Sto → Prop} (hk : ∀ env S l, I env S l → ck.ok S = true) (hq : ∀ env S, I env S [] → Q (.nx, env) S) : ∀ (l : List D) (env : Env) (S : Sto), I env S l →
    (∀ x l env S, I env S (x :: l) → Ok (body x env S) fun p S' => match p.1 with
      | .nx => I p.2 S' l
      | .ct => I p.2 S' l
      | .bk => Q (.nx, p.2) S'
      | .rt d => Q (.rt d, p.2) S') → Ok (loopF ck body l env S) Q
  | [], env, S, h, _ => by
    unfold loopF
    rw [hk _ _ _ h]
    exact hq env S h
  | x :: l, env, S, h, ht => by
    unfold loopF
    rw [hk _ _ _ h]
    simp only [if_true]
    refine (ht x l env S h).bind fun p S' h1 => ?_
    obtain ⟨f, env'⟩ := p
    cases f with
    | nx => exact loopF_ok hk hq l env' S' h1 ht
    | ct => exact loopF_ok hk hq l env' S' h1 ht
    | bk => exact h1
    | rt d => exact h1
/-- for over what does not change -/
theorem OkSs.forS {it : It} {s r : Sms} {Q : Fl × Env → Sto → Prop} (I : Env → Sto → List D → Prop) (hi : Ok (evIt C it env S) fun p S1 => p.2 = .no ∧ I env S1 p.1)
    (ht : ∀ x l env S, I env S (x :: l) → Ok (evTg C t x env S) fun env' S' => Ok (evSs C s env' S') fun p S2 => match p.1 with
      | .nx => I p.2 S2 l
      | .ct => I p.2 S2 l
      | .bk => Ok (evSs C r p.2 S2) Q
      | .rt d => Q (.rt d, p.2) S2) (hq : ∀ env S, I env S [] → Ok (evSs C r env S) Q) : Ok (evSs C (.cons (.forS t it s) r) env S) Q := by
  refine OkSs.cons ?_
  simp only [evS]
  refine hi.bind fun p S1 h1 => ?_
  obtain ⟨xs, ck⟩ := p
  obtain ⟨e, h1⟩ := h1
  cases e
  refine Ok.bind (loopF_ok (ck := .no) (Q := Gn C r Q) (I := I) (fun _ _ _ _ => rfl) (fun env S h => hq env S h) xs env S1 h1 fun x l env S h => ?_) fun p S2 h2 => h2
  refine (ht x l env S h).bind fun env' S' h2 => h2.imp fun p S2 h3 => ?_
  obtain ⟨f, env2⟩ := p
  cases f <;> exact h3
theorem loopW_ok {test : Env → Sto → R D} {body : Env → Sto → R (Fl × Env)} {I : Nat → Env → Sto → Prop} {Q : Fl × Env → Sto → Prop} : ∀ (n k : Nat) (env : Env) (S : Sto), I k env S → k < n →
    (∀ k env S, I k env S → Ok (test env S) fun d S1 => ∃ x, d = .bl x ∧ (x = true → Ok (body env S1) fun p S' => match p.1 with
      | .nx => ∃ j, j < k ∧ I j p.2 S'
      | .ct => ∃ j, j < k ∧ I j p.2 S'
      | .bk => Q (.nx, p.2) S'
      | .rt d => Q (.rt d, p.2) S') ∧ (x = false → Q (.nx, env) S1)) → Ok (loopW test body n env S) Q
  | 0, k, _, _, _, hn, _ => by omega
  | n + 1, k, env, S, h, hn, ht => by
    unfold loopW
    refine (ht k env S h).bind fun d S1 h1 => ?_
    obtain ⟨x, e, h2, h3⟩ := h1
    subst e
    cases x with
    | false => exact h3 rfl
    | true =>
      refine (h2 rfl).bind fun p S' h4 => ?_
      obtain ⟨f, env'⟩ := p
      cases f with
      | nx => obtain ⟨j, hj, h5⟩ := h4; exact loopW_ok n j env' S' h5 (by omega) ht
      | ct => obtain ⟨j, hj, h5⟩ := h4; exact loopW_ok n j env' S' h5 (by omega) ht
      | bk => exact h4
      | rt d => exact h4
theorem OkSs.whl {s r : Sms} {Q : Fl × Env → Sto → Prop} (I : Nat → Env → Sto → Prop) (k : Nat) (h : I k env S) (hk : k < C.W)
    (ht : ∀ k env S, I k env S → Ok (evE C c env S) fun d S1 => ∃ x, d = .bl x ∧ (x = true → Ok (evSs C s env S1) fun p S' => match p.1 with
      | .nx => ∃ j, j < k ∧ I j p.2 S'
      | .ct => ∃ j, j < k ∧ I j p.2 S'
      | .bk => Ok (evSs C r p.2 S') Q
      | .rt d => Q (.rt d, p.2) S') ∧ (x = false → Ok (evSs C r env S1) Q)) : Ok (evSs C (.cons (.whl c s) r) env S) Q := by
  refine OkSs.cons ?_
  simp only [evS]
  exact loopW_ok (I := I) C.W k env S h hk fun k env S h => (ht k env S h).imp fun d S1 ⟨x, e, h1, h2⟩ => ⟨x, e, fun hx => (h1 hx).imp fun p S2 h3 => by
    obtain ⟨f, env2⟩ := p
    cases f <;> exact h3, h2⟩
/-! defs -/
/-- the first things are as they were, or speak of the first n alone -/
def Old (n : Nat) : Sto → Sto → Prop
  | [], _ => True
  | a :: r, S' => match S' with
    | [] => False
    | b :: s => (b = a ∨ b.und n = true) ∧ Old n r s
theorem Old.len {n : Nat} : ∀ {S S' : Sto}, Old n S S' → S.length ≤ S'.length
  | [], _, _ => Nat.zero_le _
  | _ :: _, [], h => h.elim
  | _ :: r, _ :: s, h => Nat.succ_le_succ (Old.len h.2)
theorem Old.at_ {n : Nat} : ∀ {S S' : Sto} {i : Nat}, Old n S S' → i < S.length → S'[i]? = S[i]? ∨ ∃ o, S'[i]? = some o ∧ o.und n = true
  | [], _, i, _, hi => absurd hi (Nat.not_lt_zero i)
  | _ :: _, [], _, h, _ => h.elim
  | a :: r, b :: s, 0, h, _ => h.1.elim (fun e => .inl (by rw [e]; rfl)) fun e => .inr ⟨b, rfl, e⟩
  | a :: r, b :: s, i + 1, h, hi => Old.at_ (S := r) (S' := s) (i := i) h.2 (Nat.lt_of_succ_lt_succ hi)
theorem Old.ok {S S' : Sto} (h : Old S.length S S') : oldOk S.length S S' = true := by
  unfold oldOk
  simp only [Bool.and_eq_true, decide_eq_true_eq, List.all_eq_true, List.mem_range, Bool.or_eq_true]
  refine ⟨h.len, fun i hi => ?_⟩
  rcases h.at_ hi with e | ⟨o, e, u⟩
  · exact .inl e
  · refine .inr ?_
    rw [e]; exact u
theorem Old.refl {n : Nat} : ∀ S : Sto, Old n S S
  | [] => trivial
  | _ :: r => ⟨.inl rfl, Old.refl r⟩
/-- what a def hands back -/
def vRt : Fl → D
  | .rt d => d
  | _ => .non
def Hand (S : Sto) (Q : D → Sto → Prop) (p : Fl × Env) (S' : Sto) : Prop := (match p.1 with
  | .bk => False
  | .ct => False
  | _ => True) ∧ Old S.length S S' ∧ ∃ d, frz S.length S' 8 (vRt p.1) = some d ∧ Q d (S'.take S.length)
theorem Ok.callF {P : Prog} {W n f : Nat} {ds : List D} {fn : Fn} {env : Env} {Q : D → Sto → Prop} (h : P.fns[f]? = some fn) (hl : ds.length = fn.np) (hk : fn.keep = false) (hE : ds.map some ++ List.replicate (fn.ns - fn.np) none = env) (hr : Ok (evSs ⟨P, W, callF P W n⟩ fn.body env S) (Hand S Q)) : Ok (callF P W (n + 1) f ds S) Q := by
  subst hE
  show Ok (match P.fns[f]? with
      | some fn => if ds.length = fn.np then fin fn.keep S (evSs ⟨P, W, Sa.callF P W n⟩ fn.body (ds.map some ++ List.replicate (fn.ns - fn.np) none) S) else .bad
      | none => .bad) Q
  rw [h]
  show Ok (if ds.length = fn.np then _ else _) Q
  rw [if_pos hl]
  obtain ⟨p, S', e, h1, h2, d, h3, h4⟩ := hr.ex
  rw [e, hk]
  obtain ⟨fl, env⟩ := p
  unfold fin
  cases fl with
  | bk => exact h1.elim
  | ct => exact h1.elim
  | nx =>
    simp only [Bool.false_eq_true, if_false]
    rw [if_pos h2.ok]
    rw [show frz S.length S' 8 .non = some d from h3]
    exact h4
  | rt v =>
    simp only [Bool.false_eq_true, if_false]
    rw [if_pos h2.ok]
    rw [show frz S.length S' 8 v = some d from h3]
    exact h4
theorem frz_und {n k : Nat} {d : D} (h : d.und n = true) : frz n S k d = some d := by
  cases k <;> simp [frz, h]
end Sa
namespace Sa
/-! the source of draws: things 0 and 1 of the store -/
structure Gs where
  great : List Int
  cells : List Int
  left : Int
  turn : Nat
def mk (s : Gs) (T : Sto) : Sto := .lst (s.great.map .int) :: .dct [(.str "great", .loc 0), (.str "cells", .lst (s.cells.map .int)), (.str "left", .int s.left), (.str "turn", .int s.turn)] false :: T
theorem unds_int (n : Nat) : ∀ xs : List Int, unds n (xs.map .int) = true
  | [] => rfl
  | _ :: r => by show (true && unds n (r.map .int)) = true; rw [unds_int n r]; rfl
theorem mk_len (s : Gs) (T : Sto) : (mk s T).length = T.length + 2 := rfl
theorem Old.mk {s s' : Gs} {T U : Sto} {n : Nat} (hn : 0 < n) (h : Old n T U) : Old n (Sa.mk s T) (Sa.mk s' U) := by
  refine ⟨.inr (unds_int n _), .inr ?_, h⟩
  simp [Ob.und, unds, D.und, unds_int, hn]
/-! operations -/
variable {P : Prog} {S : Sto}
theorem o_mod {i k : Int} (h : 0 < k) : opSem P .mod [.int i, .int k] S = .ok (.int (i % k)) S := by
  show (if 0 < k then _ else _) = _
  rw [if_pos h]
theorem o_fdiv {i k : Int} (h : 0 < k) (h2 : k < 1073741824) : opSem P .fdiv [.int i, .int k] S = .ok (.int (i / k)) S := by
  show (if 0 < k ∧ k < 1073741824 then _ else _) = _
  rw [if_pos ⟨h, h2⟩]
theorem o_mul {i k : Int} (h : (bigI i || bigI k) = true) : opSem P .mul [.int i, .int k] S = .ok (.int (i * k)) S := by
  show (if (bigI i || bigI k) = true then _ else _) = _
  rw [if_pos h]
theorem o_pow {i : Int} {k : Nat} (h : i.natAbs < 2 ^ 64) (h2 : k ≤ 1000000) : opSem P .pow [.int i, .int (k : Int)] S = .ok (.int (i ^ k)) S := by
  show (if 0 ≤ (k : Int) ∧ (k : Int) ≤ 1000000 ∧ i.natAbs < 2 ^ 64 then _ else _) = _
  rw [if_pos ⟨by omega, by omega, h⟩]; rfl
theorem look_some {kvs : List (D × D)} {k v : D} (h : look kvs k = some v) (hk : isKey k = true) {a : Nat} {l : Bool} (ha : S[a]? = some (.dct kvs l)) : opSem P .idx [.loc a, k] S = .ok v S := by
  show (match items S (.loc a) with
    | some xs => atS S xs k
    | none => lookS S (.loc a) k) = _
  have e : items S (.loc a) = none := by simp only [items, ha]
  rw [e]
  show (match pairs S (.loc a) with
    | some kvs => if isKey k then R.lift S (look kvs k) else .bad
    | none => .bad) = _
  have e2 : pairs S (.loc a) = some kvs := by simp only [pairs, ha]
  rw [e2]
  show (if isKey k = true then _ else _) = _
  rw [if_pos hk, h]; rfl
end Sa
namespace Sa
variable {S : Sto}
theorem mapM_some {f : D → Option D} : ∀ {xs : List D}, (∀ x ∈ xs, f x = some x) → xs.mapM f = some xs
  | [], _ => rfl
  | x :: r, h => by
    rw [List.mapM_cons, h x List.mem_cons_self]
    show ((r.mapM f).bind fun ys => some (x :: ys)) = _
    rw [mapM_some fun y hy => h y (List.mem_cons_of_mem _ hy)]; rfl
theorem frz_lst {n k a : Nat} {xs : List D} (ha : S[a]? = some (.lst xs)) (hn : n ≤ a) (hu : ∀ x ∈ xs, x.und n = true) : frz n S (k + 1) (.loc a) = some (.lst xs) := by
  unfold frz
  have e : D.und n (.loc a) = false := by
    show decide (a < n) = false
    rw [decide_eq_false_iff_not]; omega
  rw [e]
  simp only [Bool.false_eq_true, if_false, ha]
  rw [mapM_some fun x hx => frz_und (hu x hx)]; rfl
theorem mk_at {s : Gs} {T : Sto} {o : Ob} {r : Sto} : (mk s (T ++ o :: r))[T.length + 2]? = some o := by
  show (T ++ o :: r)[T.length]? = some o
  simp
theorem mk_at1 {s : Gs} {T : Sto} {o p : Ob} {r : Sto} : (mk s (T ++ o :: p :: r))[T.length + 3]? = some p := by
  show (T ++ o :: p :: r)[T.length + 1]? = some p
  simp
theorem mk_set {s : Gs} {T : Sto} {o p : Ob} {r : Sto} : (mk s (T ++ o :: r)).set (T.length + 2) p = mk s (T ++ p :: r) := by
  show .lst _ :: .dct _ false :: (T ++ o :: r).set T.length p = _
  simp [mk]
theorem mk_set1 {s : Gs} {T : Sto} {o p q : Ob} {r : Sto} : (mk s (T ++ o :: p :: r)).set (T.length + 3) q = mk s (T ++ o :: q :: r) := by
  show .lst _ :: .dct _ false :: (T ++ o :: p :: r).set (T.length + 1) q = _
  simp [mk]
theorem mk_take {s : Gs} {T U : Sto} : (mk s (T ++ U)).take (T.length + 2) = mk s T := by
  show .lst _ :: .dct _ false :: (T ++ U).take T.length = _
  simp [mk]
theorem Old.app {n : Nat} : ∀ {S S' U : Sto}, Old n S S' → Old n S (S' ++ U)
  | [], _, _, _ => trivial
  | _ :: _, [], _, h => h.elim
  | _ :: r, _ :: s, _, h => ⟨h.1, Old.app (S := r) (S' := s) h.2⟩
theorem unds_mem {n : Nat} : ∀ {xs : List D}, unds n xs = true ↔ ∀ x ∈ xs, x.und n = true
  | [] => ⟨fun _ => nofun, fun _ => rfl⟩
  | x :: r => by
    show (x.und n && unds n r) = true ↔ _
    rw [Bool.and_eq_true, unds_mem]; simp
theorem o_ne_nil {P : Prog} {a : Nat} {xs : List D} (h : S[a]? = some (.lst xs)) : opSem P .ne [.loc a, .lst []] S = .ok (.bl (!xs.isEmpty)) S := by
  show bl S ((eqq S (.loc a) (.lst [])).map (!·)) = _
  have e1 : top S (.loc a) = .lst xs := by simp only [top, h]
  have e2 : eqq S (.loc a) (.lst []) = some xs.isEmpty := by
    unfold eqq
    rw [e1]
    cases xs <;> rfl
  rw [e2]; rfl
theorem ix_ok {n : Nat} {i : Int} (h : 0 ≤ i) (h2 : i < n) : ix n i = some i.toNat := by
  unfold ix
  rw [if_pos h, if_pos h2]
theorem o_popAt {P : Prog} {a : Nat} {xs : List D} {i : Int} {x : D} (ha : S[a]? = some (.lst xs)) (h : 0 ≤ i) (hx : xs[i.toNat]? = some x) : opSem P .popAt [.loc a, .int i] S = .ok x (S.set a (.lst (xs.eraseIdx i.toNat))) := by
  show withL S (.loc a) (popAtS S (.int i)) = _
  unfold withL
  simp only [ha]
  unfold popAtS int1
  have hl := (List.getElem?_eq_some_iff.mp hx).1
  simp only [ix_ok h (show i < (xs.length : Int) by omega), hx]
theorem o_append {P : Prog} {a : Nat} {xs : List D} {x : D} (ha : S[a]? = some (.lst xs)) (h : xs.length < big) : opSem P .append [.loc a, x] S = .ok .non (S.set a (.lst (xs ++ [x]))) := by
  show withL S (.loc a) (appS S x) = _
  unfold withL
  simp only [ha]
  unfold appS
  rw [if_pos h]
theorem o_idx {P : Prog} {xs : List D} {i : Int} {x : D} (h : 0 ≤ i) (hx : xs[i.toNat]? = some x) : opSem P .idx [.lst xs, .int i] S = .ok x S := by
  show R.lift S ((ix xs.length i).bind fun j => xs[j]?) = _
  have hl := (List.getElem?_eq_some_iff.mp hx).1
  rw [ix_ok h (by omega), Option.bind_some, hx]; rfl
theorem o_idxT {P : Prog} {xs : List D} {i : Int} {x : D} (h : 0 ≤ i) (hx : xs[i.toNat]? = some x) : opSem P .idx [.tup xs, .int i] S = .ok x S := by
  show R.lift S ((ix xs.length i).bind fun j => xs[j]?) = _
  have hl := (List.getElem?_eq_some_iff.mp hx).1
  rw [ix_ok h (by omega), Option.bind_some, hx]; rfl
theorem erase_perm {α : Type} : ∀ {l : List α} {i : Nat} (h : i < l.length), (l[i] :: l.eraseIdx i).Perm l
  | a :: r, 0, _ => List.Perm.refl _
  | a :: r, i + 1, h => by
    have h' : i < r.length := Nat.lt_of_succ_lt_succ h
    show (r[i] :: a :: r.eraseIdx i).Perm (a :: r)
    exact (List.Perm.swap _ _ _).trans (List.Perm.cons a (erase_perm h'))
theorem cut_take {xs : List D} {i : Int} (h : 0 ≤ i) : cut xs none (some i) = xs.take i.toNat := by
  unfold cut cutAt
  simp only [List.drop_zero, Nat.sub_zero]
  rw [if_neg (by omega), ← List.take_take, List.take_length]
theorem cut_drop {xs : List D} {i : Int} (h : 0 ≤ i) : cut xs (some i) none = xs.drop i.toNat := by
  unfold cut cutAt
  simp only []
  rw [if_neg (by omega)]
  by_cases hl : i.toNat ≤ xs.length
  · rw [Nat.min_eq_left hl, ← List.length_drop, List.take_length]
  · rw [Nat.min_eq_right (by omega), List.drop_eq_nil_of_le (Nat.le_refl _), List.drop_eq_nil_of_le (by omega)]; simp
theorem cut_mid {xs : List D} {i j : Int} (h : 0 ≤ i) (hj : i ≤ j) : cut xs (some i) (some j) = (xs.drop i.toNat).take (j.toNat - i.toNat) := by
  unfold cut cutAt
  simp only []
  rw [if_neg (by omega), if_neg (by omega)]
  by_cases hl : i.toNat ≤ xs.length
  · rw [Nat.min_eq_left hl]
    by_cases h2 : j.toNat ≤ xs.length
    · rw [Nat.min_eq_left h2]
    · rw [Nat.min_eq_right (by omega), List.take_of_length_le (by simp), List.take_of_length_le (by simp; omega)]
  · rw [show min i.toNat xs.length = xs.length by omega, List.drop_eq_nil_of_le (Nat.le_refl _), List.drop_eq_nil_of_le (show xs.length ≤ i.toNat by omega)]; simp
theorem o_upto {P : Prog} {xs : List D} {i : Int} (h : 0 ≤ i) : opSem P (.slc false true) [.tup xs, .int i] S = .ok (.tup (xs.take i.toNat)) S := by rw [← cut_take h]; rfl
theorem o_from {P : Prog} {xs : List D} {i : Int} (h : 0 ≤ i) : opSem P (.slc true false) [.tup xs, .int i] S = .ok (.tup (xs.drop i.toNat)) S := by rw [← cut_drop h]; rfl
theorem o_mid {P : Prog} {xs : List D} {i j : Int} (h : 0 ≤ i) (hj : i ≤ j) : opSem P (.slc true true) [.tup xs, .int i, .int j] S = .ok (.tup ((xs.drop i.toNat).take (j.toNat - i.toNat))) S := by rw [← cut_mid h hj]; rfl
theorem o_addT {P : Prog} {xs ys : List D} (h : xs.length + ys.length ≤ big) : opSem P .add [.tup xs, .tup ys] S = .ok (.tup (xs ++ ys)) S := by
  show (if xs.length + ys.length ≤ big then _ else _) = _
  rw [if_pos h]
theorem o_eq_unit {P : Prog} {xs : List D} : opSem P .eq [.tup xs, .tup []] S = .ok (.bl xs.isEmpty) S := by cases xs <;> rfl
theorem o_eq_int {P : Prog} {i j : Int} : opSem P .eq [.int i, .int j] S = .ok (.bl (decide (i = j))) S := rfl
theorem o_ne_int {P : Prog} {i j : Int} : opSem P .ne [.int i, .int j] S = .ok (.bl (!decide (i = j))) S := rfl
/-! plain values: no place; tuples and lists not too long, ints not too great -/
mutual
def Gd (m : Nat) (b : Int) : D → Bool
  | .tup xs => decide (xs.length ≤ m) && Gds m b xs
  | .lst xs => decide (xs.length ≤ m) && Gds m b xs
  | .dct ks vs => Gds m b ks && Gds m b vs
  | .non => true
  | .bl _ => true
  | .int i => decide (-b ≤ i ∧ i ≤ b)
  | .str x => (D.str x).sh && ((D.str (PySem.reprText x)).sh && decide ((PySem.reprText x).length ≤ 100))
  | _ => false
def Gds (m : Nat) (b : Int) : List D → Bool
  | [] => true
  | x :: r => Gd m b x && Gds m b r
end
theorem gds_mem {m : Nat} {b : Int} : ∀ {xs : List D}, Gds m b xs = true ↔ ∀ x ∈ xs, Gd m b x = true
  | [] => ⟨fun _ => nofun, fun _ => rfl⟩
  | x :: r => by
    show (Gd m b x && Gds m b r) = true ↔ _
    rw [Bool.and_eq_true, gds_mem]; simp
theorem gd_tup {m : Nat} {b : Int} {xs : List D} : Gd m b (.tup xs) = true ↔ xs.length ≤ m ∧ ∀ x ∈ xs, Gd m b x = true := by
  show (decide (xs.length ≤ m) && Gds m b xs) = true ↔ _
  rw [Bool.and_eq_true, decide_eq_true_eq, gds_mem]
theorem gd_lst {m : Nat} {b : Int} {xs : List D} : Gd m b (.lst xs) = true ↔ xs.length ≤ m ∧ ∀ x ∈ xs, Gd m b x = true := by
  show (decide (xs.length ≤ m) && Gds m b xs) = true ↔ _
  rw [Bool.and_eq_true, decide_eq_true_eq, gds_mem]
theorem gd_int {m : Nat} {b i : Int} : Gd m b (.int i) = true ↔ -b ≤ i ∧ i ≤ b := by
  show decide (-b ≤ i ∧ i ≤ b) = true ↔ _
  rw [decide_eq_true_eq]
mutual
theorem Gd.mono {m m' : Nat} {b b' : Int} (hm : m ≤ m') (hb : b ≤ b') : ∀ {v : D}, Gd m b v = true → Gd m' b' v = true
  | .tup xs, h => by
    have h' : (decide (xs.length ≤ m) && Gds m b xs) = true := h
    rw [Bool.and_eq_true, decide_eq_true_eq] at h'
    show (decide (xs.length ≤ m') && Gds m' b' xs) = true
    rw [Bool.and_eq_true, decide_eq_true_eq]
    exact ⟨Nat.le_trans h'.1 hm, Gds.mono hm hb h'.2⟩
  | .lst xs, h => by
    have h' : (decide (xs.length ≤ m) && Gds m b xs) = true := h
    rw [Bool.and_eq_true, decide_eq_true_eq] at h'
    show (decide (xs.length ≤ m') && Gds m' b' xs) = true
    rw [Bool.and_eq_true, decide_eq_true_eq]
    exact ⟨Nat.le_trans h'.1 hm, Gds.mono hm hb h'.2⟩
  | .dct ks vs, h => by
    have h' : (Gds m b ks && Gds m b vs) = true := h
    rw [Bool.and_eq_true] at h'
    show (Gds m' b' ks && Gds m' b' vs) = true
    rw [Bool.and_eq_true]
    exact ⟨Gds.mono hm hb h'.1, Gds.mono hm hb h'.2⟩
  | .non, _ => rfl
  | .bl _, _ => rfl
  | .int i, h => by
    rw [gd_int] at h ⊢
    omega
  | .str _, h => h
  | .ro _, h => nomatch h
  | .loc _, h => nomatch h
  | .fn _, h => nomatch h
  | .cls _, h => nomatch h
  | .exc _ _, h => nomatch h
theorem Gds.mono {m m' : Nat} {b b' : Int} (hm : m ≤ m') (hb : b ≤ b') : ∀ {xs : List D}, Gds m b xs = true → Gds m' b' xs = true
  | [], _ => rfl
  | x :: r, h => by
    have h' : (Gd m b x && Gds m b r) = true := h
    rw [Bool.and_eq_true] at h'
    show (Gd m' b' x && Gds m' b' r) = true
    rw [Bool.and_eq_true]
    exact ⟨Gd.mono hm hb h'.1, Gds.mono hm hb h'.2⟩
end
mutual
theorem Gd.und {m n : Nat} {b : Int} : ∀ {v : D}, Gd m b v = true → v.und n = true
  | .tup xs, h => by
    have h' : (decide (xs.length ≤ m) && Gds m b xs) = true := h
    rw [Bool.and_eq_true] at h'
    exact Gds.und (xs := xs) h'.2
  | .lst xs, h => by
    have h' : (decide (xs.length ≤ m) && Gds m b xs) = true := h
    rw [Bool.and_eq_true] at h'
    exact Gds.und (xs := xs) h'.2
  | .dct ks vs, h => by
    have h' : (Gds m b ks && Gds m b vs) = true := h
    rw [Bool.and_eq_true] at h'
    show (unds n ks && unds n vs) = true
    rw [Gds.und h'.1, Gds.und h'.2]; rfl
  | .non, _ => rfl
  | .bl _, _ => rfl
  | .int _, _ => rfl
  | .str _, _ => rfl
  | .ro _, h => nomatch h
  | .loc _, h => nomatch h
  | .fn _, h => nomatch h
  | .cls _, h => nomatch h
  | .exc _ _, h => nomatch h
theorem Gds.und {m n : Nat} {b : Int} : ∀ {xs : List D}, Gds m b xs = true → unds n xs = true
  | [], _ => rfl
  | x :: r, h => by
    have h' : (Gd m b x && Gds m b r) = true := h
    rw [Bool.and_eq_true] at h'
    show (x.und n && unds n r) = true
    rw [Gd.und h'.1, Gds.und h'.2]; rfl
end
def isTup : D → Bool
  | .tup _ => true
  | _ => false
def isStr : D → Bool
  | .str _ => true
  | _ => false
def isInt : D → Bool
  | .int _ => true
  | .bl _ => true
  | _ => false
def isBl : D → Bool
  | .bl _ => true
  | _ => false
def isWhole (v : D) : Bool := isInt v && !isBl v
theorem g_tup {m : Nat} {b : Int} {P : Prog} {v : D} (h : Gd m b v = true) : opSem P (.isin .tuple) [v] S = .ok (.bl (isTup v)) S := by
  cases v <;> first
    | rfl
    | cases h
theorem g_int {m : Nat} {b : Int} {P : Prog} {v : D} (h : Gd m b v = true) : opSem P (.isin .int) [v] S = .ok (.bl (isInt v)) S := by
  cases v <;> first
    | rfl
    | cases h
theorem g_str {m : Nat} {b : Int} {P : Prog} {v : D} (h : Gd m b v = true) : opSem P (.isin .str) [v] S = .ok (.bl (isStr v)) S := by
  cases v <;> first
    | rfl
    | cases h
theorem g_bl {m : Nat} {b : Int} {P : Prog} {v : D} (h : Gd m b v = true) : opSem P (.isin .bool) [v] S = .ok (.bl (isBl v)) S := by
  cases v <;> first
    | rfl
    | cases h
theorem dps_mem {n : Nat} : ∀ {xs : List D} {x : D}, dps xs ≤ n → x ∈ xs → x.dp ≤ n
  | y :: r, x, h, hx => by
    have h : max y.dp (dps r) ≤ n := h
    rcases List.mem_cons.mp hx with e | e
    · rw [e]; omega
    · exact dps_mem (xs := r) (by omega) e
end Sa
set_option maxRecDepth 100000
namespace K05
open Sa
variable {W n : Nat} {k : Int} {s : Gs} {T : Sto}
def tmax : Nat := 100000000000000
/-- the rest of _law_blended, behind a prime's cells -/
theorem blended (hs : s.turn ≤ tmax) : Ok (callF prog W (n + 1) 19 [.loc 1] (mk s T)) fun d S' => ∃ i s', d = .int i ∧ S' = mk s' T ∧ s'.turn ≤ s.turn + 1 := by
  refine Ok.callF (fn := c19) rfl rfl rfl rfl ?_
  refine OkSs.asg (Ok.of (a := .tup [.int (s.turn + 1), .int 0]) (S := mk s T) (by kernel_rfl) ?_)
  refine Ok.of (a := [some (.loc 1), none, some (.int (s.turn + 1)), some (.int 0), none, none]) (S := mk s T) (by kernel_rfl) ?_
  refine OkSs.asg (Ok.of (a := .int (s.turn + 1)) (S := mk s T) (by kernel_rfl) ?_)
  refine Ok.of (a := [some (.loc 1), none, some (.int (s.turn + 1)), some (.int 0), none, none]) (S := mk {s with turn := s.turn + 1} T) (by kernel_rfl) ?_
  refine OkSs.forS (fun env S l => ∃ (f : Int) (a b c : Option D), env = [some (.loc 1), a, some (.int (s.turn + 1)), some (.int f), b, c] ∧ S = mk {s with turn := s.turn + 1} T ∧ ∀ x ∈ l, x = .int 2147483477 ∨ x = .int 2147483423 ∨ x = .int 2147483399) (Ok.of (a := ([.int 2147483477, .int 2147483423, .int 2147483399], .no)) (S := mk {s with turn := s.turn + 1} T) (by kernel_rfl) ⟨rfl, 0, none, none, none, rfl, rfl, by simp⟩) (fun x l env S h => ?_) fun env S h => ?_
  · obtain ⟨f, a, b, c, rfl, rfl, h⟩ := h
    obtain ⟨p, rfl, p1, p2⟩ : ∃ p : Int, x = .int p ∧ 0 < p ∧ p < 2147483648 := by
      rcases h x List.mem_cons_self with e | e | e <;> exact ⟨_, e, by decide, by decide⟩
    have hl : ∀ x ∈ l, x = .int 2147483477 ∨ x = .int 2147483423 ∨ x = .int 2147483399 := fun x hx => h x (List.mem_cons_of_mem _ hx)
    refine OkT.nm ?_
    refine OkSs.asgN (Ok.of (a := .int (40014 * (s.turn + 1) + p / 67)) (S := mk {s with turn := s.turn + 1} T) (by kernel_rfl) ?_)
    refine OkSs.forS (fun env S l => ∃ (g : Int) (c : Option D), env = [some (.loc 1), some (.int p), some (.int (s.turn + 1)), some (.int f), some (.int g), c] ∧ S = mk {s with turn := s.turn + 1} T ∧ g.natAbs < 2 ^ 64 ∧ ∃ cs : List Int, l = cs.map .int) (Ok.of (a := (s.cells.map .int, .no)) (S := mk {s with turn := s.turn + 1} T) (by kernel_rfl) ⟨rfl, _, c, rfl, rfl, ?_, _, rfl⟩) (fun x l env S h => ?_) fun env S h => ?_
    · unfold tmax at hs
      have : p / 67 ≤ p := Int.ediv_le_self _ (by omega)
      have : 0 ≤ p / 67 := Int.ediv_nonneg (by omega) (by omega)
      omega
    · obtain ⟨g, c, rfl, rfl, hg, cs, e⟩ := h
      cases cs with
      | nil => cases e
      | cons y cs =>
        cases e
        refine OkT.nm ?_
        refine OkSs.asgN (Ok.pu (d := .int ((g * 69621 + y + (s.turn + 1)) % p)) (Pu.op2 (Pu.op1 (Pu.op2 (Pu.op2 (Pu.op2 (Pu.var rfl) Pu.cst (o_mul (by rw [show bigI 69621 = true from rfl, Bool.or_true]))) (Pu.var rfl) rfl) (Pu.var rfl) rfl) rfl) (Pu.var rfl) (o_mod p1)) ?_)
        refine OkSs.nil ⟨_, _, rfl, rfl, ?_, cs, rfl⟩
        have := Int.emod_nonneg (g * 69621 + y + (s.turn + 1)) (show p ≠ 0 by omega)
        have := Int.emod_lt_of_pos (g * 69621 + y + (s.turn + 1)) p1
        omega
    · obtain ⟨g, c, rfl, rfl, hg, _, _⟩ := h
      refine OkSs.asgN (Ok.pu (d := .int (f * 2147483647 + g ^ 5 % p)) (Pu.op2 (Pu.op2 (Pu.var rfl) Pu.cst (o_mul (by rw [show bigI 2147483647 = true from rfl, Bool.or_true]))) (Pu.op2 (Pu.op1 (Pu.op2 (Pu.var rfl) Pu.cst (o_pow (k := 5) hg (by decide))) rfl) (Pu.var rfl) (o_mod p1)) rfl) ?_)
      exact OkSs.nil ⟨_, _, _, _, rfl, rfl, hl⟩
  · obtain ⟨f, a, b, c, rfl, rfl, h⟩ := h
    refine OkSs.ret (Ok.pu (Pu.var rfl) ?_)
    exact ⟨trivial, Old.mk (Nat.succ_pos _) (Old.refl T), _, frz_und rfl, f, {s with turn := s.turn + 1}, rfl, by simp [mk], Nat.le_refl _⟩
theorem draw (hk : 0 < k) (hk2 : k < 1073741824) (hs : s.turn ≤ tmax) : Ok (callF prog W (n + 2) 20 [.loc 1, .int k] (mk s T)) fun d S' => ∃ i s', d = .int i ∧ 0 ≤ i ∧ i < k ∧ S' = mk s' T ∧ s'.turn ≤ s.turn + 1 := by
  refine Ok.callF (fn := c20) rfl rfl rfl rfl ?_
  have key : ∀ (s' : Gs), s'.turn ≤ s.turn + 1 → Ok (evSs ⟨prog, W, callF prog W (n + 1)⟩ (match c20.body with | .cons _ r => r | r => r) [some (.loc 1), some (.int k), none] (mk s' T)) (Hand (mk s T) fun d S' => ∃ i s', d = .int i ∧ 0 ≤ i ∧ i < k ∧ S' = mk s' T ∧ s'.turn ≤ s.turn + 1) := fun s' h => by
    refine OkSs.asgN (Ok.pu (d := .int (s'.left % k)) (Pu.op2 (Pu.op1 (show Pu _ _ _ _ (.int s'.left) by unfold Pu; kernel_rfl) rfl) (Pu.var rfl) (o_mod hk)) ?_)
    refine OkSs.asg (Ok.pu (d := .int (s'.left / k)) (Pu.op2 (show Pu _ _ _ _ (.int s'.left) by unfold Pu; kernel_rfl) (Pu.var rfl) (o_fdiv hk hk2)) ?_)
    refine Ok.of (a := [some (.loc 1), some (.int k), some (.int (s'.left % k))]) (S := mk {s' with left := s'.left / k} T) (by kernel_rfl) ?_
    refine OkSs.ret (Ok.pu (Pu.var rfl) ?_)
    exact ⟨trivial, Old.mk (Nat.succ_pos _) (Old.refl T), _, frz_und rfl, _, {s' with left := s'.left / k}, rfl, Int.emod_nonneg _ (by omega), Int.emod_lt_of_pos _ hk, by simp [mk], h⟩
  refine OkSs.when (Ok.of (a := .bl (decide (s.left = 0))) (S := mk s T) (by kernel_rfl) ⟨_, rfl, fun _ => ?_, fun _ => key s (by omega)⟩)
  refine OkSs.asg (OkE.ite ?_)
  cases hg : s.great with
  | nil =>
    refine Ok.of (a := .bl false) (S := mk s T) ?_ ⟨_, rfl, nofun, fun _ => ?_⟩
    · obtain ⟨gr, ce, le, tu⟩ := s
      cases hg
      kernel_rfl
    · refine OkE.call (OkEs.pcons (Pu.var rfl) (OkEs.nil ?_))
      refine (blended hs).imp fun d S' h => ?_
      obtain ⟨i, s', rfl, rfl, h⟩ := h
      refine Ok.of (a := [some (.loc 1), some (.int k), none]) (S := mk {s' with left := i} T) (by kernel_rfl) ?_
      exact OkSs.nil (key _ h)
  | cons g gs =>
    obtain ⟨gr, ce, le, tu⟩ := s
    cases hg
    refine Ok.of (a := .bl true) (S := mk ⟨g :: gs, ce, le, tu⟩ T) ?_ ⟨_, rfl, fun _ => ?_, nofun⟩
    · have e : ∀ {P : Prog} {S : Sto} {a : Nat} {x : D} {xs : List D}, S[a]? = some (.lst (x :: xs)) → opSem P .ne [.loc a, .lst []] S = .ok (.bl true) S := fun {P S a x xs} h => by
        show bl S ((eqq S (.loc a) (.lst [])).map (!·)) = _
        have e1 : top S (.loc a) = .lst (x :: xs) := by simp only [top, h]
        have e2 : eqq S (.loc a) (.lst []) = some false := by
          unfold eqq
          rw [e1]; rfl
        rw [e2]; rfl
      refine Pu.op2 (d := .loc 0) (e := .lst []) (by unfold Pu; kernel_rfl) (by unfold Pu; kernel_rfl) (e rfl)
    · refine OkE.mth (Ok.of (a := .loc 0) (S := mk ⟨g :: gs, ce, le, tu⟩ T) (by kernel_rfl) ⟨rfl, OkEs.pcons Pu.cst (OkEs.nil ?_)⟩)
      refine Ok.of (a := .int g) (S := mk ⟨gs, ce, le, tu⟩ T) (o_popAt (a := 0) (xs := .int g :: gs.map .int) rfl (by decide) rfl) ?_
      refine Ok.of (a := [some (.loc 1), some (.int k), none]) (S := mk ⟨gs, ce, g, tu⟩ T) (by kernel_rfl) ?_
      exact OkSs.nil (key _ (by simp))
theorem pick {xs : List D} (h : xs ≠ []) (hb : xs.length < 1073741824) (hu : ∀ x ∈ xs, x.und (T.length + 2) = true) (hs : s.turn ≤ tmax) : Ok (callF prog W (n + 3) 21 [.loc 1, .lst xs] (mk s T)) fun d S' => ∃ s', d ∈ xs ∧ S' = mk s' T ∧ s'.turn ≤ s.turn + 1 := by
  refine Ok.callF (fn := c21) rfl rfl rfl rfl ?_
  refine OkSs.ret (OkE.op (OkEs.pcons (Pu.var rfl) (OkEs.cons (OkE.call (OkEs.pcons (Pu.var rfl) (OkEs.pcons (Pu.op1 (z := .int xs.length) (Pu.var rfl) rfl) (OkEs.nil ?_)))))))
  have hp : 0 < xs.length := List.length_pos_iff.mpr h
  refine (draw (by omega) (by omega) hs).imp fun d S' q => ?_
  obtain ⟨i, s', rfl, h0, h1, rfl, ht⟩ := q
  have hi : i.toNat < xs.length := by omega
  have hx : xs[i.toNat]? = some xs[i.toNat] := List.getElem?_eq_getElem hi
  refine OkEs.nil (Ok.of (o_idx h0 hx) ⟨trivial, Old.mk (Nat.succ_pos _) (Old.refl T), _, frz_und (hu _ (List.getElem_mem hi)), s', List.getElem_mem hi, ?_, ht⟩)
  simp [mk]
theorem mixed {xs : List D} (hb : xs.length ≤ 1000) (hW : 1000 < W) (hu : ∀ x ∈ xs, x.und (T.length + 2) = true) (hs : s.turn + xs.length ≤ tmax) : Ok (callF prog W (n + 3) 22 [.loc 1, .lst xs] (mk s T)) fun d S' => ∃ ys s', d = .lst ys ∧ ys.Perm xs ∧ S' = mk s' T ∧ s'.turn ≤ s.turn + xs.length := by
  refine Ok.callF (fn := c22) rfl rfl rfl rfl ?_
  refine OkSs.asg (OkE.tup (OkEs.cons (OkE.op (OkEs.pcons (Pu.var rfl) (OkEs.nil (Ok.of (a := .loc (T.length + 2)) (S := mk s (T ++ [.lst xs])) ?_ ?_))))))
  · show newL true xs (mk s T) = _
    unfold newL
    rw [if_pos (Nat.le_trans hb (by decide))]; rfl
  refine OkEs.cons (OkE.lst (OkEs.nil (Ok.of (a := .loc (T.length + 3)) (S := mk s (T ++ [.lst xs, .lst []])) ?_ ?_)))
  · show Sa.R.ok (D.loc ((T ++ [Ob.lst xs]).length + 2)) (mk s ((T ++ [.lst xs]) ++ [.lst []])) = _
    simp
  refine OkEs.nil (Ok.of (a := [some (.loc 1), some (.lst xs), some (.loc (T.length + 2)), some (.loc (T.length + 3))]) (S := mk s (T ++ [.lst xs, .lst []])) (by kernel_rfl) ?_)
  refine OkSs.whl (fun k env S => env = [some (.loc 1), some (.lst xs), some (.loc (T.length + 2)), some (.loc (T.length + 3))] ∧ ∃ l f s', S = mk s' (T ++ [.lst l, .lst f]) ∧ l.length = k ∧ (l ++ f).Perm xs ∧ s'.turn + k ≤ s.turn + xs.length) xs.length ⟨rfl, xs, [], s, rfl, rfl, by simp, Nat.le_refl _⟩ (by show xs.length < W; omega) fun k env S h => ?_
  obtain ⟨rfl, l, f, s', rfl, hl, hp, ht⟩ := h
  have hlen := hp.length_eq
  simp only [List.length_append] at hlen
  refine Ok.pu (d := .bl (!l.isEmpty)) (Pu.op2 (Pu.var rfl) (d := .loc (T.length + 2)) (e := .lst []) rfl (o_ne_nil mk_at)) ⟨_, rfl, fun hl0 => ?_, fun hl0 => ?_⟩
  · have hne : 0 < l.length := by cases l <;> simp at hl0 ⊢
    refine OkSs.expr (OkE.mth (Ok.pu (d := .loc (T.length + 3)) (Pu.var rfl) ⟨?_, OkEs.cons (OkE.mth (Ok.pu (d := .loc (T.length + 2)) (Pu.var rfl) ⟨?_, OkEs.cons (OkE.call (OkEs.pcons (Pu.var rfl) (OkEs.pcons (d := .int l.length) (Pu.op1 (d := .loc (T.length + 2)) (Pu.var rfl) ?_) (OkEs.nil ?_))))⟩))⟩))
    · simp only [mthOk, mk_at1]
    · simp only [mthOk, mk_at]
    · show lenS _ (.loc (T.length + 2)) = _
      unfold lenS walked
      simp only [mk_at]
    · refine (draw (by omega) (by omega) (by omega)).imp fun d S' q => ?_
      obtain ⟨i, s2, rfl, h0, h1, rfl, ht2⟩ := q
      have hi : i.toNat < l.length := by omega
      refine OkEs.nil (Ok.of (o_popAt mk_at h0 (List.getElem?_eq_getElem hi)) ?_)
      rw [mk_set]
      refine OkEs.nil (Ok.of (o_append mk_at1 (by unfold big; omega)) ?_)
      rw [mk_set1]
      refine OkSs.nil ⟨l.length - 1, by omega, rfl, _, _, s2, rfl, List.length_eraseIdx_of_lt hi, ?_, by omega⟩
      refine List.Perm.trans ?_ hp
      have e1 : (l.eraseIdx i.toNat ++ (f ++ [l[i.toNat]])).Perm ((l[i.toNat] :: l.eraseIdx i.toNat) ++ f) := by
        rw [← List.append_assoc]
        exact (List.perm_append_singleton _ _).trans (by simp)
      refine e1.trans (List.Perm.append_right f ?_)
      exact erase_perm hi
  · have hl1 : l = [] := by cases l <;> simp at hl0 ⊢
    subst hl1
    have hf : ∀ x ∈ f, x.und (T.length + 2) = true := fun x hx => hu x (hp.mem_iff.mp (by simpa using hx))
    refine OkSs.ret (Ok.pu (d := .loc (T.length + 3)) (Pu.var rfl) ⟨trivial, Old.mk (Nat.succ_pos _) (Old.app (Old.refl T)), _, frz_lst mk_at1 (by rw [mk_len]; omega) hf, f, s', rfl, by simpa using hp, mk_take, by omega⟩)
theorem is_whole {m : Nat} {b : Int} {v : D} {S : Sto} (h : Gd m b v = true) : callF prog W (n + 1) 24 [v] S = .ok (.bl (isWhole v)) S := by
  have e : Ok (callF prog W (n + 1) 24 [v] S) fun d S' => d = .bl (isWhole v) ∧ S' = S := by
    refine Ok.callF (fn := c24) rfl rfl rfl rfl ?_
    refine OkSs.ret (Ok.pu (Pu.and (Pu.op1 (Pu.var rfl) (g_int h)) fun _ => Pu.not (Pu.op1 (Pu.var rfl) (g_bl h))) ?_)
    exact ⟨trivial, Old.refl _, _, frz_und rfl, rfl, by simp⟩
  obtain ⟨d, S', e, rfl, rfl⟩ := e.ex
  exact e
def odds : List D := [.non, .int 0, .int (-1), .bl true, .str "1", .str "", .tup [], .lst [], .dct [] [], .tup [.int 1], .tup [.tup [.int 0]], .tup [.str "a"], .int 100000000000000000]
theorem odds_gd : Gds 1 100000000000000000 odds = true := by decide +kernel
theorem bent {m : Nat} {b : Int} (hm : 0 < m) (hm2 : m ≤ 1000) (hb : 100000000000000000 ≤ b) : ∀ (k N : Nat) (v : D) (s : Gs), k + 4 ≤ N → v.dp ≤ k → Gd m b v = true → s.turn + 5 * (k + 1) ≤ tmax → Ok (callF prog W N 25 [.loc 1, v] (mk s T)) fun d S' => ∃ s', Gd (m + 1) (b + 1) d = true ∧ S' = mk s' T ∧ s'.turn ≤ s.turn + 5 * (k + 1)
  | k, N, v, s, hN, hd, hv, hs => by
    obtain ⟨n, rfl⟩ : ∃ n, N = n + 4 := ⟨N - 4, by omega⟩
    refine Ok.callF (fn := c25) rfl rfl rfl rfl ?_
    have fin : ∀ {d : D} {env : Sa.Env} {s' : Gs}, Gd (m + 1) (b + 1) d = true → s'.turn ≤ s.turn + 5 * (k + 1) → Hand (mk s T) (fun d S' => ∃ s', Gd (m + 1) (b + 1) d = true ∧ S' = mk s' T ∧ s'.turn ≤ s.turn + 5 * (k + 1)) (.rt d, env) (mk s' T) := fun {d env s'} hg ht =>
      ⟨trivial, Old.mk (Nat.succ_pos _) (Old.refl T), _, frz_und (Gd.und hg), s', hg, by simp [mk], ht⟩
    refine OkSs.asgN (OkE.call (OkEs.pcons (Pu.var rfl) (OkEs.pcons (d := .lst odds) (by unfold Pu; kernel_rfl) (OkEs.nil ?_))))
    refine (pick (by unfold odds; exact nofun) (by decide) (fun x hx => Gd.und (gds_mem.mp odds_gd x hx)) (by omega)).imp fun d S' q => ?_
    obtain ⟨s1, hd1, rfl, t1⟩ := q
    have gd1 : Gd (m + 1) (b + 1) d = true := Gd.mono (by omega) (by omega) (gds_mem.mp odds_gd d hd1)
    refine OkSs.when (OkE.or (Ok.pu (Pu.not (Pu.op1 (Pu.var rfl) (g_tup hv))) ⟨_, rfl, fun h1 => ⟨_, rfl, fun _ => OkSs.ret (Ok.pu (Pu.var rfl) (fin gd1 (by omega))), nofun⟩, fun h1 => ?_⟩))
    cases v with
    | tup xs => ?_
    | _ => exact nomatch h1
    clear h1
    obtain ⟨hl, hx⟩ := gd_tup.mp hv
    refine OkE.or (Ok.pu (Pu.op2 (Pu.var rfl) (Pu.tup Pus.nil) o_eq_unit) ⟨_, rfl, fun h1 => ⟨_, rfl, fun _ => OkSs.ret (Ok.pu (Pu.var rfl) (fin gd1 (by omega))), nofun⟩, fun h1 => ?_⟩)
    have hne : 0 < xs.length := by cases xs <;> simp at h1 ⊢
    refine OkE.op (OkEs.cons (OkE.call (OkEs.pcons (Pu.var rfl) (OkEs.pcons Pu.cst (OkEs.nil ?_)))))
    refine (draw (by decide) (by decide) (by omega)).imp fun d2 S' q => ?_
    obtain ⟨i2, s2, rfl, _, _, rfl, t2⟩ := q
    refine OkEs.pcons Pu.cst (OkEs.nil (Ok.of o_eq_int ⟨_, rfl, fun _ => OkSs.ret (Ok.pu (Pu.var rfl) (fin gd1 (by omega))), fun _ => ?_⟩))
    refine OkSs.asg (OkE.tup (OkEs.cons (OkE.call (OkEs.pcons (Pu.var rfl) (OkEs.pcons (d := .int xs.length) (Pu.op1 (Pu.var rfl) rfl) (OkEs.nil ?_))))))
    refine (draw (by omega) (by omega) (by omega)).imp fun d2 S' q => ?_
    obtain ⟨i, s3, rfl, i0, i1, rfl, t3⟩ := q
    refine OkEs.cons (OkE.call (OkEs.pcons (Pu.var rfl) (OkEs.pcons Pu.cst (OkEs.nil ?_))))
    refine (draw (by decide) (by decide) (by omega)).imp fun d2 S' q => ?_
    obtain ⟨w, s4, rfl, w0, w1, rfl, t4⟩ := q
    refine OkEs.nil (Ok.of (a := [some (.loc 1), some (.tup xs), some d, some (.int i), some (.int w)]) (S := mk s4 T) (by kernel_rfl) ?_)
    have hi : i.toNat < xs.length := by omega
    have hxi : xs[i.toNat]? = some xs[i.toNat] := List.getElem?_eq_getElem hi
    have gi : Gd m b xs[i.toNat] = true := hx _ (List.getElem_mem hi)
    have mono : ∀ {x : D}, Gd m b x = true → Gd (m + 1) (b + 1) x = true := fun h => Gd.mono (by omega) (by omega) h
    have gtake : ∀ x ∈ xs.take i.toNat, Gd (m + 1) (b + 1) x = true := fun x h => mono (hx x (List.mem_of_mem_take h))
    have gdrop : ∀ (j : Nat), ∀ x ∈ xs.drop j, Gd (m + 1) (b + 1) x = true := fun j x h => mono (hx x (List.mem_of_mem_drop h))
    have hbig : big = 16000000 := rfl
    refine OkSs.when (Ok.pu (Pu.op2 (Pu.var rfl) Pu.cst rfl) ⟨_, rfl, fun _ => ?_, fun _ => ?_⟩)
    · refine OkSs.ret <| OkE.op <| OkEs.cons <| OkE.op <| OkEs.pcons (Pu.op2 (Pu.var rfl) (Pu.var rfl) (o_upto i0)) <| OkEs.cons <| OkE.tup <| OkEs.cons <| OkE.call <| OkEs.pcons (Pu.var rfl) <| OkEs.pcons (Pu.op2 (Pu.var rfl) (Pu.var rfl) (o_idxT i0 hxi)) <| OkEs.nil ?_
      have hdp : dps xs + 1 ≤ k := hd
      obtain ⟨k, rfl⟩ : ∃ j, k = j + 1 := ⟨k - 1, by omega⟩
      refine (bent hm hm2 hb k (n + 3) xs[i.toNat] s4 (by omega) (dps_mem (xs := xs) (by omega) (List.getElem_mem hi)) gi (by omega)).imp fun d3 S' q => ?_
      obtain ⟨s5, g3, rfl, t5⟩ := q
      refine OkEs.nil (OkEs.nil (Ok.of (o_addT (by simp; omega)) ?_))
      refine OkEs.pcons (Pu.op2 (Pu.var rfl) (Pu.op2 (Pu.var rfl) Pu.cst rfl) (o_from (by omega))) (OkEs.nil (Ok.of (o_addT (by simp; omega)) (fin ?_ (by omega))))
      refine gd_tup.mpr ⟨by simp; omega, fun x h => ?_⟩
      rcases List.mem_append.mp h with h | h
      · rcases List.mem_append.mp h with h | h
        · exact gtake x h
        · rw [List.mem_singleton.mp h]; exact g3
      · exact gdrop _ x h
    · refine OkSs.when (Ok.pu (Pu.op2 (Pu.var rfl) Pu.cst o_eq_int) ⟨_, rfl, fun _ => ?_, fun _ => ?_⟩)
      · refine OkSs.ret (Ok.pu (Pu.op2 (Pu.op2 (Pu.var rfl) (Pu.var rfl) (o_upto i0)) (Pu.op2 (Pu.var rfl) (Pu.op2 (Pu.var rfl) Pu.cst rfl) (o_from (by omega))) (o_addT (by simp; omega))) (fin ?_ (by omega)))
        refine gd_tup.mpr ⟨by simp; omega, fun x h => ?_⟩
        exact (List.mem_append.mp h).elim (gtake x) (gdrop _ x)
      · refine OkSs.when (Ok.pu (Pu.op2 (Pu.var rfl) Pu.cst o_eq_int) ⟨_, rfl, fun _ => ?_, fun _ => ?_⟩)
        · refine OkSs.ret (Ok.pu (Pu.op2 (Pu.op2 (Pu.op2 (Pu.var rfl) (Pu.var rfl) (o_upto i0)) (Pu.op3 (Pu.var rfl) (Pu.var rfl) (Pu.op2 (Pu.var rfl) Pu.cst rfl) (o_mid i0 (by omega))) (o_addT (by simp; omega))) (Pu.op2 (Pu.var rfl) (Pu.var rfl) (o_from i0)) (o_addT (by simp; omega))) (fin ?_ (by omega)))
          refine gd_tup.mpr ⟨by simp; omega, fun x h => ?_⟩
          rcases List.mem_append.mp h with h | h
          · rcases List.mem_append.mp h with h | h
            · exact gtake x h
            · exact gdrop _ x (List.mem_of_mem_take h)
          · exact gdrop _ x h
        · refine OkSs.when (Ok.pu (Pu.and (Pu.op2 (Pu.var rfl) Pu.cst o_eq_int) fun _ => Pu.call (Pus.cons (Pu.op2 (Pu.var rfl) (Pu.var rfl) (o_idxT i0 hxi)) Pus.nil) (is_whole gi)) ⟨_, rfl, fun hw => ?_, fun _ => ?_⟩)
          · have hw2 : isWhole xs[i.toNat] = true := (Bool.and_eq_true _ _ ▸ hw).2
            obtain ⟨j, hj⟩ : ∃ j, xs[i.toNat] = .int j := by
              revert hw2
              cases xs[i.toNat] <;> first
                | exact fun _ => ⟨_, rfl⟩
                | exact fun h => nomatch h
            rw [hj] at hxi gi
            refine OkSs.ret <| OkE.op <| OkEs.cons <| OkE.op <| OkEs.pcons (Pu.op2 (Pu.var rfl) (Pu.var rfl) (o_upto i0)) <| OkEs.cons <| OkE.tup <| OkEs.cons <| OkE.op <| OkEs.pcons (Pu.op2 (Pu.var rfl) (Pu.var rfl) (o_idxT i0 hxi)) <| OkEs.cons <| OkE.call <| OkEs.pcons (Pu.var rfl) <| OkEs.pcons (d := .lst [.int 1, .int (-1)]) rfl <| OkEs.nil ?_
            refine (pick (by simp) (by simp) (fun x hx => by simp at hx; rcases hx with rfl | rfl <;> rfl) (by omega)).imp fun d3 S' q => ?_
            obtain ⟨s5, hd3, rfl, t5⟩ := q
            obtain ⟨e, rfl, he⟩ : ∃ e : Int, d3 = .int e ∧ (e = 1 ∨ e = -1) := by
              simp at hd3
              rcases hd3 with rfl | rfl <;> simp
            refine OkEs.nil (Ok.of (a := .int (j + e)) rfl (OkEs.nil (OkEs.nil (Ok.of (o_addT (by simp; omega)) ?_))))
            refine OkEs.pcons (Pu.op2 (Pu.var rfl) (Pu.op2 (Pu.var rfl) Pu.cst rfl) (o_from (by omega))) (OkEs.nil (Ok.of (o_addT (by simp; omega)) (fin ?_ (by omega))))
            refine gd_tup.mpr ⟨by simp; omega, fun x h => ?_⟩
            rcases List.mem_append.mp h with h | h
            · rcases List.mem_append.mp h with h | h
              · exact gtake x h
              · rw [List.mem_singleton.mp h]
                rw [gd_int] at gi ⊢
                omega
            · exact gdrop _ x h
          · refine OkSs.ret (Ok.pu (d := if w = 7 then .tup xs.reverse else .lst xs) (Pu.ite (Pu.op2 (Pu.var rfl) Pu.cst o_eq_int) (fun h => ?_) fun h => ?_) (fin ?_ (by omega)))
            · rw [if_pos (of_decide_eq_true h)]
              exact Pu.op1 (Pu.var rfl) rfl
            · rw [if_neg (of_decide_eq_false h)]
              refine Pu.op1 (Pu.var rfl) ?_
              show newL false xs _ = _
              unfold newL
              rw [if_pos (by omega)]; rfl
            · split
              · exact gd_tup.mpr ⟨by simp; omega, fun x h => mono (hx x (List.mem_reverse.mp h))⟩
              · exact gd_lst.mpr ⟨by omega, fun x h => mono (hx x h)⟩
  termination_by k => k
end K05
/-! sorted(dict(..)) of ints -/
namespace Sa
def addNew (m : List Int) (i : Int) : List Int := if i ∈ m then m else m ++ [i]
def dedup (l : List Int) : List Int := l.foldl addNew []
def sortI (l : List Int) : List Int := l.mergeSort fun a b => decide (a ≤ b)
theorem addNew_nodup {m : List Int} {i : Int} (h : m.Nodup) : (addNew m i).Nodup := by
  unfold addNew
  split
  · exact h
  · rename_i hi
    exact List.nodup_append.mpr ⟨h, by simp, fun a ha b hb e => hi (by rw [List.mem_singleton] at hb; rw [← hb, ← e]; exact ha)⟩
theorem foldl_nodup : ∀ {l m : List Int}, m.Nodup → (l.foldl addNew m).Nodup
  | [], _, h => h
  | _ :: r, _, h => foldl_nodup (l := r) (addNew_nodup h)
theorem foldl_same : ∀ {l m : List Int}, (m ++ l).Nodup → l.foldl addNew m = m ++ l
  | [], m, _ => by simp
  | a :: r, m, h => by
    have hn : a ∉ m := fun hm => by
      have := (List.nodup_append.mp h).2.2 a hm a List.mem_cons_self
      exact this rfl
    show r.foldl addNew (addNew m a) = _
    have e : addNew m a = m ++ [a] := by unfold addNew; rw [if_neg hn]
    rw [e, foldl_same (by simpa using h)]
    simp
theorem pairwise_lt_of {l : List Int} (h : l.Pairwise (· ≤ ·)) (hn : l.Nodup) : l.Pairwise (· < ·) := by
  refine List.Pairwise.imp₂ (fun a b h1 h2 => ?_) h hn
  omega
theorem sortI_eq (l : List Int) : l = sortI (dedup l) ↔ l.Pairwise (· < ·) := by
  constructor
  · intro e
    have hp : (sortI (dedup l)).Perm (dedup l) := List.mergeSort_perm _ _
    have hs : (sortI (dedup l)).Pairwise (· ≤ ·) := by
      have := List.pairwise_mergeSort (le := fun a b : Int => decide (a ≤ b)) (fun a b c h1 h2 => by simp at *; omega) (fun a b => by simp; omega) (dedup l)
      exact this.imp fun h => by simpa using h
    have hn : (sortI (dedup l)).Nodup := hp.nodup_iff.mpr (foldl_nodup List.nodup_nil)
    rw [e]
    exact pairwise_lt_of hs hn
  · intro h
    have hn : l.Nodup := h.imp fun h => by omega
    have e : dedup l = l := foldl_same (m := []) (by simpa using hn)
    rw [e]
    exact (List.mergeSort_of_pairwise (h.imp fun h => by simp; omega)).symm
/-! the same on values -/
theorem put_keys {kvs : List (D × D)} {v : D} {m : List Int} {i : Int} (h : kvs.map (·.1) = m.map .int) : (put kvs (.int i) v).map (·.1) = (addNew m i).map .int := by
  have ha : (kvs.any fun q => decide (q.1 = .int i)) = decide (i ∈ m) := by
    have : (kvs.any fun q => decide (q.1 = .int i)) = ((kvs.map (·.1)).any fun q => decide (q = .int i)) := by rw [List.any_map]; rfl
    rw [this, h, List.any_map]
    rw [Bool.eq_iff_iff]
    simp [List.any_eq_true]
  unfold put addNew
  rw [ha]
  by_cases hi : i ∈ m
  · rw [if_pos (decide_eq_true hi), if_pos hi, ← h, List.map_map]
    refine List.map_congr_left fun q _ => ?_
    show (if q.1 = .int i then (q.1, v) else q).1 = q.1
    split <;> rfl
  · rw [if_neg (by simpa using hi), if_neg hi]
    simp [h]
theorem fold_keys : ∀ {l m : List Int} {kvs : List (D × D)} {v : D}, kvs.map (·.1) = m.map .int → ((l.map fun i => (D.int i, v)).foldl (fun (m : List (D × D)) (p : D × D) => put m p.1 p.2) kvs).map (·.1) = (l.foldl addNew m).map .int
  | [], _, _, _, h => h
  | i :: l, m, kvs, v, h => fold_keys (l := l) (put_keys h)
theorem mapM_pairs : ∀ {l : List Int} {v : D}, (l.map fun i => D.tup [.int i, v]).mapM pairOf = some (l.map fun i => (D.int i, v))
  | [], _ => rfl
  | i :: l, v => by
    rw [List.map_cons, List.mapM_cons]
    show ((l.map fun i => D.tup [.int i, v]).mapM pairOf).bind (fun ys => some ((.int i, v) :: ys)) = _
    rw [mapM_pairs]; rfl
theorem isort_ints (l : List Int) : isort (l.map .int) = (sortI l).map .int := by
  unfold isort sortI
  rw [List.map_mergeSort]
  intro a _ b _
  show decide (a ≤ b) = !(decide (b < a))
  by_cases h : a ≤ b
  · rw [decide_eq_true h, decide_eq_false (by omega)]; rfl
  · rw [decide_eq_false h, decide_eq_true (by omega)]; rfl
theorem mate_ints : ∀ l : List Int, allMate (l.map .int) = true
  | [] => rfl
  | i :: l => by
    show ((true && (l.map D.int).all (mate (.int i))) && allMate (l.map .int)) = true
    rw [mate_ints l, List.all_map]
    simp [List.all_eq_true]
    intro x _; rfl
theorem sh_ints (l : List Int) : (l.map D.int).all D.sh = true := by
  rw [List.all_map, List.all_eq_true]
  intro x _; rfl
theorem sortable_ints (l : List Int) : sortable (l.map D.int) = true := by
  unfold sortable
  rw [Bool.or_eq_true]
  refine .inr ?_
  rw [List.all_map, List.all_eq_true]
  intro x _; rfl
theorem dps_ints : ∀ l : List Int, dps (l.map .int) = 0
  | [] => rfl
  | i :: l => by show max 0 (dps (l.map .int)) = 0; rw [dps_ints l]; rfl
theorem pls_ints : ∀ l : List Int, pls (l.map .int) = true
  | [] => rfl
  | i :: l => by show (true && pls (l.map .int)) = true; rw [pls_ints l]; rfl
theorem sh_lst_ints (l : List Int) : (D.lst (l.map .int)).sh = true := by
  show (pls (l.map .int) && decide (dps (l.map .int) + 1 ≤ 60)) = true
  rw [pls_ints, dps_ints]; rfl
theorem sh_tup_ints (l : List Int) : (D.tup (l.map .int)).sh = true := by
  show (pls (l.map .int) && decide (dps (l.map .int) + 1 ≤ 60)) = true
  rw [pls_ints, dps_ints]; rfl
theorem eqvs_ints : ∀ l m : List Int, eqvs (l.map .int) (m.map .int) = decide (l = m)
  | [], [] => rfl
  | [], _ :: _ => by rw [decide_eq_false (by simp)]; rfl
  | _ :: _, [] => by rw [decide_eq_false (by simp)]; rfl
  | i :: l, j :: m => by
    show (decide (i = j) && eqvs (l.map .int) (m.map .int)) = _
    rw [eqvs_ints l m]
    rw [Bool.eq_iff_iff]
    simp
theorem eq_ints {P : Prog} {S : Sto} (l m : List Int) : opSem P .eq [.lst (l.map .int), .lst (m.map .int)] S = .ok (.bl (decide (l = m))) S := by
  show bl S (if unlike (.lst (l.map .int)) (.lst (m.map .int)) then some false else if (D.lst (l.map .int)).sh && (D.lst (m.map .int)).sh then some (eqvs (l.map .int) (m.map .int)) else none) = _
  rw [sh_lst_ints, sh_lst_ints, eqvs_ints]
  show bl S (if decide ((l.map D.int).length ≠ (m.map D.int).length) then _ else _) = _
  by_cases h : (l.map D.int).length ≠ (m.map D.int).length
  · rw [decide_eq_true h, decide_eq_false (fun e => h (by rw [e]))]; rfl
  · rw [decide_eq_false h]; rfl
theorem dict_pairs {P : Prog} {S : Sto} (l : List Int) (hb : l.length ≤ big) : ∃ vs : List D, vs.length = (dedup l).length ∧ opSem P (.dict false) [.lst (l.map fun i => .tup [.int i, .bl true])] S = .ok (.dct ((dedup l).map .int) vs) S := by
  have e := fold_keys (l := l) (m := []) (kvs := []) (v := .bl true) rfl
  refine ⟨((l.map fun i => (D.int i, D.bl true)).foldl (fun (m : List (D × D)) (p : D × D) => put m p.1 p.2) []).map (·.2), ?_, ?_⟩
  · have := congrArg List.length e
    simp only [List.length_map] at this
    rw [List.length_map]; exact this
  · show (match ((l.map fun i => D.tup [.int i, .bl true]).mapM pairOf) with
      | some kvs => newD false (kvs.foldl (fun (m : List (D × D)) (p : D × D) => put m p.1 p.2) []) S
      | none => .bad) = _
    rw [mapM_pairs]
    show newD false _ S = _
    have hl : ((l.map fun i => (D.int i, D.bl true)).foldl (fun (m : List (D × D)) (p : D × D) => put m p.1 p.2) []).length ≤ big := by
      have := congrArg List.length e
      simp only [List.length_map] at this
      rw [this]
      refine Nat.le_trans ?_ hb
      have : ∀ (l m : List Int), (l.foldl addNew m).length ≤ m.length + l.length := fun l => by
        induction l with
        | nil => intro m; simp
        | cons a r ih =>
          intro m
          have := ih (addNew m a)
          have h2 : (addNew m a).length ≤ m.length + 1 := by unfold addNew; split <;> simp
          simp only [List.foldl_cons, List.length_cons]
          omega
      simpa using this l []
    unfold newD
    rw [if_pos hl, e]; rfl
theorem sorted_dct {P : Prog} {S : Sto} (l : List Int) (vs : List D) (hv : vs.length = l.length) (hb : l.length ≤ big) : opSem P (.sorted false) [.dct (l.map .int) vs] S = .ok (.lst ((sortI l).map .int)) S := by
  show (match keysOf S (.dct (l.map .int) vs) with
    | some xs => if allMate xs && xs.all D.sh && sortable xs then newL false (isort xs) S else .bad
    | none => .bad) = _
  have e : keysOf S (.dct (l.map .int) vs) = some (l.map .int) := by
    show (if (l.map D.int).length = vs.length then some ((l.map D.int).zip vs) else none).map _ = _
    rw [if_pos (by simp [hv])]
    show some (((l.map D.int).zip vs).map (·.1)) = _
    rw [List.map_fst_zip (by simp [hv])]
  rw [e]
  show (if allMate (l.map .int) && (l.map .int).all D.sh && sortable (l.map .int) then newL false (isort (l.map .int)) S else .bad) = _
  rw [mate_ints, sh_ints, sortable_ints, isort_ints]
  show newL false _ S = _
  unfold newL
  have : (sortI l).length = l.length := (List.mergeSort_perm l _).length_eq
  rw [if_pos (by rw [List.length_map, this]; exact hb)]; rfl
theorem adj_pairwise : ∀ l : List Int, (∀ a b, (a, b) ∈ l.zip (l.drop 1) → a < b) ↔ l.Pairwise (· < ·)
  | [] => by simp
  | [a] => by simp
  | a :: b :: r => by
    have ih := adj_pairwise (b :: r)
    constructor
    · intro h
      have hab : a < b := h a b (by simp)
      have hr := ih.mp fun x y hxy => h x y (by simp only [List.drop_succ_cons, List.drop_zero, List.zip_cons_cons, List.mem_cons] at hxy ⊢; exact .inr hxy)
      refine List.Pairwise.cons (fun c hc => ?_) hr
      rcases List.mem_cons.mp hc with e | hc
      · rw [e]; exact hab
      · exact Int.lt_trans hab ((List.pairwise_cons.mp hr).1 c hc)
    · intro h x y hxy
      have h' := List.pairwise_cons.mp h
      simp only [List.drop_succ_cons, List.drop_zero, List.zip_cons_cons, List.mem_cons] at hxy
      rcases hxy with e | hxy
      · cases e; exact h'.1 _ List.mem_cons_self
      · exact ih.mpr h'.2 x y (by simpa using hxy)
end Sa
set_option maxRecDepth 100000
namespace Sa
variable {S : Sto}
/-! no dict within -/
mutual
def noD : D → Bool
  | .tup xs => noDs xs
  | .lst xs => noDs xs
  | .dct _ _ => false
  | _ => true
def noDs : List D → Bool
  | [] => true
  | x :: r => noD x && noDs r
end
theorem noDs_mem : ∀ {xs : List D}, noDs xs = true ↔ ∀ x ∈ xs, noD x = true
  | [] => ⟨fun _ => nofun, fun _ => rfl⟩
  | x :: r => by
    show (noD x && noDs r) = true ↔ _
    rw [Bool.and_eq_true, noDs_mem]; simp
theorem dps_le {n : Nat} : ∀ {xs : List D}, dps xs ≤ n ↔ ∀ x ∈ xs, x.dp ≤ n
  | [] => ⟨fun _ => nofun, fun _ => Nat.zero_le _⟩
  | x :: r => by
    show max x.dp (dps r) ≤ n ↔ _
    rw [Nat.max_le, dps_le]; simp
def Nice (k : Nat) (v : D) : Prop := Gd 10 100000000000000000 v = true ∧ v.dp ≤ k ∧ noD v = true
theorem Nice.int {k : Nat} {i : Int} (h : -100000000000000000 ≤ i) (h2 : i ≤ 100000000000000000) : Nice k (.int i) := ⟨gd_int.mpr ⟨h, h2⟩, Nat.zero_le _, rfl⟩
theorem Nice.tup {k : Nat} {xs : List D} (hl : xs.length ≤ 10) (h : ∀ x ∈ xs, Nice k x) : Nice (k + 1) (.tup xs) :=
  ⟨gd_tup.mpr ⟨hl, fun x hx => (h x hx).1⟩, Nat.succ_le_succ (dps_le.mpr fun x hx => (h x hx).2.1), noDs_mem.mpr fun x hx => (h x hx).2.2⟩
theorem Nice.mono {k j : Nat} {v : D} (hk : k ≤ j) (h : Nice k v) : Nice j v := ⟨h.1, Nat.le_trans h.2.1 hk, h.2.2⟩
theorem Nice.str {k : Nat} {x : PySem.Str} (h : Gd 10 100000000000000000 (.str x) = true) : Nice k (.str x) := ⟨h, Nat.zero_le _, rfl⟩
/-! names -/
def nm (i : Int) : D := .tup [.str "name", .int i]
theorem eqv_nm {i j : Int} : D.eqv (nm i) (nm j) = decide (i = j) := by
  show (decide (("name" : PySem.Str) = "name") && (decide (i = j) && true)) = _
  simp
theorem sh_nm {i : Int} : (nm i).sh = true := by kernel_rfl
theorem lt_nm {i j : Int} : D.lt (nm i) (nm j) = decide (i < j) := by
  show (if decide (("name" : PySem.Str) = "name") then (if decide (i = j) then false else decide (i < j)) else D.lt (.str "name") (.str "name")) = _
  rw [decide_eq_true rfl, if_pos rfl]
  by_cases h : i = j
  · rw [decide_eq_true h, if_pos rfl, decide_eq_false (by omega)]
  · rw [decide_eq_false h]; rfl
theorem mate_nms : ∀ l : List Int, allMate (l.map nm) = true
  | [] => rfl
  | i :: l => by
    show ((true && (l.map nm).all (mate (nm i))) && allMate (l.map nm)) = true
    rw [mate_nms l, List.all_map]
    simp [List.all_eq_true]
    intro x _; rfl
theorem sh_nms (l : List Int) : (l.map nm).all D.sh = true := by
  rw [List.all_map, List.all_eq_true]
  intro x _; exact sh_nm
theorem sortable_nms (l : List Int) : sortable (l.map nm) = true := by
  unfold sortable
  rw [Bool.or_eq_true]
  refine .inl ?_
  rw [List.all_map, List.all_eq_true]
  intro x _; rfl
theorem isort_nms (l : List Int) : isort (l.map nm) = (sortI l).map nm := by
  unfold isort sortI
  rw [List.map_mergeSort]
  intro a _ b _
  rw [lt_nm]
  by_cases h : a ≤ b
  · rw [decide_eq_true h, decide_eq_false (by omega)]; rfl
  · rw [decide_eq_false h, decide_eq_true (by omega)]; rfl
theorem sorted_nms {P : Prog} (l : List Int) (hb : l.length ≤ big) : opSem P (.sorted false) [.lst (l.map nm)] S = .ok (.lst ((sortI l).map nm)) S := by
  show (if allMate (l.map nm) && (l.map nm).all D.sh && sortable (l.map nm) then newL false (isort (l.map nm)) S else .bad) = _
  rw [mate_nms, sh_nms, sortable_nms, isort_nms]
  show newL false _ S = _
  unfold newL
  have : (sortI l).length = l.length := (List.mergeSort_perm l _).length_eq
  rw [if_pos (by rw [List.length_map, this]; exact hb)]; rfl
/-- the first of each -/
def dd (pre : List Int) : List Int → List Int
  | [] => []
  | i :: r => if i ∈ pre then dd (pre ++ [i]) r else i :: dd (pre ++ [i]) r
theorem dd_mem : ∀ {l pre : List Int} {x : Int}, x ∈ dd pre l → x ∉ pre ∧ x ∈ l
  | [], _, _, h => nomatch h
  | i :: r, pre, x, h => by
    unfold dd at h
    split at h
    · have := dd_mem h
      exact ⟨fun h => this.1 (List.mem_append_left _ h), List.mem_cons_of_mem _ this.2⟩
    · rename_i hi
      rcases List.mem_cons.mp h with e | h
      · rw [e]; exact ⟨hi, List.mem_cons_self⟩
      · have := dd_mem h
        exact ⟨fun h => this.1 (List.mem_append_left _ h), List.mem_cons_of_mem _ this.2⟩
theorem dd_nodup : ∀ {l pre : List Int}, (dd pre l).Nodup
  | [], _ => List.nodup_nil
  | i :: r, pre => by
    unfold dd
    split
    · exact dd_nodup
    · exact List.nodup_cons.mpr ⟨fun h => (dd_mem h).1 (by simp), dd_nodup⟩
theorem dd_len : ∀ {l pre : List Int}, (dd pre l).length ≤ l.length
  | [], _ => Nat.le_refl _
  | i :: r, pre => by
    unfold dd
    have := dd_len (l := r) (pre := pre ++ [i])
    split <;> simp <;> omega
end Sa
set_option maxRecDepth 100000
/-! what repr gives of plain values -/
namespace Sa
open PySem (Str PyData)
def Sb (L : Nat) (t : Str) : Prop := t.length ≤ L ∧ PyData.strOk t = true
theorem sh_str {t : Str} (h : PyData.strOk t = true) : (D.str t).sh = true := by
  show (PyData.canLay0 (.str t) && decide (0 ≤ 60)) = true
  rw [show PyData.canLay0 (.str t) = PyData.strOk t from by simp [PyData.canLay0], h]; rfl
theorem sh_strOk {t : Str} (h : (D.str t).sh = true) : PyData.strOk t = true := by
  have h : (PyData.canLay0 (.str t) && decide (0 ≤ 60)) = true := h
  rw [Bool.and_eq_true] at h
  have := h.1
  simpa [PyData.canLay0] using this
theorem strOk_app {x y : Str} (hx : PyData.strOk x = true) (hy : PyData.strOk y = true) : PyData.strOk (x ++ y) = true := by
  unfold PyData.strOk at *
  show (x.cps ++ y.cps).all _ = true
  rw [Array.all_append, hx, hy]; rfl
theorem Sb.app {L M : Nat} {x y : Str} (hx : Sb L x) (hy : Sb M y) : Sb (L + M) (x ++ y) := ⟨by rw [PySem.strLen_append]; exact Nat.add_le_add hx.1 hy.1, strOk_app hx.2 hy.2⟩
theorem Sb.mono {L M : Nat} {x : Str} (h : L ≤ M) (hx : Sb L x) : Sb M x := ⟨Nat.le_trans hx.1 h, hx.2⟩
theorem strOk_ofString (s : String) : PyData.strOk (Str.ofString s) = true := by
  rw [PySem.Str.ofString_eq_toList]
  unfold PyData.strOk
  rw [List.all_toArray, List.all_eq_true]
  intro c hc
  obtain ⟨d, _, rfl⟩ := List.mem_map.mp hc
  rw [decide_eq_true_eq]
  have := d.valid
  rcases this with h | ⟨_, h⟩
  · have h : d.toNat < 0xd800 := h
    omega
  · exact h
theorem Sb.lit {L : Nat} (s : String) (h : s.length ≤ L) : Sb L (Str.ofString s) := ⟨by rw [PySem.ofString_length]; exact h, strOk_ofString s⟩
theorem Sb.int {i : Int} (h : -1000000000000000000 ≤ i) (h2 : i ≤ 1000000000000000000) : Sb 20 (Str.ofString (toString i)) := ⟨by
  rw [PySem.ofString_length]
  exact PySem.int_text_length_le10 (k := 19) (by decide) (by omega), strOk_ofString _⟩
theorem Sb.join {L : Nat} : ∀ ts : List Str, (∀ t ∈ ts, Sb L t) → Sb (ts.length * (L + 2)) (Str.join ", " ts)
  | [], _ => ⟨Nat.zero_le _, by decide +kernel⟩
  | [x], h => (h x List.mem_cons_self).mono (by simp)
  | x :: y :: r, h => by
    have ih := Sb.join (y :: r) fun t ht => h t (List.mem_cons_of_mem _ ht)
    have := ((h x List.mem_cons_self).app (Sb.lit (L := 2) ", " (by decide))).app ih
    refine Sb.mono ?_ this
    simp only [List.length_cons]
    rw [Nat.succ_mul (r.length + 1)]
    omega
theorem Sb.tuple {L : Nat} {ts : List Str} (h : ∀ t ∈ ts, Sb L t) : Sb (ts.length * (L + 2) + 3) (PySem.tupleText ts) := by
  unfold PySem.tupleText
  refine Sb.mono ?_ (((Sb.lit (L := 1) "(" (by decide)).app (Sb.join ts h)).app (Sb.lit (L := 2) (if ts.length == 1 then ",)" else ")") (by split <;> decide)))
  omega
theorem Sb.from {L : Nat} : ∀ (ts : List Str) (k M : Nat) (acc : Str), (∀ t ∈ ts, Sb L t) → Sb M acc → Sb (M + ts.length * (L + 2)) (PySem.textFrom k acc ts)
  | [], _, _, _, _, h => h.mono (by simp)
  | t :: r, k, M, acc, h, ha => by
    have h1 := (ha.app (Sb.lit (L := 2) (if k > 0 then ", " else "") (by split <;> decide))).app (h t List.mem_cons_self)
    have := Sb.from r (k + 1) _ _ (fun t ht => h t (List.mem_cons_of_mem _ ht)) h1
    refine Sb.mono ?_ this
    simp only [List.length_cons, Nat.succ_mul]
    omega
theorem Sb.list {L : Nat} {ts : List Str} (h : ∀ t ∈ ts, Sb L t) : Sb (ts.length * (L + 2) + 3) (PySem.listText ts) := by
  unfold PySem.listText
  refine Sb.mono ?_ ((Sb.from ts 0 1 "[" h (Sb.lit "[" (by decide))).app (Sb.lit (L := 1) "]" (by decide)))
  omega
theorem Sb.dict {L : Nat} {ts : List Str} (h : ∀ t ∈ ts, Sb L t) : Sb (ts.length * (L + 2) + 3) (PySem.dictText ts) := by
  unfold PySem.dictText
  refine Sb.mono ?_ (((Sb.lit (L := 1) "{" (by decide)).app (Sb.join ts h)).app (Sb.lit (L := 1) "}" (by decide)))
  omega
/-- how long a text is -/
def slen (m : Nat) : Nat → Nat
  | 0 => 100
  | k + 1 => m * (slen m k + 2) + 3
theorem slen_mono {m : Nat} (hm : 0 < m) : ∀ {j k : Nat}, j ≤ k → slen m j ≤ slen m k
  | j, 0, h => by rw [Nat.le_zero.mp h]; exact Nat.le_refl _
  | j, k + 1, h => by
    rcases Nat.lt_or_ge j (k + 1) with h1 | h1
    · refine Nat.le_trans (slen_mono hm (Nat.le_of_lt_succ h1)) ?_
      show slen m k ≤ m * (slen m k + 2) + 3
      have := Nat.le_mul_of_pos_left (slen m k + 2) hm
      omega
    · rw [show j = k + 1 by omega]; exact Nat.le_refl _
/-- a value's text -/
structure Sh (m k : Nat) (v : D) (p : PyData) : Prop where
  to : toP v = some p
  able : p.showable = true
  nod : p.hasDict = false
  text : Sb (slen m k) p.shown
  deep : p.depth ≤ k
structure Shs (m k : Nat) (xs : List D) (ps : List PyData) : Prop where
  to : toPs xs = some ps
  len : ps.length = xs.length
  able : PyData.showableAll ps = true
  nod : PyData.hasDictAll ps = false
  text : ∀ t ∈ PyData.shownAll ps, Sb (slen m k) t
  tlen : (PyData.shownAll ps).length = ps.length
  deep : PyData.depthAll ps ≤ k
mutual
theorem shown_gd {m : Nat} {b : Int} (hm : 0 < m) (hb : b ≤ 1000000000000000000) : ∀ {v : D} {k : Nat}, Gd m b v = true → v.dp ≤ k → noD v = true → ∃ p, Sh m k v p
  | .non, k, _, _, _ => ⟨.none, rfl, rfl, rfl, (Sb.lit (L := 100) "None" (by decide)).mono (slen_mono hm (Nat.zero_le k)), Nat.zero_le _⟩
  | .bl x, k, _, _, _ => ⟨.bool x, rfl, rfl, rfl, by
      refine Sb.mono (slen_mono hm (Nat.zero_le k)) ?_
      cases x
      · exact Sb.lit (L := 100) "False" (by decide)
      · exact Sb.lit (L := 100) "True" (by decide), Nat.zero_le _⟩
  | .int i, k, h, _, _ => by
      have h := gd_int.mp h
      refine ⟨.int i, rfl, ?_, rfl, (Sb.int (by omega) (by omega)).mono (Nat.le_trans (show 20 ≤ 100 by decide) (slen_mono hm (Nat.zero_le k))), Nat.zero_le _⟩
      show decide (i.natAbs.log2 < 1920) = true
      rw [decide_eq_true_eq]
      by_cases h0 : i.natAbs = 0
      · rw [h0]; decide
      · rw [Nat.log2_lt h0]
        exact Nat.lt_of_le_of_lt (show i.natAbs ≤ 2 ^ 60 by omega) (Nat.pow_lt_pow_right (by decide) (by decide))
  | .str x, k, h, _, _ => by
      have h : ((D.str x).sh && ((D.str (PySem.reprText x)).sh && decide ((PySem.reprText x).length ≤ 100))) = true := h
      simp only [Bool.and_eq_true, decide_eq_true_eq] at h
      exact ⟨.str x, rfl, rfl, rfl, Sb.mono (slen_mono hm (Nat.zero_le k)) ⟨h.2.2, sh_strOk h.2.1⟩, Nat.zero_le _⟩
  | .tup xs, k, h, hd, hn => by
      obtain ⟨hl, hx⟩ := gd_tup.mp h
      have hd : dps xs + 1 ≤ k := hd
      obtain ⟨k, rfl⟩ : ∃ j, k = j + 1 := ⟨k - 1, by omega⟩
      obtain ⟨ps, q⟩ := shown_gds hm hb (xs := xs) (k := k) (gds_mem.mpr hx) (by omega) hn
      refine ⟨.tuple ps, ?_, q.able, q.nod, ?_, Nat.succ_le_succ q.deep⟩
      · show (toPs xs).map PyData.tuple = _
        rw [q.to]; rfl
      · refine Sb.mono ?_ (Sb.tuple q.text)
        show _ ≤ m * (slen m k + 2) + 3
        rw [q.tlen, q.len]
        exact Nat.add_le_add_right (Nat.mul_le_mul_right _ hl) _
  | .lst xs, k, h, hd, hn => by
      obtain ⟨hl, hx⟩ := gd_lst.mp h
      have hd : dps xs + 1 ≤ k := hd
      obtain ⟨k, rfl⟩ : ∃ j, k = j + 1 := ⟨k - 1, by omega⟩
      obtain ⟨ps, q⟩ := shown_gds hm hb (xs := xs) (k := k) (gds_mem.mpr hx) (by omega) hn
      refine ⟨.list ps, ?_, q.able, q.nod, ?_, Nat.succ_le_succ q.deep⟩
      · show (toPs xs).map PyData.list = _
        rw [q.to]; rfl
      · refine Sb.mono ?_ (Sb.list q.text)
        show _ ≤ m * (slen m k + 2) + 3
        rw [q.tlen, q.len]
        exact Nat.add_le_add_right (Nat.mul_le_mul_right _ hl) _
  | .dct _ _, _, _, _, h => nomatch h
  | .ro _, _, h, _, _ => nomatch h
  | .loc _, _, h, _, _ => nomatch h
  | .fn _, _, h, _, _ => nomatch h
  | .cls _, _, h, _, _ => nomatch h
  | .exc _ _, _, h, _, _ => nomatch h
theorem shown_gds {m : Nat} {b : Int} (hm : 0 < m) (hb : b ≤ 1000000000000000000) : ∀ {xs : List D} {k : Nat}, Gds m b xs = true → dps xs ≤ k → noDs xs = true → ∃ ps, Shs m k xs ps
  | [], k, _, _, _ => ⟨[], rfl, rfl, rfl, rfl, nofun, rfl, Nat.zero_le _⟩
  | x :: r, k, h, hd, hn => by
      have h : (Gd m b x && Gds m b r) = true := h
      have hd : max x.dp (dps r) ≤ k := hd
      have hn : (noD x && noDs r) = true := hn
      rw [Bool.and_eq_true] at h hn
      obtain ⟨p, q⟩ := shown_gd hm hb (v := x) (k := k) h.1 (by omega) hn.1
      obtain ⟨ps, qs⟩ := shown_gds hm hb (xs := r) (k := k) h.2 (by omega) hn.2
      refine ⟨p :: ps, ?_, by rw [List.length_cons, qs.len]; rfl, ?_, ?_, ?_, ?_, ?_⟩
      · show (match toP x, toPs r with
          | some a, some b => some (a :: b)
          | _, _ => none) = _
        rw [q.to, qs.to]
      · show (p.showable && PyData.showableAll ps) = true
        rw [q.able, qs.able]; rfl
      · show (p.hasDict || PyData.hasDictAll ps) = false
        rw [q.nod, qs.nod]; rfl
      · intro t ht
        rcases List.mem_cons.mp (show t ∈ p.shown :: PyData.shownAll ps from ht) with e | ht
        · rw [e]; exact q.text
        · exact qs.text t ht
      · show (PyData.shownAll ps).length + 1 = ps.length + 1
        rw [qs.tlen]
      · show max p.depth (PyData.depthAll ps) ≤ k
        rw [Nat.max_le]
        exact ⟨q.deep, qs.deep⟩
end
theorem shown_ok {m k : Nat} {b : Int} {v : D} (hm : 0 < m) (hb : b ≤ 1000000000000000000) (h : Gd m b v = true) (hd : v.dp ≤ k) (hn : noD v = true) (hk : k ≤ 60) (hs : slen m k ≤ 16777216) : ∃ t, shown v = some t ∧ (D.str t).sh = true := by
  obtain ⟨p, q⟩ := shown_gd hm hb h hd hn
  refine ⟨p.shown, ?_, sh_str q.text.2⟩
  unfold shown
  rw [q.to]
  simp only []
  rw [q.able, q.nod, decide_eq_true (show p.shown.length ≤ PySem.sizeLine from Nat.le_trans q.text.1 hs), decide_eq_true (Nat.le_trans q.deep hk)]
  simp
theorem shownKv_mem {L : Nat} : ∀ {as bs : List PyData}, (∀ t ∈ PyData.shownAll as, Sb L t) → (∀ t ∈ PyData.shownAll bs, Sb L t) → ∀ t ∈ PyData.shownKv (as.zip bs), Sb (L + 2 + L) t
  | [], _, _, _, t, ht => by simp [PyData.shownKv] at ht
  | _ :: _, [], _, _, t, ht => by simp [PyData.shownKv] at ht
  | a :: r, b :: s, h1, h2, t, ht => by
    rcases List.mem_cons.mp (show t ∈ (a.shown ++ ": " ++ b.shown) :: PyData.shownKv (r.zip s) from ht) with e | ht
    · rw [e]
      exact ((h1 _ List.mem_cons_self).app (Sb.lit (L := 2) ": " (by decide))).app (h2 _ List.mem_cons_self)
    · exact shownKv_mem (fun t ht => h1 t (List.mem_cons_of_mem _ ht)) (fun t ht => h2 t (List.mem_cons_of_mem _ ht)) t ht
theorem shownKv_len : ∀ {as bs : List PyData}, (PyData.shownKv (as.zip bs)).length ≤ as.length
  | [], _ => by simp [PyData.shownKv]
  | _ :: _, [] => by simp [PyData.shownKv]
  | a :: r, b :: s => Nat.succ_le_succ (shownKv_len (as := r) (bs := s))
theorem showableKv_zip : ∀ {as bs : List PyData}, PyData.showableAll as = true → PyData.showableAll bs = true → PyData.showableKv (as.zip bs) = true
  | [], _, _, _ => by simp [PyData.showableKv]
  | _ :: _, [], _, _ => by simp [PyData.showableKv]
  | a :: r, b :: s, h1, h2 => by
    have h1 : (a.showable && PyData.showableAll r) = true := h1
    have h2 : (b.showable && PyData.showableAll s) = true := h2
    rw [Bool.and_eq_true] at h1 h2
    show (a.showable && b.showable && PyData.showableKv (r.zip s)) = true
    rw [h1.1, h2.1, showableKv_zip h1.2 h2.2]; rfl
theorem depthKv_zip {k : Nat} : ∀ {as bs : List PyData}, PyData.depthAll as ≤ k → PyData.depthAll bs ≤ k → PyData.depthKv (as.zip bs) ≤ k
  | [], _, _, _ => by simp [PyData.depthKv]
  | _ :: _, [], _, _ => by simp [PyData.depthKv]
  | a :: r, b :: s, h1, h2 => by
    have h1 : max a.depth (PyData.depthAll r) ≤ k := h1
    have h2 : max b.depth (PyData.depthAll s) ≤ k := h2
    rw [Nat.max_le] at h1 h2
    show max (max a.depth b.depth) (PyData.depthKv (r.zip s)) ≤ k
    rw [Nat.max_le, Nat.max_le]
    exact ⟨⟨h1.1, h2.1⟩, depthKv_zip h1.2 h2.2⟩
/-- a dict's text: no lists within -/
theorem shown_dct {m k : Nat} {b : Int} {ks vs : List D} (hm : 0 < m) (hb : b ≤ 1000000000000000000) (h1 : Gds m b ks = true) (h2 : Gds m b vs = true) (d1 : dps ks ≤ k) (d2 : dps vs ≤ k) (n1 : noDs ks = true) (n2 : noDs vs = true) (nl : noLs vs = true) (hk : k ≤ 50) (hs : ks.length * (2 * slen m k + 4) + 3 ≤ 16777216) : ∃ t, shown (.dct ks vs) = some t ∧ (D.str t).sh = true := by
  obtain ⟨as, q1⟩ := shown_gds hm hb h1 d1 n1
  obtain ⟨bs, q2⟩ := shown_gds hm hb h2 d2 n2
  have ht : Sb (ks.length * (2 * slen m k + 4) + 3) (PyData.shown (.dict (as.zip bs))) := by
    refine Sb.mono ?_ (Sb.dict (shownKv_mem q1.text q2.text))
    have := shownKv_len (as := as) (bs := bs)
    rw [q1.len] at this
    have e : slen m k + 2 + slen m k + 2 = 2 * slen m k + 4 := by omega
    rw [e]
    exact Nat.add_le_add_right (Nat.mul_le_mul_right _ this) _
  refine ⟨PyData.shown (.dict (as.zip bs)), ?_, sh_str ht.2⟩
  unfold shown
  have e : toP (.dct ks vs) = some (.dict (as.zip bs)) := by
    show (match toPs ks, toPs vs with
      | some a, some b => some (PyData.dict (a.zip b))
      | _, _ => none) = _
    rw [q1.to, q2.to]
  rw [e]
  simp only []
  rw [show PyData.showable (.dict (as.zip bs)) = true from showableKv_zip q1.able q2.able, show noL (.dct ks vs) = true from nl, decide_eq_true (show (PyData.shown (.dict (as.zip bs))).length ≤ PySem.sizeLine from Nat.le_trans ht.1 hs), decide_eq_true (show PyData.depth (.dict (as.zip bs)) ≤ 60 from Nat.le_trans (Nat.succ_le_succ (depthKv_zip q1.deep q2.deep)) (by omega))]
  simp
end Sa
set_option maxRecDepth 100000
/-! more rules: methods, lists of the store, new things -/
namespace Sa
variable {C : Rt} {env env' : Env} {S S' : Sto} {a b c e : E} {d z : D} {x y : Bool} {o p q : Op} {es r : Es} {t : Tg}
theorem Gn.nx {r : Sms} {Q : Fl × Env → Sto → Prop} (h : Ok (evSs C r env S) Q) : Gn C r Q (.nx, env) S := h
theorem it_of {k : List D × Ck} (h : Pu C e env S d) (hs : spans S d = some k) : evIt C (.of e) env S = .ok k S := by
  simp only [evIt]
  rw [show evE C e env S = _ from h, R.bind_ok, hs]; rfl
theorem Pu.meth {m f : Nat} {ds : List D} (h : Pu C a env S d) (hm : MethAt C.P S d m f) (hs : Pus C es env S ds) (hc : C.call f (d :: ds) S = .ok z S) : Pu C (.meth m a es) env S z := by
  obtain ⟨k, c, fs, cl, e1, e2, e3, e4, e5⟩ := hm
  subst e1
  show evE C (.meth m a es) env S = _
  simp only [evE]
  rw [show evE C a env S = _ from h, R.bind_ok]
  simp only [e2, e3, e4, e5]
  rw [show evEs C es env S = _ from hs, R.bind_ok, hc]
theorem callE_meth {m f : Nat} {ds : List D} {x : D} (h : Pu C a env S d) (hm : MethAt C.P S d m f) (hs : Pus C es env S ds) (hc : C.call f (d :: ds) S = .err x S) : evE C (.meth m a es) env S = .err x S := by
  obtain ⟨k, c, fs, cl, e1, e2, e3, e4, e5⟩ := hm
  subst e1
  simp only [evE]
  rw [show evE C a env S = _ from h, R.bind_ok]
  simp only [e2, e3, e4, e5]
  rw [show evEs C es env S = _ from hs, R.bind_ok, hc]
theorem callE_new {f : Nat} {cl : Cl} {ds : List D} {x : D} (hc : C.P.cls[f]? = some cl) (hs : Pus C es env S ds) (hx : C.call cl.init (.loc S.length :: ds) (S ++ [.ins f []]) = .err x S') : evE C (.new f es) env S = .err x S' := by
  simp only [evE]
  rw [show evEs C es env S = _ from hs, R.bind_ok]
  simp only [hc]
  rw [hx]; rfl
theorem callE_newB {P : Prog} {W n i f : Nat} {cl : Cl} {ds : List D} {x : D} (hc : P.cls[f]? = some cl) (hi : cl.init = i) (hs : evEs ⟨P, W, callF P W n⟩ es env S = .ok ds S') (hx : ∀ b, callF P W n i (.loc b :: ds) (S' ++ [.ins f []]) = .err x (S' ++ [.ins f []])) : evE ⟨P, W, callF P W n⟩ (.new f es) env S = .err x (S' ++ [.ins f []]) := by
  subst hi
  simp only [evE]
  rw [hs, R.bind_ok]
  simp only [hc]
  rw [hx]; rfl
theorem Pu.compTL {own : List Nat} {it : It} {xs ys : List D} {k : Nat} {g : D → Env} {f : D → D} {p : D → Bool} (hk : S[k]? = some (.lst ys)) (hi : evIt C it env S = .ok (xs, .lst k ys) S) (ht : ∀ x ∈ xs, evTg C t x (wipeE env own) S = .ok (g x) S) (hb : ∀ x ∈ xs, Pu C b (g x) S (.bl (p x)))
    (he : ∀ x ∈ xs, p x = true → Pu C e (g x) S (f x)) (hl : xs.length ≤ big) : Pu C (.comp false own t it (.cons b .nil) e) env S (.lst ((xs.filter p).map f)) := by
  show evE C (.comp false own t it (.cons b .nil) e) env S = _
  simp only [evE]
  rw [hi, R.bind_ok]
  show (loopC (.lst k ys) _ xs [] S).bind _ = _
  rw [loopC_pure (f := fun x => if p x then some (f x) else none) (show Ck.ok (.lst k ys) S = true from decide_eq_true hk) xs [] (fun x hx => ?_) (by simpa using hl)]
  · have e1 : xs.filterMap (fun x => if p x = true then some (f x) else none) = (xs.filter p).map f := by
      clear hi ht hb he hl
      induction xs with
      | nil => rfl
      | cons x r ih =>
        simp only [List.filterMap_cons, List.filter_cons]
        cases p x <;> simp [ih]
    rw [List.nil_append, e1]
    show newL false _ _ = _
    unfold newL
    rw [if_pos (by rw [List.length_map]; exact Nat.le_trans (List.length_filter_le _ _) hl)]
    rfl
  · rw [ht x hx, R.bind_ok]
    simp only [evEs, R.bind_ok]
    rw [show evE C b (g x) S = _ from hb x hx, R.bind_ok]
    cases hp : p x with
    | true =>
      show (evE C e (g x) S).bind _ = _
      rw [show evE C e (g x) S = _ from he x hx hp]
      rfl
    | false => rfl
theorem sh_top {x : D} (h : x.sh = true) : top S x = x := by
  cases x <;> first
    | rfl
    | cases h
theorem unlike_ne {x y : D} (h : unlike x y = true) : D.eqv x y = false := by
  cases x with
  | tup xs => cases y with
    | tup ys => cases xs <;> cases ys <;> first
      | rfl
      | cases h
    | _ => rfl
  | lst xs => cases y with
    | lst ys =>
      have h : decide (xs.length ≠ ys.length) = true := h
      have h := of_decide_eq_true h
      show eqvs xs ys = false
      have : ∀ (xs ys : List D), eqvs xs ys = true → xs.length = ys.length := fun xs => by
        induction xs with
        | nil => intro ys h; cases ys <;> first
          | rfl
          | cases h
        | cons a r ih =>
          intro ys h
          cases ys with
          | nil => cases h
          | cons b s =>
            have h : (D.eqv a b && eqvs r s) = true := h
            rw [Bool.and_eq_true] at h
            simp [ih s h.2]
      cases he : eqvs xs ys with
      | false => rfl
      | true => exact (h (this xs ys he)).elim
    | _ => rfl
  | _ => cases y <;> first
    | rfl
    | cases h
theorem eqq_sh {x y : D} (hx : x.sh = true) (hy : y.sh = true) : eqq S x y = some (D.eqv x y) := by
  unfold eqq
  simp only [sh_top hx, sh_top hy, hx, hy]
  cases h : unlike x y with
  | true => simp [unlike_ne h]
  | false => simp
theorem o_eq {P : Prog} {x y : D} (hx : x.sh = true) (hy : y.sh = true) : opSem P .eq [x, y] S = .ok (.bl (D.eqv x y)) S := by
  show bl S (eqq S x y) = _
  rw [eqq_sh hx hy]; rfl
theorem o_ne {P : Prog} {x y : D} (hx : x.sh = true) (hy : y.sh = true) : opSem P .ne [x, y] S = .ok (.bl (!D.eqv x y)) S := by
  show bl S ((eqq S x y).map (!·)) = _
  rw [eqq_sh hx hy]; rfl
mutual
theorem eqv_rfl : ∀ {x : D}, x.pl = true → D.eqv x x = true
  | .non, _ => rfl
  | .bl b, _ => by show (b == b) = true; simp
  | .int i, _ => by show decide (i = i) = true; simp
  | .str x, _ => by show decide (x = x) = true; simp
  | .tup xs, h => eqvs_rfl (xs := xs) h
  | .lst xs, h => eqvs_rfl (xs := xs) h
  | .dct _ _, h => nomatch h
  | .ro _, h => nomatch h
  | .loc _, h => nomatch h
  | .fn _, h => nomatch h
  | .cls _, h => nomatch h
  | .exc _ _, h => nomatch h
theorem eqvs_rfl : ∀ {xs : List D}, pls xs = true → eqvs xs xs = true
  | [], _ => rfl
  | x :: r, h => by
    have h : (x.pl && pls r) = true := h
    rw [Bool.and_eq_true] at h
    show (D.eqv x x && eqvs r r) = true
    rw [eqv_rfl h.1, eqvs_rfl h.2]; rfl
end
theorem sh_pl {x : D} (h : x.sh = true) : x.pl = true := by
  unfold D.sh at h
  rw [Bool.and_eq_true] at h
  exact h.1
theorem o_ne_same {P : Prog} {x : D} (hx : x.sh = true) : opSem P .ne [x, x] S = .ok (.bl false) S := by
  rw [o_ne hx hx, eqv_rfl (sh_pl hx)]; rfl
theorem o_repr {P : Prog} {x : D} {t : PySem.Str} (h : shown x = some t) (hn : top S x = x) : opSem P .repr [x] S = .ok (.str t) S := by
  show R.lift S ((shown (top S x)).map D.str) = _
  rw [hn, h]; rfl
mutual
theorem gd_pl {m : Nat} {b : Int} : ∀ {v : D}, Gd m b v = true → noD v = true → v.pl = true
  | .non, _, _ => rfl
  | .bl _, _, _ => rfl
  | .int _, _, _ => rfl
  | .str x, h, _ => by
    have h : ((D.str x).sh && ((D.str (PySem.reprText x)).sh && decide ((PySem.reprText x).length ≤ 100))) = true := h
    rw [Bool.and_eq_true] at h
    exact sh_pl h.1
  | .tup xs, h, hn => gds_pl (xs := xs) (gds_mem.mpr (gd_tup.mp h).2) hn
  | .lst xs, h, hn => gds_pl (xs := xs) (gds_mem.mpr (gd_lst.mp h).2) hn
  | .dct _ _, _, h => nomatch h
  | .ro _, h, _ => nomatch h
  | .loc _, h, _ => nomatch h
  | .fn _, h, _ => nomatch h
  | .cls _, h, _ => nomatch h
  | .exc _ _, h, _ => nomatch h
theorem gds_pl {m : Nat} {b : Int} : ∀ {xs : List D}, Gds m b xs = true → noDs xs = true → pls xs = true
  | [], _, _ => rfl
  | x :: r, h, hn => by
    have h : (Gd m b x && Gds m b r) = true := h
    have hn : (noD x && noDs r) = true := hn
    rw [Bool.and_eq_true] at h hn
    show (x.pl && pls r) = true
    rw [gd_pl h.1 hn.1, gds_pl h.2 hn.2]; rfl
end
theorem gd_sh {m : Nat} {b : Int} {v : D} (h : Gd m b v = true) (hn : noD v = true) (hd : v.dp ≤ 60) : v.sh = true := by
  unfold D.sh
  rw [gd_pl h hn, decide_eq_true hd]; rfl
theorem Nice.sh {k : Nat} {v : D} (h : Nice k v) (hk : k ≤ 60) : v.sh = true := gd_sh h.1 h.2.2 (Nat.le_trans h.2.1 hk)
theorem Nice.at_ {k : Nat} {xs : List D} {x : D} (h : Nice k (.tup xs)) (hx : x ∈ xs) : Nice k x := by
  obtain ⟨h1, h2, h3⟩ := h
  have h2 : dps xs + 1 ≤ k := h2
  exact ⟨(gd_tup.mp h1).2 x hx, dps_le.mp (show dps xs ≤ k by omega) x hx, noDs_mem.mp h3 x hx⟩
theorem nbd_len : ∀ (xs : List D) (k : Nat), (numbered k xs).length = xs.length
  | [], _ => rfl
  | x :: r, k => by show (numbered (k + 1) r).length + 1 = _; rw [nbd_len]; rfl
theorem numbered_mem : ∀ {xs : List D} {k : Nat} {y : D}, y ∈ numbered k xs → ∃ (j : Nat) (x : D), y = .tup [.int (j : Int), x] ∧ x ∈ xs ∧ j < k + xs.length
  | [], _, _, h => nomatch h
  | x :: r, k, y, h => by
    rcases List.mem_cons.mp (show y ∈ .tup [.int (k : Int), x] :: numbered (k + 1) r from h) with e | h
    · exact ⟨k, x, e, List.mem_cons_self, by simp⟩
    · obtain ⟨j, z, e, hz, hj⟩ := numbered_mem h
      exact ⟨j, z, e, List.mem_cons_of_mem _ hz, by simp; omega⟩
/-- a def whose things are kept -/
theorem oldOk_no {n i : Nat} {o : Ob} (hi : i < n) (h1 : S'[i]? = some o) (h2 : S[i]? ≠ some o) (hu : o.und n = false) : oldOk n S S' = false := by
  unfold oldOk
  rw [Bool.and_eq_false_iff]
  refine .inr ?_
  rw [List.all_eq_false]
  refine ⟨i, List.mem_range.mpr hi, ?_⟩
  rw [h1]
  simp only [hu, Bool.or_false, decide_eq_true_eq]
  exact fun e => h2 e.symm
theorem Ok.callFN {P : Prog} {W n f : Nat} {ds : List D} {fn : Fn} {env : Env} {Q : D → Sto → Prop} (h : P.fns[f]? = some fn) (hl : ds.length = fn.np) (hE : ds.map some ++ List.replicate (fn.ns - fn.np) none = env) (hr : Ok (evSs ⟨P, W, Sa.callF P W n⟩ fn.body env S) fun p S' => (match p.1 with
    | .bk => False
    | .ct => False
    | _ => True) ∧ (fn.keep = true ∨ oldOk S.length S S' = false) ∧ Q (vRt p.1) S') : Ok (Sa.callF P W (n + 1) f ds S) Q := by
  subst hE
  show Ok (match P.fns[f]? with
      | some fn => if ds.length = fn.np then fin fn.keep S (evSs ⟨P, W, Sa.callF P W n⟩ fn.body (ds.map some ++ List.replicate (fn.ns - fn.np) none) S) else .bad
      | none => .bad) Q
  rw [h]
  show Ok (if ds.length = fn.np then _ else _) Q
  rw [if_pos hl]
  obtain ⟨p, S', e, h1, h2, h4⟩ := hr.ex
  rw [e]
  obtain ⟨fl, env⟩ := p
  unfold fin
  rcases h2 with hk | ho
  · rw [hk]
    cases fl with
    | bk => exact h1.elim
    | ct => exact h1.elim
    | nx => exact h4
    | rt v => exact h4
  · cases fn.keep <;> cases fl <;> first
      | exact h1.elim
      | exact h4
      | (simp only [ho, Bool.false_eq_true, if_false]; exact h4)
theorem set_same {a : Nat} {o : Ob} (h : S[a]? = some o) : S.set a o = S := by
  obtain ⟨hi, e⟩ := List.getElem?_eq_some_iff.mp h
  rw [← e, List.set_getElem_self]
theorem Pu.compD {own : List Nat} {i a : Nat} {kvs : List (D × D)} {g : D → Env} {f : D → D} (hv : env[i]? = some (some (.loc a))) (ha : S[a]? = some (.dct kvs false)) (ht : ∀ p ∈ kvs, evTg C t p.1 (wipeE env own) (S.set a (.dct kvs true)) = .ok (g p.1) (S.set a (.dct kvs true)))
    (he : ∀ p ∈ kvs, Pu C e (g p.1) (S.set a (.dct kvs true)) (f p.1)) (hl : kvs.length ≤ big) : Pu C (.comp false own t (.keys i) .nil e) env S (.lst (kvs.map fun p => f p.1)) := by
  show evE C (.comp false own t (.keys i) .nil e) env S = _
  have hlen := (List.getElem?_eq_some_iff.mp ha).1
  have h1 : evIt C (.keys i) env S = .ok (kvs.map (·.1), .dct a kvs) S := by
    simp only [evIt, hv, keysAt, ha]; rfl
  simp only [evE]
  rw [h1, R.bind_ok]
  show (loopC (.dct a kvs) _ (kvs.map (·.1)) [] (S.set a (.dct kvs true))).bind (fun ys S6 => newL false ys (S6.set a (.dct kvs false))) = _
  rw [loopC_map (f := f) (show Ck.ok (.dct a kvs) (S.set a (.dct kvs true)) = true from decide_eq_true (by rw [List.getElem?_set_self hlen])) (fun x hx => ?_) (by rw [List.length_map]; exact hl)]
  · rw [R.bind_ok, List.set_set, set_same ha]
    unfold newL
    rw [if_pos (by rw [List.length_map, List.length_map]; exact hl), List.map_map]
    rfl
  · obtain ⟨p, hp, rfl⟩ := List.mem_map.mp hx
    rw [ht p hp, R.bind_ok]
    simp only [evEs, R.bind_ok]
    rw [show evE C e (g p.1) _ = _ from he p hp, R.bind_ok]
theorem put_lenL {m : List (D × D)} {k v : D} : (put m k v).length ≤ m.length + 1 := by
  unfold put
  split <;> simp
theorem pairsOf_lenL : ∀ (xs : List D) (m : List (D × D)), (xs.foldl putP m).length ≤ m.length + xs.length
  | [], m => by simp
  | x :: r, m => by
    have := pairsOf_lenL r (putP m x)
    have h : (putP m x).length ≤ m.length + 1 := by
      unfold putP
      split
      · exact put_lenL
      · omega
    simp only [List.foldl_cons, List.length_cons]
    omega
theorem pairsOf_len0 {xs : List D} : (pairsOf xs).length ≤ xs.length := by have := pairsOf_lenL xs []; simp only [List.length_nil, Nat.zero_add] at this; exact this
theorem Pu.dcomp {k v : E} {own : List Nat} {it : It} {xs : List D} {g : D → Env} {fk fv : D → D} (hi : evIt C it env S = .ok (xs, .no) S) (ht : ∀ x ∈ xs, evTg C t x (wipeE env own) S = .ok (g x) S) (hk : ∀ x ∈ xs, Pu C k (g x) S (fk x)) (hv : ∀ x ∈ xs, Pu C v (g x) S (fv x)) (hkey : ∀ x ∈ xs, isKey (fk x) = true) (hl : xs.length ≤ big) :
    Pu C (.dcomp false own t it k v) env S (.dct ((pairsOf (xs.map fun x => .tup [fk x, fv x])).map (·.1)) ((pairsOf (xs.map fun x => .tup [fk x, fv x])).map (·.2))) := by
  show evE C (.dcomp false own t it k v) env S = _
  simp only [evE]
  rw [hi, R.bind_ok]
  show (loopC .no _ xs [] S).bind _ = _
  rw [loopC_map (f := fun x => .tup [fk x, fv x]) rfl (fun x hx => ?_) hl]
  · show newD false _ _ = _
    unfold newD
    rw [if_pos (Nat.le_trans pairsOf_len0 (by rw [List.length_map]; exact hl))]
    rfl
  · rw [ht x hx, R.bind_ok, show evE C k (g x) S = _ from hk x hx, R.bind_ok, show evE C v (g x) S = _ from hv x hx, R.bind_ok, if_pos (hkey x hx)]
theorem mapM_pairOf {f : D → D} : ∀ {xs : List D}, (∀ x ∈ xs, isKey x = true) → (xs.map fun x => D.tup [x, f x]).mapM pairOf = some (xs.map fun x => (x, f x))
  | [], _ => rfl
  | x :: r, h => by
    rw [List.map_cons, List.mapM_cons]
    have e : pairOf (.tup [x, f x]) = some (x, f x) := by
      show (if isKey x then some (x, f x) else none) = _
      rw [if_pos (h x List.mem_cons_self)]
    rw [e]
    show ((r.map fun x => D.tup [x, f x]).mapM pairOf).bind (fun ys => some ((x, f x) :: ys)) = _
    rw [mapM_pairOf fun y hy => h y (List.mem_cons_of_mem _ hy)]; rfl
theorem dict_of {P : Prog} {f : D → D} {xs : List D} (h : ∀ x ∈ xs, isKey x = true) (hl : xs.length ≤ big) : opSem P (.dict false) [.lst (xs.map fun x => .tup [x, f x])] S = .ok (.dct ((pairsOf (xs.map fun x => .tup [x, f x])).map (·.1)) ((pairsOf (xs.map fun x => .tup [x, f x])).map (·.2))) S := by
  show (match (xs.map fun x => D.tup [x, f x]).mapM pairOf with
    | some kvs => newD false (kvs.foldl (fun (m : List (D × D)) (p : D × D) => put m p.1 p.2) []) S
    | none => .bad) = _
  rw [mapM_pairOf h]
  have e : (xs.map fun x => (x, f x)).foldl (fun (m : List (D × D)) (p : D × D) => put m p.1 p.2) [] = pairsOf (xs.map fun x => .tup [x, f x]) := by
    unfold pairsOf
    rw [List.foldl_map, List.foldl_map]
    rfl
  show newD false _ S = _
  rw [e]
  unfold newD
  rw [if_pos (Nat.le_trans pairsOf_len0 (by rw [List.length_map]; exact hl))]
  rfl
theorem look_mem {k : D} : ∀ {kvs : List (D × D)}, (∃ p ∈ kvs, p.1 = k) → ∃ p ∈ kvs, p.1 = k ∧ look kvs k = some p.2
  | [], h => by obtain ⟨p, hp, _⟩ := h; cases hp
  | (j, v) :: r, h => by
    by_cases hj : j = k
    · refine ⟨(j, v), List.mem_cons_self, hj, ?_⟩
      show (if j = k then some v else look r k) = _
      rw [if_pos hj]
    · obtain ⟨p, hp, e⟩ := h
      rcases List.mem_cons.mp hp with q | hp
      · rw [q] at e; exact (hj e).elim
      · obtain ⟨q, hq, e1, e2⟩ := look_mem ⟨p, hp, e⟩
        refine ⟨q, List.mem_cons_of_mem _ hq, e1, ?_⟩
        show (if j = k then some v else look r k) = _
        rw [if_neg hj, e2]
theorem put_all {p : D × D → Prop} {kvs : List (D × D)} {k v : D} (h : ∀ q ∈ kvs, p q) (hk : p (k, v)) (hs : ∀ q ∈ kvs, q.1 = k → p (q.1, v)) : ∀ q ∈ put kvs k v, p q := by
  intro q hq
  unfold put at hq
  split at hq
  · obtain ⟨r, hr, rfl⟩ := List.mem_map.mp hq
    split
    · rename_i h1; exact hs r hr h1
    · exact h r hr
  · rcases List.mem_append.mp hq with hq | hq
    · exact h q hq
    · rw [List.mem_singleton.mp hq]; exact hk
end Sa
set_option maxRecDepth 100000
/-! k05: the deciders of the program, on plain values. -/
namespace K05
open Sa
abbrev Pv (v : D) : Bool := Gd 1000 999999999999999999 v
abbrev Pvs (v : List D) : Bool := Gds 1000 999999999999999999 v
theorem pvs_mem {xs : List D} {x : D} (h : Pvs xs = true) (hx : x ∈ xs) : Pv x = true := gds_mem.mp h x hx
theorem call_eq (W n f : Nat) (ds : List D) (S : Sto) (fn : Fn) (h : prog.fns[f]? = some fn) (hl : ds.length = fn.np) : callF prog W (n + 1) f ds S = fin fn.keep S (evSs ⟨prog, W, callF prog W n⟩ fn.body (ds.map some ++ List.replicate (fn.ns - fn.np) none) S) := by
  show (match prog.fns[f]? with
      | some fn => if ds.length = fn.np then fin fn.keep S (evSs ⟨prog, W, callF prog W n⟩ fn.body (ds.map some ++ List.replicate (fn.ns - fn.np) none) S) else .bad
      | none => .bad) = _
  rw [h]
  simp [hl]
theorem oldOk_refl (S : Sto) : oldOk S.length S S = true := by simp [oldOk]
theorem fin_und {S : Sto} {d : D} {env : Sa.Env} {keep : Bool} (h : d.und S.length = true) : fin keep S (.ok (.rt d, env) S) = .ok d S := by
  cases keep <;> simp [fin, oldOk_refl, frz, h]
/-- a def that returns a bool and changes nothing -/
theorem pure_bl {W n f : Nat} {ds : List D} {S : Sto} {fn : Fn} {b : Bool} {env : Sa.Env} (h : prog.fns[f]? = some fn) (hl : ds.length = fn.np) (hr : PuSs ⟨prog, W, callF prog W n⟩ fn.body (ds.map some ++ List.replicate (fn.ns - fn.np) none) S (.rt (.bl b), env)) : callF prog W (n + 1) f ds S = .ok (.bl b) S := by
  rw [call_eq W n f ds S fn h hl, show evSs _ _ _ _ = _ from hr]
  exact fin_und rfl
section
variable {v : D} {S : Sto}
theorem o_tup (h : Pv v = true) : opSem prog (.isin .tuple) [v] S = .ok (.bl (isTup v)) S := by
  cases v <;> first
    | rfl
    | cases h
theorem o_str (h : Pv v = true) : opSem prog (.isin .str) [v] S = .ok (.bl (isStr v)) S := by
  cases v <;> first
    | rfl
    | cases h
theorem o_int (h : Pv v = true) : opSem prog (.isin .int) [v] S = .ok (.bl (isInt v)) S := by
  cases v <;> first
    | rfl
    | cases h
theorem o_bl (h : Pv v = true) : opSem prog (.isin .bool) [v] S = .ok (.bl (isBl v)) S := by
  cases v <;> first
    | rfl
    | cases h
end
def geB (v : D) (low : Int) : Bool := match v with
  | .int i => decide (low ≤ i)
  | _ => false
def ltB (v : D) (n : Int) : Bool := match v with
  | .int i => decide (i < n)
  | _ => false
def isNum (v : D) (low : Int) : Bool := isInt v && (!isBl v && (geB v low && ltB v 1000000000000000000))
theorem is_number {W n : Nat} {v : D} {low : Int} {S : Sto} (h : Pv v = true) : callF prog W (n + 1) 0 [v, .int low] S = .ok (.bl (isNum v low)) S := by
  refine pure_bl (fn := c0) rfl rfl (PuSs.stop (PuS.ret (Pu.and (Pu.op1 (Pu.var rfl) (o_int h)) fun h1 => Pu.and (Pu.not (Pu.op1 (Pu.var rfl) (o_bl h))) fun h2 => ?_)))
  cases v <;> first
    | (cases h1; done)
    | (cases h2; done)
    | exact Pu.chain (Pu.var rfl) (Pu.var rfl) rfl fun _ => ⟨Pu.cst, rfl⟩
section
variable {S : Sto} {P : Prog} {C : Rt} {env : Sa.Env}
theorem nth_ok {xs : List D} {i : Nat} {d : D} (h : xs[i]? = some d) : opSem P .idx [.tup xs, .int (i : Int)] S = .ok d S := by
  have hi := (List.getElem?_eq_some_iff.mp h).1
  show R.lift S ((ix xs.length (i : Int)).bind fun j => xs[j]?) = _
  have e : ix xs.length (i : Int) = some i := by
    unfold ix
    rw [if_pos (by omega), if_pos (by omega)]
    simp
  rw [e, Option.bind_some, h]; rfl
theorem all_map {α : Type} (p : α → Bool) (xs : List α) : opSem P .all [.lst (xs.map fun x => D.bl (p x))] S = .ok (.bl (xs.all p)) S := by
  show bl S (((some (xs.map fun x => D.bl (p x))).bind bls).map fun bs => bs.all id) = _
  rw [Option.bind_some, bls_map]
  show bl S (some ((xs.map p).all id)) = _
  rw [List.all_map]
  rfl
end
def tItems (v : D) : List D := match v with
  | .tup xs => xs
  | _ => []
theorem tup_of {v : D} (h : isTup v = true) : v = .tup (tItems v) := by
  cases v <;> first
    | rfl
    | cases h
theorem pv_tup {xs : List D} : Pv (.tup xs) = true ↔ xs.length ≤ 1000 ∧ Pvs xs = true := by
  show (decide (xs.length ≤ 1000) && Pvs xs) = true ↔ _
  rw [Bool.and_eq_true, decide_eq_true_eq]
theorem pv_items {v : D} (h : Pv v = true) (ht : isTup v = true) : Pvs (tItems v) = true := by
  rw [tup_of ht] at h
  exact (pv_tup.mp h).2
theorem pv_len {v : D} (h : Pv v = true) : (tItems v).length ≤ big := by
  cases v with
  | tup xs => exact Nat.le_trans (pv_tup.mp h).1 (by decide)
  | _ => exact Nat.zero_le _
def isRow (v : D) (n : Int) : Bool := isTup v && (decide (((tItems v).length : Int) = n) && (tItems v).all fun x => isNum x 0)
theorem is_row {W n : Nat} {v : D} {m : Int} {S : Sto} (h : Pv v = true) : callF prog W (n + 2) 3 [v, .int m] S = .ok (.bl (isRow v m)) S := by
  have hl := pv_len h
  refine pure_bl (fn := c3) rfl rfl (PuSs.stop (PuS.ret (Pu.and (Pu.op1 (Pu.var rfl) (o_tup h)) fun h1 => ?_)))
  have hp := pv_items h h1
  rw [tup_of h1] at hp ⊢
  refine Pu.and (Pu.op2 (Pu.op1 (Pu.var rfl) rfl) (Pu.var rfl) rfl) fun h2 => ?_
  refine Pu.op1 (Pu.compG (xs := tItems v) (g := fun x => [some (.tup (tItems v)), some (.int m), some x]) (f := fun x => .bl (isNum x 0)) rfl (fun x _ => rfl) (fun x hx => ?_) hl) (all_map _ _)
  exact Pu.call (Pus.cons (Pu.var rfl) (Pus.cons Pu.cst Pus.nil)) (is_number (pvs_mem hp hx))
def at_ (v : D) (i : Nat) : D := (tItems v)[i]?.getD .non
section
variable {S : Sto} {P : Prog}
theorem at_ok {v : D} {i : Nat} (ht : isTup v = true) (h : i < (tItems v).length) : opSem P .idx [v, .int (i : Int)] S = .ok (at_ v i) S := by
  rw [tup_of ht]
  refine nth_ok ?_
  show _ = some (at_ (.tup (tItems v)) i)
  unfold at_
  show (tItems v)[i]? = some ((tItems v)[i]?.getD .non)
  rw [List.getElem?_eq_getElem h]; rfl
theorem at_pv {v : D} {i : Nat} (hp : Pv v = true) : Pv (at_ v i) = true := by
  unfold at_
  cases h : (tItems v)[i]? with
  | none => rfl
  | some d =>
    have hm := List.mem_of_getElem? h
    cases v with
    | tup xs => exact pvs_mem (pv_tup.mp hp).2 hm
    | _ => cases hm
theorem eq_str {t s : PySem.Str} (h1 : (D.str t).sh = true) (h2 : (D.str s).sh = true) : opSem P .eq [.str t, .str s] S = .ok (.bl (decide (t = s))) S := by
  show bl S (if unlike (.str t) (.str s) then some false else if (D.str t).sh && (D.str s).sh then some (D.eqv (.str t) (.str s)) else none) = _
  rw [h1, h2]
  rfl
end
theorem str_sh {x : PySem.Str} (h : Pv (.str x) = true) : (D.str x).sh = true := by
  have h : ((D.str x).sh && ((D.str (PySem.reprText x)).sh && decide ((PySem.reprText x).length ≤ 100))) = true := h
  exact (Bool.and_eq_true _ _ ▸ h).1
def eqS (v : D) (s : PySem.Str) : Bool := match v with
  | .str t => decide (t = s)
  | _ => false
theorem eqS_ok {P : Prog} {S : Sto} {v : D} {s : PySem.Str} (h : Pv v = true) (hs : isStr v = true) (h2 : (D.str s).sh = true) : opSem P .eq [v, .str s] S = .ok (.bl (eqS v s)) S := by
  cases v <;> first
    | (cases hs; done)
    | exact eq_str (str_sh h) h2
def lenB (v : D) (n : Int) : Bool := decide (((tItems v).length : Int) = n)
theorem len_ok {P : Prog} {S : Sto} {v : D} (ht : isTup v = true) : opSem P .len [v] S = .ok (.int (tItems v).length) S := by
  rw [tup_of ht]; rfl
theorem lenB_lt {v : D} {n i : Nat} (h : lenB v (n : Int) = true) (hi : i < n) : i < (tItems v).length := by
  unfold lenB at h
  have := of_decide_eq_true h
  omega
theorem sh_name : (D.str "name").sh = true := by decide +kernel
def hasName (v : D) : Bool := isTup v && (lenB v 2 && (isStr (at_ v 0) && (eqS (at_ v 0) "name" && isNum (at_ v 1) 0)))
theorem has_name_form {W n : Nat} {v : D} {S : Sto} (h : Pv v = true) : callF prog W (n + 2) 4 [v] S = .ok (.bl (hasName v)) S := by
  refine pure_bl (fn := c4) rfl rfl (PuSs.stop (PuS.ret (Pu.and (Pu.op1 (Pu.var rfl) (o_tup h)) fun h1 => ?_)))
  refine Pu.and (Pu.op2 (Pu.op1 (Pu.var rfl) (len_ok h1)) Pu.cst rfl) fun h2 => ?_
  have a0 : ∀ {env}, env[0]? = some (some v) → Pu ⟨prog, W, callF prog W (n + 1)⟩ (.op .idx (.cons (.var 0) (.cons (.cst (.int 0)) .nil))) env S (at_ v 0) := fun he => Pu.op2 (Pu.var he) Pu.cst (at_ok (i := 0) h1 (lenB_lt (n := 2) h2 (by decide)))
  have a1 : ∀ {env}, env[0]? = some (some v) → Pu ⟨prog, W, callF prog W (n + 1)⟩ (.op .idx (.cons (.var 0) (.cons (.cst (.int 1)) .nil))) env S (at_ v 1) := fun he => Pu.op2 (Pu.var he) Pu.cst (at_ok (i := 1) h1 (lenB_lt (n := 2) h2 (by decide)))
  refine Pu.and (Pu.op1 (a0 rfl) (o_str (at_pv h))) fun h3 => ?_
  refine Pu.and (Pu.op2 (a0 rfl) Pu.cst (eqS_ok (at_pv h) h3 sh_name)) fun h4 => ?_
  exact Pu.call (Pus.cons (a1 rfl) (Pus.cons Pu.cst Pus.nil)) (is_number (at_pv h))
def areNames (v : D) : Bool := isTup v && (tItems v).all hasName
theorem are_names {W n : Nat} {v : D} {S : Sto} (h : Pv v = true) : callF prog W (n + 3) 6 [v] S = .ok (.bl (areNames v)) S := by
  have hl := pv_len h
  refine pure_bl (fn := c6) rfl rfl (PuSs.stop (PuS.ret (Pu.and (Pu.op1 (Pu.var rfl) (o_tup h)) fun h1 => ?_)))
  have hp := pv_items h h1
  rw [tup_of h1] at hp ⊢
  refine Pu.op1 (Pu.compG (xs := tItems v) (g := fun x => [some (.tup (tItems v)), some x]) (f := fun x => .bl (hasName x)) rfl (fun x _ => rfl) (fun x hx => ?_) hl) (all_map _ _)
  exact Pu.call (Pus.cons (Pu.var rfl) Pus.nil) (has_name_form (pvs_mem hp hx))
theorem pairUp_mem : ∀ {xs ys : List D} {x : D}, x ∈ pairUp xs ys → ∃ a b, x = .tup [a, b] ∧ a ∈ xs ∧ b ∈ ys
  | [], _, x, h => by simp [pairUp] at h
  | _ :: _, [], x, h => by simp [pairUp] at h
  | a :: r, b :: s, x, h => by
    rcases List.mem_cons.mp (show x ∈ .tup [a, b] :: pairUp r s from h) with e | e
    · exact ⟨a, b, e, List.mem_cons_self, List.mem_cons_self⟩
    · obtain ⟨c, d, e1, e2, e3⟩ := pairUp_mem e
      exact ⟨c, d, e1, List.mem_cons_of_mem _ e2, List.mem_cons_of_mem _ e3⟩
theorem pairUp_len' : ∀ (xs ys : List D), (pairUp xs ys).length ≤ xs.length
  | [], _ => by simp [pairUp]
  | _ :: _, [] => by simp [pairUp]
  | a :: r, b :: s => by simpa [pairUp] using pairUp_len' r s
def ltN (x y : D) : Bool := match x, y with
  | .int a, .int b => decide (a < b)
  | _, _ => false
def pr (x : D) (i : Nat) : D := at_ x i
def isRising (v : D) : Bool := areNames v && (pairUp (tItems v) ((tItems v).drop 1)).all fun x => ltN (at_ (at_ x 0) 1) (at_ (at_ x 1) 1)
theorem name_int {x : D} (h : hasName x = true) : isTup x = true ∧ lenB x 2 = true ∧ ∃ i, at_ x 1 = .int i ∧ 0 ≤ i := by
  unfold hasName at h
  simp only [Bool.and_eq_true] at h
  obtain ⟨h1, h2, _, _, h5⟩ := h
  refine ⟨h1, h2, ?_⟩
  unfold isNum at h5
  simp only [Bool.and_eq_true, Bool.not_eq_true'] at h5
  obtain ⟨q1, q2, q3, _⟩ := h5
  cases hx : at_ x 1 <;> rw [hx] at q1 q2 q3 <;> first
    | (cases q1; done)
    | (cases q2; done)
    | exact ⟨_, rfl, of_decide_eq_true q3⟩
theorem cut1 (xs : List D) : cut xs (some 1) none = xs.drop 1 := by
  unfold cut cutAt
  simp only []
  cases xs with
  | nil => rfl
  | cons a r =>
    have : min (Int.toNat 1) (a :: r).length = 1 := by simp
    rw [if_neg (by decide), this]
    simp
theorem are_rising {W n : Nat} {v : D} {S : Sto} (h : Pv v = true) : callF prog W (n + 3) 5 [v] S = .ok (.bl (isRising v)) S := by
  have hl := pv_len h
  have hg : ∀ {r : Sms} {w : Fl × Sa.Env} {b : Bool}, (isTup v = true → (tItems v).all hasName = true → PuSs ⟨prog, W, callF prog W (n + 2)⟩ r [some v, none, none, none] S (.rt (.bl b), [some v, none, none, none])) → b = (b && areNames v) → 
      PuSs ⟨prog, W, callF prog W (n + 2)⟩ (.cons (.ite (.or (.not (.op (.isin .tuple) (.cons (.var 0) .nil))) (.not (.op .all (.cons (.comp false [3] (.nm 3) (.of (.var 0)) .nil (.call 4 (.cons (.var 3) .nil))) .nil)))) (.cons (.ret (.cst (.bl false))) .nil) .nil) r) [some v, none, none, none] S (.rt (.bl b), [some v, none, none, none]) := fun {r w b} hr hb => by
    refine PuSs.guard (x := (!isTup v || !(tItems v).all hasName)) (Pu.or (Pu.not (Pu.op1 (Pu.var rfl) (o_tup h))) fun h1 => Pu.not ?_) (fun hx => ?_) fun hx => ?_
    · have h1 : isTup v = true := by simpa using h1
      have hp := pv_items h h1
      rw [tup_of h1] at hp ⊢
      refine Pu.op1 (Pu.compG (xs := tItems v) (g := fun x => [some (.tup (tItems v)), none, none, some x]) (f := fun x => .bl (hasName x)) rfl (fun x _ => rfl) (fun x hx => ?_) hl) (all_map _ _)
      exact Pu.call (Pus.cons (Pu.var rfl) Pus.nil) (has_name_form (pvs_mem hp hx))
    · have : areNames v = false := by
        unfold areNames
        generalize isTup v = q at hx ⊢
        generalize (tItems v).all hasName = r at hx ⊢
        revert hx
        cases q <;> cases r <;> decide
      rw [this, Bool.and_false] at hb
      subst hb
      exact ⟨PuSs.stop (PuS.ret Pu.cst), by simp⟩
    · simp only [Bool.or_eq_false_iff, Bool.not_eq_false'] at hx
      exact hr hx.1 hx.2
  refine pure_bl (fn := c5) (env := [some v, none, none, none]) rfl rfl (hg (w := (.nx, [])) (fun h1 h2 => ?_) (by unfold isRising; cases areNames v <;> simp))
  have e : isRising v = (pairUp (tItems v) ((tItems v).drop 1)).all fun x => ltN (at_ (at_ x 0) 1) (at_ (at_ x 1) 1) := by
    unfold isRising areNames
    rw [h1, h2]; rfl
  rw [e]
  rw [tup_of h1]
  have hz : evIt ⟨prog, W, callF prog W (n + 2)⟩ (.zip (.var 0) (.op (.slc true false) (.cons (.var 0) (.cons (.cst (.int 1)) .nil)))) [some (.tup (tItems v)), none, none, none] S = .ok (pairUp (tItems v) ((tItems v).drop 1), .no) S := by
    have e1 : Pu ⟨prog, W, callF prog W (n + 2)⟩ (.op (.slc true false) (.cons (.var 0) (.cons (.cst (.int 1)) .nil))) [some (.tup (tItems v)), none, none, none] S (.tup ((tItems v).drop 1)) := Pu.op2 (Pu.var rfl) Pu.cst (by rw [← cut1]; rfl)
    simp only [evIt]
    rw [show evE _ (.var 0) _ S = .ok (.tup (tItems v)) S from rfl, R.bind_ok, show evE _ _ _ S = _ from e1, R.bind_ok]
  refine PuSs.stop (PuS.ret (Pu.op1 (Pu.compG (g := fun x => [some (.tup (tItems v)), some (at_ x 0), some (at_ x 1), none]) (f := fun x => .bl (ltN (at_ (at_ x 0) 1) (at_ (at_ x 1) 1))) hz (fun x hx => ?_) (fun x hx => ?_) (Nat.le_trans (pairUp_len' _ _) hl)) (all_map _ _)))
  · obtain ⟨a, b, rfl, _, _⟩ := pairUp_mem hx
    rfl
  · obtain ⟨a, b, rfl, ha, hb⟩ := pairUp_mem hx
    rw [List.all_eq_true] at h2
    obtain ⟨a1, a2, i, ai, _⟩ := name_int (h2 a ha)
    obtain ⟨b1, b2, j, bj, _⟩ := name_int (h2 b (List.mem_of_mem_drop hb))
    refine Pu.op2 (Pu.op2 (Pu.var rfl) Pu.cst (at_ok (i := 1) a1 (lenB_lt (n := 2) a2 (by decide)))) (Pu.op2 (Pu.var rfl) Pu.cst (at_ok (i := 1) b1 (lenB_lt (n := 2) b2 (by decide)))) ?_
    show opSem prog .lt [at_ a 1, at_ b 1] S = .ok (.bl (ltN (at_ a 1) (at_ b 1))) S
    rw [ai, bj]; rfl
end K05
set_option maxRecDepth 100000
namespace Sa
/-! defs that return a bool and change nothing -/
variable {C : Rt} {env env' : Env} {S : Sto} {a c : E} {d : D} {b b1 b2 x : Bool} {r s1 : Sms} {t : Tg}
def Rb (C : Rt) (ss : Sms) (env : Env) (S : Sto) (b : Bool) : Prop := ∃ env', evSs C ss env S = .ok (.rt (.bl b), env') S
theorem Rb.ret (h : Pu C a env S (.bl b)) : Rb C (.cons (.ret a) r) env S b := ⟨env, PuSs.stop (PuS.ret h)⟩
theorem Rb.guard (h : Pu C c env S (.bl x)) (hr : x = false → Rb C r env S b) : Rb C (.cons (.ite c (.cons (.ret (.cst (.bl false))) .nil) .nil) r) env S (!x && b) := by
  cases x with
  | true => exact ⟨env, PuSs.guard h (fun _ => ⟨PuSs.stop (PuS.ret Pu.cst), nofun⟩) nofun⟩
  | false =>
    obtain ⟨env', e⟩ := hr rfl
    exact ⟨env', PuSs.guard h nofun fun _ => e⟩
theorem Rb.ite (h : Pu C c env S (.bl x)) (h1 : x = true → Rb C s1 env S b1) (hr : x = false → Rb C r env S b2) : Rb C (.cons (.ite c s1 .nil) r) env S (if x then b1 else b2) := by
  cases x with
  | true =>
    obtain ⟨env', e⟩ := h1 rfl
    exact ⟨env', PuSs.guard h (fun _ => ⟨e, nofun⟩) nofun⟩
  | false =>
    obtain ⟨env', e⟩ := hr rfl
    exact ⟨env', PuSs.guard h nofun fun _ => e⟩
theorem Rb.asg (h : Pu C a env S d) (ht : evTg C t d env S = .ok env' S) (hr : Rb C r env' S b) : Rb C (.cons (.asg t a) r) env S b := by
  obtain ⟨env', e⟩ := hr
  exact ⟨env', PuSs.cons (PuS.asg h ht) e⟩
theorem Rb.expr (h : Pu C a env S d) (hr : Rb C r env S b) : Rb C (.cons (.expr a) r) env S b := by
  obtain ⟨env', e⟩ := hr
  exact ⟨env', PuSs.cons (PuS.expr h) e⟩
end Sa
namespace K05
open Sa
variable {W n : Nat} {S : Sto} {v : D}
theorem Rb.callF {f : Nat} {ds : List D} {fn : Fn} {b b' : Bool} {env : Sa.Env} (h : prog.fns[f]? = some fn) (hl : ds.length = fn.np) (hE : ds.map some ++ List.replicate (fn.ns - fn.np) none = env) (hr : Rb ⟨prog, W, callF prog W n⟩ fn.body env S b) (hb : b = b') : callF prog W (n + 1) f ds S = .ok (.bl b') S := by
  subst hE; subst hb
  obtain ⟨env', e⟩ := hr
  exact pure_bl h hl e
theorem ne_len {ht : isTup v = true} {k : Int} : opSem prog .ne [.int (tItems v).length, .int k] S = .ok (.bl (!lenB v k)) S := rfl
def isEnd (v : D) (w : PySem.Str) (m : Int) : Bool := isTup v && (lenB v 2 && (isStr (at_ v 0) && (eqS (at_ v 0) w && (isNum (at_ v 1) 0 && ltB (at_ v 1) m))))
theorem lt_ok {P : Prog} {m : Int} {low : Int} (h : isNum v low = true) : opSem P .lt [v, .int m] S = .ok (.bl (ltB v m)) S := by
  cases v <;> first
    | (cases h; done)
    | rfl
theorem is_end {w : PySem.Str} {m : Int} (hw : (D.str w).sh = true) (h : Pv v = true) : callF prog W (n + 2) 7 [v, .str w, .int m] S = .ok (.bl (isEnd v w m)) S := by
  refine Rb.callF (fn := c7) rfl rfl rfl (Rb.guard (b := eqS (at_ v 0) w && (isNum (at_ v 1) 0 && ltB (at_ v 1) m)) (Pu.or (Pu.not (Pu.op1 (Pu.var rfl) (o_tup h))) fun h1 => Pu.or (Pu.op2 (Pu.op1 (Pu.var rfl) (len_ok (by simpa using h1))) Pu.cst (ne_len (v := v) (ht := by simpa using h1))) fun h2 => Pu.not (Pu.op1 (Pu.op2 (Pu.var rfl) Pu.cst (at_ok (i := 0) (by simpa using h1) (lenB_lt (n := 2) (by simpa using h2) (by decide)))) (o_str (at_pv h)))) fun h3 => ?_) ?_
  · simp only [Bool.or_eq_false_iff, Bool.not_eq_false'] at h3
    obtain ⟨h1, h2, h3⟩ := h3
    have a1 := at_ok (P := prog) (S := S) (i := 1) h1 (lenB_lt (n := 2) h2 (by decide))
    refine Rb.ret (Pu.and (Pu.op2 (Pu.op2 (Pu.var rfl) Pu.cst (at_ok (i := 0) h1 (lenB_lt (n := 2) h2 (by decide)))) (Pu.var rfl) (eqS_ok (at_pv h) h3 hw)) fun _ => Pu.and (Pu.call (Pus.cons (Pu.op2 (Pu.var rfl) Pu.cst a1) (Pus.cons Pu.cst Pus.nil)) (is_number (at_pv h))) fun h5 => ?_)
    exact Pu.op2 (Pu.op2 (Pu.var rfl) Pu.cst a1) (Pu.var rfl) (lt_ok h5)
  · unfold isEnd
    simp [Bool.and_assoc]
def isRound (v : D) (k : Int) : Bool := lenB v k && (isNum (at_ v 1) 1 && isNum (at_ v 2) 1)
theorem is_round {k : Nat} (hk : 3 ≤ k) (ht : isTup v = true) (h : Pv v = true) : callF prog W (n + 2) 8 [v, .int (k : Int)] S = .ok (.bl (isRound v (k : Int))) S := by
  refine Rb.callF (fn := c8) rfl rfl rfl (Rb.ret (Pu.and (Pu.op2 (Pu.op1 (Pu.var rfl) (len_ok ht)) (Pu.var rfl) rfl) fun h1 => ?_)) rfl
  have hl : ∀ {i}, i < k → i < (tItems v).length := fun hi => lenB_lt (n := k) h1 hi
  exact Pu.and (Pu.call (Pus.cons (Pu.op2 (Pu.var rfl) Pu.cst (at_ok (i := 1) ht (hl (by omega)))) (Pus.cons Pu.cst Pus.nil)) (is_number (at_pv h))) fun h5 => Pu.call (Pus.cons (Pu.op2 (Pu.var rfl) Pu.cst (at_ok (i := 2) ht (hl (by omega)))) (Pus.cons Pu.cst Pus.nil)) (is_number (at_pv h))
def ltLen (v : D) (k : Int) : Bool := decide (((tItems v).length : Int) < k)
theorem ltLen_lt {k i : Nat} (h : ltLen v (k : Int) = false) (hi : i < k) : i < (tItems v).length := by
  unfold ltLen at h
  have := of_decide_eq_false h
  omega
def handBody (m : Int) (v : D) : Bool := !(!isTup v || (ltLen v 4 || !isStr (at_ v 0))) && (if eqS (at_ v 0) "ask" then isRound v 5 && (isRow (at_ v 3) m && isRising (at_ v 4)) else eqS (at_ v 0) "keep" && (isRound v 4 && areNames (at_ v 3)))
theorem sh_ask : (D.str "ask").sh = true := by decide +kernel
theorem sh_keep : (D.str "keep").sh = true := by decide +kernel
theorem sh_have : (D.str "have").sh = true := by decide +kernel
theorem sh_kept : (D.str "kept").sh = true := by decide +kernel
theorem sh_hand : (D.str "hand").sh = true := by decide +kernel
theorem sh_house : (D.str "house").sh = true := by decide +kernel
theorem hand_body {m : Int} {ss : List D} (h : Pv v = true) : callF prog W (n + 4) 9 [.tup (.int m :: ss), v] S = .ok (.bl (handBody m v)) S := by
  refine Rb.callF (fn := c9) rfl rfl rfl (Rb.guard (Pu.or (Pu.not (Pu.op1 (Pu.var rfl) (o_tup h))) fun h1 => Pu.or (Pu.op2 (z := .bl (ltLen v 4)) (Pu.op1 (Pu.var rfl) (len_ok (by simpa using h1))) Pu.cst rfl) fun h2 => Pu.not (Pu.op1 (Pu.op2 (Pu.var rfl) Pu.cst (at_ok (i := 0) (by simpa using h1) (ltLen_lt (k := 4) h2 (by decide)))) (o_str (at_pv h)))) fun h3 => ?_) rfl
  simp only [Bool.or_eq_false_iff, Bool.not_eq_false'] at h3
  obtain ⟨h1, h2, h3⟩ := h3
  have hl : ∀ {i}, i < 4 → i < (tItems v).length := fun hi => ltLen_lt (k := 4) h2 hi
  refine Rb.ite (Pu.op2 (Pu.op2 (Pu.var rfl) Pu.cst (at_ok (i := 0) h1 (hl (by decide)))) Pu.cst (eqS_ok (at_pv h) h3 sh_ask)) (fun _ => ?_) fun _ => ?_
  · refine Rb.ret (Pu.and (Pu.call (Pus.cons (Pu.var rfl) (Pus.cons Pu.cst Pus.nil)) (is_round (k := 5) (by decide) h1 h)) fun h4 => Pu.and (Pu.call (Pus.cons (Pu.op2 (Pu.var rfl) Pu.cst (at_ok (i := 3) h1 (hl (by decide)))) (Pus.cons (Pu.op2 (z := .int m) (Pu.var rfl) Pu.cst (o_idxT (by decide) rfl)) Pus.nil)) (is_row (at_pv h))) fun _ => Pu.call (Pus.cons (Pu.op2 (Pu.var rfl) Pu.cst (at_ok (i := 4) h1 ?_)) Pus.nil) (are_rising (at_pv h)))
    unfold isRound at h4
    rw [Bool.and_eq_true] at h4
    exact lenB_lt (n := 5) h4.1 (by decide)
  · exact Rb.ret (Pu.and (Pu.op2 (Pu.op2 (Pu.var rfl) Pu.cst (at_ok (i := 0) h1 (hl (by decide)))) Pu.cst (eqS_ok (at_pv h) h3 sh_keep)) fun _ => Pu.and (Pu.call (Pus.cons (Pu.var rfl) (Pus.cons Pu.cst Pus.nil)) (is_round (k := 4) (by decide) h1 h)) fun h4 => Pu.call (Pus.cons (Pu.op2 (Pu.var rfl) Pu.cst (at_ok (i := 3) h1 (hl (by decide)))) Pus.nil) (are_names (at_pv h)))
def houseBody (v : D) : Bool := !(!isTup v || (ltLen v 4 || !isStr (at_ v 0))) && (if eqS (at_ v 0) "have" then isRound v 5 && (areNames (at_ v 3) && hasName (at_ v 4)) else eqS (at_ v 0) "kept" && (isRound v 4 && hasName (at_ v 3)))
theorem house_body (h : Pv v = true) : callF prog W (n + 4) 10 [v] S = .ok (.bl (houseBody v)) S := by
  refine Rb.callF (fn := c10) rfl rfl rfl (Rb.guard (Pu.or (Pu.not (Pu.op1 (Pu.var rfl) (o_tup h))) fun h1 => Pu.or (Pu.op2 (z := .bl (ltLen v 4)) (Pu.op1 (Pu.var rfl) (len_ok (by simpa using h1))) Pu.cst rfl) fun h2 => Pu.not (Pu.op1 (Pu.op2 (Pu.var rfl) Pu.cst (at_ok (i := 0) (by simpa using h1) (ltLen_lt (k := 4) h2 (by decide)))) (o_str (at_pv h)))) fun h3 => ?_) rfl
  simp only [Bool.or_eq_false_iff, Bool.not_eq_false'] at h3
  obtain ⟨h1, h2, h3⟩ := h3
  have hl : ∀ {i}, i < 4 → i < (tItems v).length := fun hi => ltLen_lt (k := 4) h2 hi
  refine Rb.ite (Pu.op2 (Pu.op2 (Pu.var rfl) Pu.cst (at_ok (i := 0) h1 (hl (by decide)))) Pu.cst (eqS_ok (at_pv h) h3 sh_have)) (fun _ => ?_) fun _ => ?_
  · refine Rb.ret (Pu.and (Pu.call (Pus.cons (Pu.var rfl) (Pus.cons Pu.cst Pus.nil)) (is_round (k := 5) (by decide) h1 h)) fun h4 => Pu.and (Pu.call (Pus.cons (Pu.op2 (Pu.var rfl) Pu.cst (at_ok (i := 3) h1 (hl (by decide)))) Pus.nil) (are_names (at_pv h))) fun _ => Pu.call (Pus.cons (Pu.op2 (Pu.var rfl) Pu.cst (at_ok (i := 4) h1 ?_)) Pus.nil) (has_name_form (at_pv h)))
    unfold isRound at h4
    rw [Bool.and_eq_true] at h4
    exact lenB_lt (n := 5) h4.1 (by decide)
  · exact Rb.ret (Pu.and (Pu.op2 (Pu.op2 (Pu.var rfl) Pu.cst (at_ok (i := 0) h1 (hl (by decide)))) Pu.cst (eqS_ok (at_pv h) h3 sh_kept)) fun _ => Pu.and (Pu.call (Pus.cons (Pu.var rfl) (Pus.cons Pu.cst Pus.nil)) (is_round (k := 4) (by decide) h1 h)) fun h4 => Pu.call (Pus.cons (Pu.op2 (Pu.var rfl) Pu.cst (at_ok (i := 3) h1 (hl (by decide)))) Pus.nil) (has_name_form (at_pv h)))
def rightLetter (m1 m2 : Int) (v : D) : Bool := !(!isTup v || !lenB v 3) && (if isEnd (at_ v 0) "hand" m1 then isEnd (at_ v 1) "house" m2 && handBody m1 (at_ v 2) else isEnd (at_ v 0) "house" m2 && (isEnd (at_ v 1) "hand" m1 && houseBody (at_ v 2)))
theorem three {v : D} (h : isTup v = true) (hl : lenB v 3 = true) : v = .tup [at_ v 0, at_ v 1, at_ v 2] := by
  cases v with
  | tup xs =>
    unfold lenB at hl
    have hl : (xs.length : Int) = 3 := of_decide_eq_true hl
    match xs, hl with
    | [a, b, c], _ => rfl
    | [], h => simp at h
    | [_], h => simp at h
    | [_, _], h => simp at h
    | _ :: _ :: _ :: _ :: _, h => simp at h; omega
  | _ => cases h
theorem right_letter {m1 m2 m3 : Int} (h : Pv v = true) : callF prog W (n + 5) 11 [.tup [.int m1, .int m2, .int m3], v] S = .ok (.bl (rightLetter m1 m2 v)) S := by
  refine Rb.callF (fn := c11) rfl rfl rfl (Rb.guard (Pu.or (Pu.not (Pu.op1 (Pu.var rfl) (o_tup h))) fun h1 => Pu.op2 (Pu.op1 (Pu.var rfl) (len_ok (by simpa using h1))) Pu.cst (ne_len (v := v) (ht := by simpa using h1))) fun h3 => ?_) rfl
  simp only [Bool.or_eq_false_iff, Bool.not_eq_false'] at h3
  obtain ⟨h1, h2⟩ := h3
  have e := three h1 h2
  refine Rb.asg (Pu.var rfl) (env' := [some (.tup [.int m1, .int m2, .int m3]), some v, some (at_ v 0), some (at_ v 1), some (at_ v 2)]) (by rw [e]; rfl) ?_
  refine Rb.ite (Pu.call (Pus.cons (Pu.var rfl) (Pus.cons Pu.cst (Pus.cons (Pu.op2 (z := .int m1) (Pu.var rfl) Pu.cst (o_idxT (by decide) rfl)) Pus.nil))) (is_end sh_hand (at_pv h))) (fun _ => ?_) fun _ => ?_
  · exact Rb.ret (Pu.and (Pu.call (Pus.cons (Pu.var rfl) (Pus.cons Pu.cst (Pus.cons (Pu.op2 (z := .int m2) (Pu.var rfl) Pu.cst (o_idxT (by decide) rfl)) Pus.nil))) (is_end sh_house (at_pv h))) fun _ => Pu.call (Pus.cons (Pu.var rfl) (Pus.cons (Pu.var rfl) Pus.nil)) (hand_body (at_pv h)))
  · exact Rb.ret (Pu.and (Pu.call (Pus.cons (Pu.var rfl) (Pus.cons Pu.cst (Pus.cons (Pu.op2 (z := .int m2) (Pu.var rfl) Pu.cst (o_idxT (by decide) rfl)) Pus.nil))) (is_end sh_house (at_pv h))) fun _ => Pu.and (Pu.call (Pus.cons (Pu.var rfl) (Pus.cons Pu.cst (Pus.cons (Pu.op2 (z := .int m1) (Pu.var rfl) Pu.cst (o_idxT (by decide) rfl)) Pus.nil))) (is_end sh_hand (at_pv h))) fun _ => Pu.call (Pus.cons (Pu.var rfl) Pus.nil) (house_body (at_pv h)))
end K05
set_option maxRecDepth 100000
namespace Sa
/-! errors -/
variable {C : Rt} {env env' : Env} {S S' : Sto} {a c : E} {d e : D} {b x : Bool} {r s1 : Sms} {t : Tg} {es : Es} {ds : List D}
/-- ends in an error -/
def Re (C : Rt) (ss : Sms) (env : Env) (S : Sto) (e : D) : Prop := evSs C ss env S = .err e S
def Ee (C : Rt) (a : E) (env : Env) (S : Sto) (e : D) : Prop := evE C a env S = .err e S
theorem Re.raise {k : Nat} {cl : Cl} (h : Pus C es env S ds) (hc : C.P.cls[k]? = some cl) (hf : cl.flds = []) : Re C (.cons (.raise k es) r) env S (.exc k []) := by
  show evSs C (.cons (.raise k es) r) env S = _
  simp only [evSs, evS]
  rw [show evEs C es env S = _ from h, R.bind_ok]
  simp [hc, hf]
theorem Re.when (h : Pu C c env S (.bl true)) (h1 : Re C s1 env S e) : Re C (.cons (.ite c s1 .nil) r) env S e := by
  show evSs C (.cons (.ite c s1 .nil) r) env S = _
  simp only [evSs, evS]
  rw [show evE C c env S = _ from h, R.bind_ok]
  show (evSs C s1 env S).bind _ = _
  rw [show evSs C s1 env S = _ from h1, R.bind_err]
theorem PuSs.pass {w : Fl × Env} (h : Pu C c env S (.bl false)) (h1 : PuSs C r env S w) : PuSs C (.cons (.ite c s1 .nil) r) env S w := PuSs.guard h nofun fun _ => h1
theorem PuSs.passB {w : Fl × Env} (h : Pu C c env S (.bl x)) (hx : x = false) (h1 : PuSs C r env S w) : PuSs C (.cons (.ite c s1 .nil) r) env S w := PuSs.pass (hx ▸ h) h1
theorem Re.whenB (h : Pu C c env S (.bl x)) (hx : x = true) (h1 : Re C s1 env S e) : Re C (.cons (.ite c s1 .nil) r) env S e := Re.when (hx ▸ h) h1
theorem Re.pass (h : Pu C c env S (.bl false)) (h1 : Re C r env S e) : Re C (.cons (.ite c s1 .nil) r) env S e := by
  show evSs C (.cons (.ite c s1 .nil) r) env S = _
  simp only [evSs, evS]
  rw [show evE C c env S = _ from h, R.bind_ok]
  exact h1
theorem Ee.call {f : Nat} (h : Pus C es env S ds) (hc : C.call f ds S = .err e S) : Ee C (.call f es) env S e := by
  show evE C (.call f es) env S = _
  simp only [evE]
  rw [show evEs C es env S = _ from h, R.bind_ok, hc]
theorem Re.expr (h : Ee C a env S e) : Re C (.cons (.expr a) r) env S e := by
  show evSs C (.cons (.expr a) r) env S = _
  simp only [evSs, evS]
  rw [show evE C a env S = _ from h]; rfl
theorem fin_err {keep : Bool} : fin keep S (.err e S) = .err e S := by
  cases keep <;> simp [fin, oldOk]
theorem callF_err {P : Prog} {W n f : Nat} {fn : Fn} (h : P.fns[f]? = some fn) (hl : ds.length = fn.np) (hE : ds.map some ++ List.replicate (fn.ns - fn.np) none = env) (hr : Re ⟨P, W, callF P W n⟩ fn.body env S e) : callF P W (n + 1) f ds S = .err e S := by
  subst hE
  show (match P.fns[f]? with
      | some fn => if ds.length = fn.np then fin fn.keep S (evSs ⟨P, W, callF P W n⟩ fn.body (ds.map some ++ List.replicate (fn.ns - fn.np) none) S) else .bad
      | none => .bad) = _
  rw [h]
  simp only [hl, if_true]
  rw [show evSs _ _ _ _ = _ from hr, fin_err]
theorem callF_pu {P : Prog} {W n f : Nat} {fn : Fn} {fl : Fl} (h : P.fns[f]? = some fn) (hl : ds.length = fn.np) (hE : ds.map some ++ List.replicate (fn.ns - fn.np) none = env) (hr : PuSs ⟨P, W, callF P W n⟩ fn.body env S (fl, env')) (hf : fl = .nx ∨ ∃ d, fl = .rt d) (hd : (vRt fl).und S.length = true) : callF P W (n + 1) f ds S = .ok (vRt fl) S := by
  subst hE
  show (match P.fns[f]? with
      | some fn => if ds.length = fn.np then fin fn.keep S (evSs ⟨P, W, callF P W n⟩ fn.body (ds.map some ++ List.replicate (fn.ns - fn.np) none) S) else .bad
      | none => .bad) = _
  rw [h]
  simp only [hl, if_true]
  rw [show evSs _ _ _ _ = _ from hr]
  have ho : oldOk S.length S S = true := by simp [oldOk]
  rcases hf with rfl | ⟨d, rfl⟩
  · cases fn.keep <;> simp [fin, ho, frz, vRt, D.und]
  · have hd : d.und S.length = true := hd
    cases fn.keep <;> simp [fin, ho, frz, hd, vRt]
end Sa
namespace K05
open Sa
variable {W n : Nat} {S : Sto} {v : D}
def leB (x y : D) : Bool := match x, y with
  | .int a, .int b => decide (a ≤ b)
  | _, _ => false
def isStore (v : D) : Bool := !(!isTup v || (!lenB v 3 || !((tItems v).all fun x => isNum x 0))) && match at_ v 0, at_ v 1, at_ v 2 with
  | .int h, .int m, .int l => (decide (1 ≤ h) && decide (h ≤ 6)) && (decide (3 * l + 1 ≤ m) && decide (m ≤ 13))
  | _, _, _ => false
theorem num_int {v : D} {k : Int} (h : isNum v k = true) : ∃ i, v = .int i ∧ k ≤ i := by
  unfold isNum at h
  simp only [Bool.and_eq_true, Bool.not_eq_true'] at h
  obtain ⟨q1, q2, q3, _⟩ := h
  cases v <;> first
    | (cases q1; done)
    | (cases q2; done)
    | exact ⟨_, rfl, of_decide_eq_true q3⟩
theorem is_store (h : Pv v = true) : callF prog W (n + 2) 1 [v] S = .ok (.bl (isStore v)) S := by
  have hl := pv_len h
  refine Rb.callF (fn := c1) rfl rfl rfl (Rb.guard (Pu.or (Pu.not (Pu.op1 (Pu.var rfl) (o_tup h))) fun h1 => Pu.or (Pu.op2 (Pu.op1 (Pu.var rfl) (len_ok (by simpa using h1))) Pu.cst (ne_len (v := v) (ht := by simpa using h1))) fun h2 => Pu.not ?_) fun h3 => ?_) rfl
  · have h1 : isTup v = true := by simpa using h1
    have hp := pv_items h h1
    refine Pu.op1 (Pu.compG (xs := tItems v) (g := fun x => [some v, none, none, none, some x]) (f := fun x => .bl (isNum x 0)) ?_ (fun x _ => rfl) (fun x hx => ?_) hl) (all_map _ _)
    · rw [tup_of h1]; rfl
    · exact Pu.call (Pus.cons (Pu.var rfl) (Pus.cons Pu.cst Pus.nil)) (is_number (pvs_mem hp hx))
  · simp only [Bool.or_eq_false_iff, Bool.not_eq_false'] at h3
    obtain ⟨h1, h2, h3⟩ := h3
    have e := three h1 h2
    rw [e] at h3
    have h3 : (isNum (at_ v 0) 0 && (isNum (at_ v 1) 0 && (isNum (at_ v 2) 0 && true))) = true := h3
    simp only [Bool.and_eq_true] at h3
    obtain ⟨q1, q2, q3, _⟩ := h3
    obtain ⟨i, ei, _⟩ := num_int q1
    obtain ⟨j, ej, _⟩ := num_int q2
    obtain ⟨k, ek, _⟩ := num_int q3
    rw [ei, ej, ek] at e ⊢
    refine Rb.asg (Pu.var rfl) (env' := [some v, some (.int i), some (.int j), some (.int k), none]) (by rw [e]; rfl) ?_
    exact Rb.ret (Pu.and (Pu.chain Pu.cst (Pu.var rfl) rfl fun _ => ⟨Pu.cst, rfl⟩) fun _ => Pu.chain (Pu.op2 (Pu.op2 Pu.cst (Pu.var rfl) (o_mul rfl)) Pu.cst rfl) (Pu.var rfl) rfl fun _ => ⟨Pu.cst, rfl⟩)
theorem need_store_ok (h : Pv v = true) (hs : isStore v = true) : callF prog W (n + 3) 2 [v] S = .ok .non S :=
  callF_pu (fn := c2) rfl rfl rfl (PuSs.passB (Pu.not (Pu.call (Pus.cons (Pu.var rfl) Pus.nil) (is_store h))) (by rw [hs]; rfl) PuSs.nil) (.inl rfl) rfl
theorem need_store_err (h : Pv v = true) (hs : isStore v = false) : callF prog W (n + 3) 2 [v] S = .err (.exc 7 []) S :=
  callF_err (fn := c2) rfl rfl rfl (Re.whenB (Pu.not (Pu.call (Pus.cons (Pu.var rfl) Pus.nil) (is_store h))) (by rw [hs]; rfl) (Re.raise (Pus.cons Pu.cst Pus.nil) rfl rfl))
theorem is_letter {m1 m2 m3 : Int} (h : Pv v = true) (hp : Pv (.tup [.int m1, .int m2, .int m3]) = true) (hs : isStore (.tup [.int m1, .int m2, .int m3]) = true) : callF prog W (n + 6) 12 [.tup [.int m1, .int m2, .int m3], v] S = .ok (.bl (rightLetter m1 m2 v)) S :=
  Rb.callF (fn := c12) rfl rfl rfl (Rb.expr (Pu.call (Pus.cons (Pu.var rfl) Pus.nil) (need_store_ok hp hs)) (Rb.ret (Pu.call (Pus.cons (Pu.var rfl) (Pus.cons (Pu.var rfl) Pus.nil)) (right_letter h)))) rfl
theorem is_letter_err {st : D} (hp : Pv st = true) (hs : isStore st = false) : callF prog W (n + 4) 12 [st, v] S = .err (.exc 7 []) S :=
  callF_err (fn := c12) rfl rfl rfl (Re.expr (Ee.call (Pus.cons (Pu.var rfl) Pus.nil) (need_store_err hp hs)))
theorem need_letter_ok {m1 m2 m3 : Int} (h : Pv v = true) (hs : rightLetter m1 m2 v = true) : callF prog W (n + 6) 13 [.tup [.int m1, .int m2, .int m3], v] S = .ok .non S :=
  callF_pu (fn := c13) rfl rfl rfl (PuSs.passB (Pu.not (Pu.call (Pus.cons (Pu.var rfl) (Pus.cons (Pu.var rfl) Pus.nil)) (right_letter h))) (by rw [hs]; rfl) PuSs.nil) (.inl rfl) rfl
theorem need_letter_err {m1 m2 m3 : Int} (h : Pv v = true) (hs : rightLetter m1 m2 v = false) : callF prog W (n + 6) 13 [.tup [.int m1, .int m2, .int m3], v] S = .err (.exc 5 []) S :=
  callF_err (fn := c13) rfl rfl rfl (Re.whenB (Pu.not (Pu.call (Pus.cons (Pu.var rfl) (Pus.cons (Pu.var rfl) Pus.nil)) (right_letter h))) (by rw [hs]; rfl) (Re.raise (Pus.cons Pu.cst Pus.nil) rfl rfl))
/-! the law's own deciders -/
theorem num_whole (h : Pv v = true) {k : Int} : isNum v k = (isWhole v && geB v k) := by
  unfold isNum isWhole
  cases v <;> try rfl
  rename_i i
  have := gd_int.mp h
  show (true && (true && (decide (k ≤ i) && decide (i < 1000000000000000000)))) = (true && true && decide (k ≤ i))
  rw [show decide (i < 1000000000000000000) = true from decide_eq_true (by omega)]
  simp
theorem ge_ok {P : Prog} {k : Int} (h : isWhole v = true) : opSem P .ge [v, .int k] S = .ok (.bl (geB v k)) S := by
  cases v <;> first
    | (cases h; done)
    | rfl
theorem notin_map {α : Type} {P : Prog} (p : α → Bool) (xs : List α) : opSem P .notin [.bl false, .lst (xs.map fun x => D.bl (p x))] S = .ok (.bl (xs.all p)) S := by
  show bl S ((inn S (.bl false) (.lst (xs.map fun x => D.bl (p x)))).map (!·)) = _
  have e : inn S (.bl false) (.lst (xs.map fun x => D.bl (p x))) = some (!xs.all p) := by
    show (if (D.bl false).sh && (xs.map fun x => D.bl (p x)).all D.sh then some ((xs.map fun x => D.bl (p x)).any fun y => D.eqv y (.bl false)) else none) = _
    have e1 : (xs.map fun x => D.bl (p x)).all D.sh = true := by simp [List.all_eq_true]; intro x _; rfl
    rw [e1, show (D.bl false).sh = true from rfl]
    show some _ = some _
    congr 1
    induction xs with
    | nil => rfl
    | cons x r ih =>
      simp only [List.map_cons, List.any_cons, List.all_cons]
      rw [ih (by simp [List.all_eq_true]; intro x _; rfl)]
      cases p x <;> simp [D.eqv]
  rw [e]; simp [bl]
theorem l_whole (h : Pv v = true) : callF prog W (n + 1) 24 [v] S = .ok (.bl (isWhole v)) S := is_whole h
theorem l_row {m : Int} {ss : List D} (h : Pv v = true) : callF prog W (n + 2) 26 [.tup (.int m :: ss), v] S = .ok (.bl (isRow v m)) S := by
  have hl := pv_len h
  refine Rb.callF (fn := c26) rfl rfl rfl (Rb.ret (Pu.and (Pu.op1 (Pu.var rfl) (o_tup h)) fun h1 => Pu.and (Pu.op2 (z := .bl (lenB v m)) (Pu.op1 (Pu.var rfl) (len_ok h1)) (Pu.op2 (z := .int m) (Pu.var rfl) Pu.cst (o_idxT (by decide) rfl)) rfl) fun h2 => Pu.op2 Pu.cst ?_ (notin_map (fun x => isNum x 0) (tItems v)))) rfl
  have hp := pv_items h h1
  refine Pu.compG (xs := tItems v) (g := fun x => [some (.tup (.int m :: ss)), some v, some x]) (f := fun x => .bl (isNum x 0)) ?_ (fun x _ => rfl) (fun x hx => ?_) hl
  · rw [tup_of h1]; rfl
  · rw [num_whole (pvs_mem hp hx)]
    exact Pu.and (Pu.call (Pus.cons (Pu.var rfl) Pus.nil) (l_whole (pvs_mem hp hx))) fun h3 => Pu.op2 (Pu.var rfl) Pu.cst (ge_ok h3)
theorem l_name (h : Pv v = true) : callF prog W (n + 2) 27 [v] S = .ok (.bl (hasName v)) S := by
  refine Rb.callF (fn := c27) (b := isTup v && (lenB v 2 && (isStr (at_ v 0) && (eqS (at_ v 0) "name" && (isWhole (at_ v 1) && geB (at_ v 1) 0))))) rfl rfl rfl (Rb.ret (Pu.and (Pu.op1 (Pu.var rfl) (o_tup h)) fun h1 => Pu.and (Pu.op2 (z := .bl (lenB v 2)) (Pu.op1 (Pu.var rfl) (len_ok h1)) Pu.cst rfl) fun h2 => ?_)) ?_
  · have a0 := at_ok (P := prog) (S := S) (i := 0) h1 (lenB_lt (n := 2) h2 (by decide))
    have a1 := at_ok (P := prog) (S := S) (i := 1) h1 (lenB_lt (n := 2) h2 (by decide))
    exact Pu.and (Pu.op1 (Pu.op2 (Pu.var rfl) Pu.cst a0) (o_str (at_pv h))) fun h3 => Pu.and (Pu.op2 (Pu.op2 (Pu.var rfl) Pu.cst a0) Pu.cst (eqS_ok (at_pv h) h3 sh_name)) fun h4 => Pu.and (Pu.call (Pus.cons (Pu.op2 (Pu.var rfl) Pu.cst a1) Pus.nil) (l_whole (at_pv h))) fun h5 => Pu.op2 (Pu.op2 (Pu.var rfl) Pu.cst a1) Pu.cst (ge_ok h5)
  · unfold hasName
    rw [num_whole (at_pv h)]
theorem l_end {w : PySem.Str} {m : Int} (hw : (D.str w).sh = true) (h : Pv v = true) : callF prog W (n + 2) 28 [v, .str w, .int m] S = .ok (.bl (isEnd v w m)) S := by
  refine Rb.callF (fn := c28) (b := isTup v && (lenB v 2 && (isStr (at_ v 0) && (eqS (at_ v 0) w && (isWhole (at_ v 1) && (geB (at_ v 1) 0 && ltB (at_ v 1) m)))))) rfl rfl rfl (Rb.ret (Pu.and (Pu.op1 (Pu.var rfl) (o_tup h)) fun h1 => Pu.and (Pu.op2 (z := .bl (lenB v 2)) (Pu.op1 (Pu.var rfl) (len_ok h1)) Pu.cst rfl) fun h2 => ?_)) ?_
  · have a0 := at_ok (P := prog) (S := S) (i := 0) h1 (lenB_lt (n := 2) h2 (by decide))
    have a1 := at_ok (P := prog) (S := S) (i := 1) h1 (lenB_lt (n := 2) h2 (by decide))
    exact Pu.and (Pu.op1 (Pu.op2 (Pu.var rfl) Pu.cst a0) (o_str (at_pv h))) fun h3 => Pu.and (Pu.op2 (Pu.op2 (Pu.var rfl) Pu.cst a0) (Pu.var rfl) (eqS_ok (at_pv h) h3 hw)) fun h4 => Pu.and (Pu.call (Pus.cons (Pu.op2 (Pu.var rfl) Pu.cst a1) Pus.nil) (l_whole (at_pv h))) fun h5 => Pu.chain (x := geB (at_ v 1) 0) (y := ltB (at_ v 1) m) Pu.cst (Pu.op2 (Pu.var rfl) Pu.cst a1) (by
      cases ha : at_ v 1 <;> rw [ha] at h5 <;> first
        | (cases h5; done)
        | rfl) fun _ => ⟨Pu.var rfl, by
      cases ha : at_ v 1 <;> rw [ha] at h5 <;> first
        | (cases h5; done)
        | rfl⟩
  · unfold isEnd
    rw [num_whole (at_pv h)]
    simp [Bool.and_assoc]
end K05
set_option maxRecDepth 100000
namespace K05
open Sa
variable {W n : Nat} {S : Sto} {v : D}
theorem neS_ok {P : Prog} {S : Sto} {v : D} {s : PySem.Str} (h : Pv v = true) (hs : isStr v = true) (h2 : (D.str s).sh = true) : opSem P .ne [v, .str s] S = .ok (.bl (!eqS v s)) S := by
  cases v <;> first
    | (cases hs; done)
    | skip
  rename_i t
  show bl S ((if unlike (.str t) (.str s) then some false else if (D.str t).sh && (D.str s).sh then some (D.eqv (.str t) (.str s)) else none).map (!·)) = _
  rw [str_sh h, h2]; rfl
theorem ne_nilV {P : Prog} {xs : List D} : opSem P .ne [.lst xs, .lst []] S = .ok (.bl (!xs.isEmpty)) S := by cases xs <;> rfl
def badTurn (x : D) : Bool := !isWhole x || ltB x 1
theorem badTurn_eq {x : D} (h : Pv x = true) : badTurn x = !isNum x 1 := by
  rw [num_whole h]
  unfold badTurn
  cases x <;> try rfl
  rename_i i
  show (false || decide (i < 1)) = !(true && decide (1 ≤ i))
  by_cases hi : i < 1
  · rw [decide_eq_true hi, decide_eq_false (by omega)]; rfl
  · rw [decide_eq_false hi, decide_eq_true (by omega)]; rfl
def intOf (v : D) : Int := match v with
  | .int i => i
  | _ => 0
def nums (v : D) : List Int := (tItems v).map fun x => intOf (at_ x 1)
def names' (v : D) : Bool := (tItems v).all hasName
theorem name_nums {v : D} (h : names' v = true) : (tItems v).map (fun x => at_ x 1) = (nums v).map .int := by
  unfold nums
  rw [List.map_map]
  refine List.map_congr_left fun x hx => ?_
  obtain ⟨_, _, i, e, _⟩ := name_int (List.all_eq_true.mp h x hx)
  show at_ x 1 = .int (intOf (at_ x 1))
  rw [e]; rfl
theorem pairUp_zip : ∀ xs ys : List D, pairUp xs ys = (xs.zip ys).map fun p => .tup [p.1, p.2]
  | [], _ => by simp [pairUp]
  | _ :: _, [] => by simp [pairUp]
  | x :: r, y :: s => by simp [pairUp, pairUp_zip r s]
theorem rising_eq {v : D} (h : names' v = true) : ((pairUp (tItems v) ((tItems v).drop 1)).all fun x => ltN (at_ (at_ x 0) 1) (at_ (at_ x 1) 1)) = decide (nums v = sortI (dedup (nums v))) := by
  rw [Bool.eq_iff_iff, decide_eq_true_eq, sortI_eq, ← adj_pairwise, pairUp_zip, List.all_map, List.all_eq_true]
  have e : (nums v).zip ((nums v).drop 1) = ((tItems v).zip ((tItems v).drop 1)).map fun p => (intOf (at_ p.1 1), intOf (at_ p.2 1)) := by
    unfold nums
    rw [← List.map_drop, List.zip_map]
    rfl
  rw [e]
  have hx : ∀ p ∈ (tItems v).zip ((tItems v).drop 1), ∀ q, (ltN (at_ p.1 1) (at_ p.2 1) = true ↔ q) ↔ (intOf (at_ p.1 1) < intOf (at_ p.2 1) ↔ q) := fun p hp q => by
    have h1 := List.of_mem_zip hp
    obtain ⟨_, _, i, e1, _⟩ := name_int (List.all_eq_true.mp h p.1 h1.1)
    obtain ⟨_, _, j, e2, _⟩ := name_int (List.all_eq_true.mp h p.2 (List.mem_of_mem_drop h1.2))
    rw [e1, e2]
    show (decide (i < j) = true ↔ q) ↔ (i < j ↔ q)
    rw [decide_eq_true_eq]
  constructor
  · intro h1 a b hab
    obtain ⟨p, hp, e⟩ := List.mem_map.mp hab
    cases e
    exact ((hx p hp _).mp Iff.rfl).mpr (h1 p hp)
  · intro h1 p hp
    exact ((hx p hp _).mpr Iff.rfl).mpr (h1 _ _ (List.mem_map.mpr ⟨p, hp, rfl⟩))
def lawLetter (m1 m2 : Int) (v : D) : Bool :=
  !(!isTup v || (!lenB v 3 || (!isTup (at_ v 2) || ltLen (at_ v 2) 4))) && (!(!isStr (at_ (at_ v 2) 0) || !((((tItems (at_ v 2)).drop 1).take 2).filter badTurn).isEmpty) &&
    (if isEnd (at_ v 0) "hand" m1 && isEnd (at_ v 1) "house" m2 then
      (if eqS (at_ (at_ v 2) 0) "keep" then lenB (at_ v 2) 4 && (isTup (at_ (at_ v 2) 3) && names' (at_ (at_ v 2) 3))
      else !(!eqS (at_ (at_ v 2) 0) "ask" || (!lenB (at_ v 2) 5 || (!isRow (at_ (at_ v 2) 3) m1 || !isTup (at_ (at_ v 2) 4)))) && (names' (at_ (at_ v 2) 4) && decide (nums (at_ (at_ v 2) 4) = sortI (dedup (nums (at_ (at_ v 2) 4))))))
    else !(!isEnd (at_ v 0) "house" m2 || !isEnd (at_ v 1) "hand" m1) &&
      (if eqS (at_ (at_ v 2) 0) "kept" then lenB (at_ v 2) 4 && hasName (at_ (at_ v 2) 3)
      else eqS (at_ (at_ v 2) 0) "have" && (lenB (at_ v 2) 5 && (isTup (at_ (at_ v 2) 3) && (names' (at_ (at_ v 2) 3) && hasName (at_ (at_ v 2) 4)))))))
theorem l_letter0 {m1 m2 m3 : Int} (h : Pv v = true) : callF prog W (n + 4) 29 [.tup [.int m1, .int m2, .int m3], v] S = .ok (.bl (lawLetter m1 m2 v)) S := by
  refine Rb.callF (fn := c29) rfl rfl rfl (Rb.guard (Pu.or (Pu.not (Pu.op1 (Pu.var rfl) (o_tup h))) fun h1 => Pu.or (Pu.op2 (Pu.op1 (Pu.var rfl) (len_ok (by simpa using h1))) Pu.cst (ne_len (v := v) (ht := by simpa using h1))) fun h2 => Pu.or (Pu.not (Pu.op1 (Pu.op2 (Pu.var rfl) Pu.cst (at_ok (i := 2) (by simpa using h1) (lenB_lt (n := 3) (by simpa using h2) (by decide)))) (o_tup (at_pv h)))) fun h3 => Pu.op2 (z := .bl (ltLen (at_ v 2) 4)) (Pu.op1 (Pu.op2 (Pu.var rfl) Pu.cst (at_ok (i := 2) (by simpa using h1) (lenB_lt (n := 3) (by simpa using h2) (by decide)))) (len_ok (by simpa using h3))) Pu.cst rfl) fun h4 => ?_) rfl
  simp only [Bool.or_eq_false_iff, Bool.not_eq_false'] at h4
  obtain ⟨h1, h2, h3, h4⟩ := h4
  have e := three h1 h2
  refine Rb.asg (Pu.var rfl) (env' := [some (.tup [.int m1, .int m2, .int m3]), some v, some (at_ v 0), some (at_ v 1), some (at_ v 2), none]) (by rw [e]; rfl) ?_
  have hv0 := at_pv (i := 0) h
  have hv1 := at_pv (i := 1) h
  have hv2 := at_pv (i := 2) h
  generalize at_ v 2 = b at h3 h4 hv2 ⊢
  generalize at_ v 0 = s at hv0 ⊢
  generalize at_ v 1 = r at hv1 ⊢
  have hl : ∀ {i}, i < 4 → i < (tItems b).length := fun hi => ltLen_lt (k := 4) h4 hi
  have a0 := at_ok (P := prog) (S := S) (i := 0) h3 (hl (by decide))
  have a3 := at_ok (P := prog) (S := S) (i := 3) h3 (hl (by decide))
  have st1 : ∀ {env : Sa.Env}, env[0]? = some (some (.tup [.int m1, .int m2, .int m3])) → Pu ⟨prog, W, callF prog W (n + 3)⟩ (.op .idx (.cons (.var 0) (.cons (.cst (.int 0)) .nil))) env S (.int m1) := fun he => Pu.op2 (Pu.var he) Pu.cst (o_idxT (by decide) rfl)
  have st2 : ∀ {env : Sa.Env}, env[0]? = some (some (.tup [.int m1, .int m2, .int m3])) → Pu ⟨prog, W, callF prog W (n + 3)⟩ (.op .idx (.cons (.var 0) (.cons (.cst (.int 1)) .nil))) env S (.int m2) := fun he => Pu.op2 (Pu.var he) Pu.cst (o_idxT (by decide) rfl)
  have nm : ∀ {x : D} {e : E}, Pv x = true → isTup x = true → Pu ⟨prog, W, callF prog W (n + 3)⟩ e [some (.tup [.int m1, .int m2, .int m3]), some v, some s, some r, some b, none] S x → Pu ⟨prog, W, callF prog W (n + 3)⟩ (.op .notin (.cons (.cst (.bl false)) (.cons (.comp false [5] (.nm 5) (.of e) .nil (.call 27 (.cons (.var 5) .nil))) .nil))) [some (.tup [.int m1, .int m2, .int m3]), some v, some s, some r, some b, none] S (.bl (names' x)) := fun {x e} hx ht he => by
    refine Pu.op2 Pu.cst (Pu.compG (xs := tItems x) (g := fun y => [some (.tup [.int m1, .int m2, .int m3]), some v, some s, some r, some b, some y]) (f := fun x => .bl (hasName x)) ?_ (fun x _ => rfl) (fun y hy => ?_) (pv_len hx)) (notin_map (fun x => hasName x) (tItems x))
    · simp only [evIt]
      rw [show evE _ e _ S = _ from he, R.bind_ok, tup_of ht]; rfl
    · exact Pu.call (Pus.cons (Pu.var rfl) Pus.nil) (l_name (pvs_mem (pv_items hx ht) hy))
  refine Rb.guard (Pu.or (Pu.not (Pu.op1 (Pu.op2 (Pu.var rfl) Pu.cst a0) (o_str (at_pv hv2)))) fun h5 => Pu.op2 (d := .lst ((((tItems b).drop 1).take 2).filter badTurn)) ?_ rfl ne_nilV) fun h6 => ?_
  · have := Pu.compT (C := ⟨prog, W, callF prog W (n + 3)⟩) (S := S) (env := [some (.tup [.int m1, .int m2, .int m3]), some v, some s, some r, some b, none]) (own := [5]) (t := .nm 5) (it := .of (.op (.slc true true) (.cons (.var 4) (.cons (.cst (.int 1)) (.cons (.cst (.int 3)) .nil))))) (b := .or (.not (.call 24 (.cons (.var 5) .nil))) (.op .lt (.cons (.var 5) (.cons (.cst (.int 1)) .nil)))) (e := .var 5) (xs := ((tItems b).drop 1).take 2) (g := fun y => [some (.tup [.int m1, .int m2, .int m3]), some v, some s, some r, some b, some y]) (f := fun y => y) (p := badTurn) ?_ (fun x _ => rfl) (fun x hx => ?_) (fun x _ _ => Pu.var rfl) (by rw [List.length_take]; exact Nat.le_trans (Nat.min_le_left _ _) (by decide))
    · rw [List.map_id'] at this
      exact this
    · have e1 : Pu ⟨prog, W, callF prog W (n + 3)⟩ (.op (.slc true true) (.cons (.var 4) (.cons (.cst (.int 1)) (.cons (.cst (.int 3)) .nil)))) [some (.tup [.int m1, .int m2, .int m3]), some v, some s, some r, some b, none] S (.tup (((tItems b).drop 1).take 2)) := Pu.op3 (d := .tup (tItems b)) (by rw [tup_of h3]; exact Pu.var rfl) Pu.cst Pu.cst (o_mid (by decide) (by decide))
      simp only [evIt]
      rw [show evE _ _ _ S = _ from e1, R.bind_ok]; rfl
    · have hx : Pv x = true := pvs_mem (pv_items hv2 h3) (List.mem_of_mem_drop (List.mem_of_mem_take hx))
      refine Pu.or (Pu.not (Pu.call (Pus.cons (Pu.var rfl) Pus.nil) (l_whole hx))) fun hw => Pu.op2 (Pu.var rfl) Pu.cst ?_
      cases x <;> first
        | (cases hw; done)
        | rfl
  simp only [Bool.or_eq_false_iff, Bool.not_eq_false'] at h6
  obtain ⟨h6, h7⟩ := h6
  refine Rb.ite (Pu.and (Pu.call (Pus.cons (Pu.var rfl) (Pus.cons Pu.cst (Pus.cons (st1 rfl) Pus.nil))) (l_end sh_hand hv0)) fun _ => Pu.call (Pus.cons (Pu.var rfl) (Pus.cons Pu.cst (Pus.cons (st2 rfl) Pus.nil))) (l_end sh_house hv1)) (fun _ => ?_) fun _ => ?_
  · refine Rb.ite (Pu.op2 (Pu.op2 (Pu.var rfl) Pu.cst a0) Pu.cst (eqS_ok (at_pv hv2) h6 sh_keep)) (fun _ => ?_) fun _ => ?_
    · exact Rb.ret (Pu.and (Pu.op2 (z := .bl (lenB b 4)) (Pu.op1 (Pu.var rfl) (len_ok h3)) Pu.cst rfl) fun _ => Pu.and (Pu.op1 (Pu.op2 (Pu.var rfl) Pu.cst a3) (o_tup (at_pv hv2))) fun h8 => nm (at_pv hv2) h8 (Pu.op2 (Pu.var rfl) Pu.cst a3))
    · refine Rb.guard (Pu.or (Pu.op2 (Pu.op2 (Pu.var rfl) Pu.cst a0) Pu.cst (neS_ok (at_pv hv2) h6 sh_ask)) fun _ => Pu.or (Pu.op2 (Pu.op1 (Pu.var rfl) (len_ok h3)) Pu.cst (ne_len (v := b) (ht := h3))) fun h8 => Pu.or (Pu.not (Pu.call (Pus.cons (Pu.var rfl) (Pus.cons (Pu.op2 (Pu.var rfl) Pu.cst a3) Pus.nil)) (l_row (at_pv hv2)))) fun h9 => Pu.not (Pu.op1 (Pu.op2 (Pu.var rfl) Pu.cst (at_ok (i := 4) h3 (lenB_lt (n := 5) (by simpa using h8) (by decide)))) (o_tup (at_pv hv2)))) fun h9 => ?_
      simp only [Bool.or_eq_false_iff, Bool.not_eq_false'] at h9
      obtain ⟨_, h9, _, h10⟩ := h9
      have a4 := at_ok (P := prog) (S := S) (i := 4) h3 (lenB_lt (n := 5) h9 (by decide))
      have hv4 := at_pv (i := 4) hv2
      refine Rb.ret (Pu.and (nm hv4 h10 (Pu.op2 (Pu.var rfl) Pu.cst a4)) fun h11 => ?_)
      have it4 : evIt ⟨prog, W, callF prog W (n + 3)⟩ (.of (.op .idx (.cons (.var 4) (.cons (.cst (.int 4)) .nil)))) [some (.tup [.int m1, .int m2, .int m3]), some v, some s, some r, some b, none] S = .ok (tItems (at_ b 4), .no) S := by
        have e1 : Pu ⟨prog, W, callF prog W (n + 3)⟩ (.op .idx (.cons (.var 4) (.cons (.cst (.int 4)) .nil))) [some (.tup [.int m1, .int m2, .int m3]), some v, some s, some r, some b, none] S (at_ b 4) := Pu.op2 (Pu.var rfl) Pu.cst a4
        simp only [evIt]
        rw [show evE _ _ _ S = _ from e1, R.bind_ok, tup_of h10]; rfl
      have hx1 : ∀ x ∈ tItems (at_ b 4), ∀ {P : Prog}, opSem P .idx [x, .int 1] S = .ok (at_ x 1) S := fun x hx {P} => by
        obtain ⟨q1, q2, _⟩ := name_int (List.all_eq_true.mp h11 x hx)
        exact at_ok (i := 1) q1 (lenB_lt (n := 2) q2 (by decide))
      have hn := name_nums h11
      have hlen : (nums (at_ b 4)).length ≤ big := by
        unfold nums
        rw [List.length_map]; exact pv_len hv4
      obtain ⟨vs, hvs, hdict⟩ := dict_pairs (P := prog) (S := S) (nums (at_ b 4)) hlen
      have hdl : (dedup (nums (at_ b 4))).length ≤ big := by
        have : ∀ (l m : List Int), (l.foldl addNew m).length ≤ m.length + l.length := fun l => by
          induction l with
          | nil => intro m; simp
          | cons a r ih =>
            intro m
            have := ih (addNew m a)
            have h2 : (addNew m a).length ≤ m.length + 1 := by unfold addNew; split <;> simp
            simp only [List.foldl_cons, List.length_cons]
            omega
        have := this (nums (at_ b 4)) []
        unfold dedup
        simp at this
        omega
      have c1 := Pu.compG (C := ⟨prog, W, callF prog W (n + 3)⟩) (own := [5]) (t := .nm 5) (e := .op .idx (.cons (.var 5) (.cons (.cst (.int 1)) .nil))) (g := fun y => [some (.tup [.int m1, .int m2, .int m3]), some v, some s, some r, some b, some y]) (f := fun x => at_ x 1) it4 (fun x _ => rfl) (fun x hx => Pu.op2 (Pu.var rfl) Pu.cst (hx1 x hx)) (pv_len hv4)
      have c2 := Pu.compG (C := ⟨prog, W, callF prog W (n + 3)⟩) (own := [5]) (t := .nm 5) (e := .tup (.cons (.op .idx (.cons (.var 5) (.cons (.cst (.int 1)) .nil))) (.cons (.cst (.bl true)) .nil))) (g := fun y => [some (.tup [.int m1, .int m2, .int m3]), some v, some s, some r, some b, some y]) (f := fun x => .tup [at_ x 1, .bl true]) it4 (fun x _ => rfl) (fun x hx => Pu.tup (Pus.cons (Pu.op2 (Pu.var rfl) Pu.cst (hx1 x hx)) (Pus.cons Pu.cst Pus.nil))) (pv_len hv4)
      rw [hn] at c1
      have e2 : (tItems (at_ b 4)).map (fun x => D.tup [at_ x 1, .bl true]) = (nums (at_ b 4)).map fun i => D.tup [.int i, .bl true] := by
        have := congrArg (List.map fun y => D.tup [y, .bl true]) hn
        rw [List.map_map, List.map_map] at this
        exact this
      rw [e2] at c2
      exact Pu.op2 c1 (Pu.op1 (Pu.op1 c2 hdict) (sorted_dct _ _ hvs hdl)) (eq_ints _ _)
  · refine Rb.guard (Pu.or (Pu.not (Pu.call (Pus.cons (Pu.var rfl) (Pus.cons Pu.cst (Pus.cons (st2 rfl) Pus.nil))) (l_end sh_house hv0))) fun _ => Pu.not (Pu.call (Pus.cons (Pu.var rfl) (Pus.cons Pu.cst (Pus.cons (st1 rfl) Pus.nil))) (l_end sh_hand hv1))) fun _ => ?_
    refine Rb.ite (Pu.op2 (Pu.op2 (Pu.var rfl) Pu.cst a0) Pu.cst (eqS_ok (at_pv hv2) h6 sh_kept)) (fun _ => ?_) fun _ => ?_
    · exact Rb.ret (Pu.and (Pu.op2 (z := .bl (lenB b 4)) (Pu.op1 (Pu.var rfl) (len_ok h3)) Pu.cst rfl) fun _ => Pu.call (Pus.cons (Pu.op2 (Pu.var rfl) Pu.cst a3) Pus.nil) (l_name (at_pv hv2)))
    · exact Rb.ret (Pu.and (Pu.op2 (Pu.op2 (Pu.var rfl) Pu.cst a0) Pu.cst (eqS_ok (at_pv hv2) h6 sh_have)) fun _ => Pu.and (Pu.op2 (z := .bl (lenB b 5)) (Pu.op1 (Pu.var rfl) (len_ok h3)) Pu.cst rfl) fun h8 => Pu.and (Pu.op1 (Pu.op2 (Pu.var rfl) Pu.cst a3) (o_tup (at_pv hv2))) fun h9 => Pu.and (nm (at_pv hv2) h9 (Pu.op2 (Pu.var rfl) Pu.cst a3)) fun _ => Pu.call (Pus.cons (Pu.op2 (Pu.var rfl) Pu.cst (at_ok (i := 4) h3 (lenB_lt (n := 5) h8 (by decide)))) Pus.nil) (l_name (at_pv hv2)))
theorem eqS_one {v : D} {s t : PySem.Str} (h : eqS v s = true) (hne : s ≠ t) : eqS v t = false := by
  cases v <;> first
    | (cases h; done)
    | skip
  have h : decide (_ = s) = true := h
  have h := of_decide_eq_true h
  subst h
  exact decide_eq_false hne
theorem end_one {v : D} {s t : PySem.Str} {m k : Int} (h : isEnd v s m = true) (hne : s ≠ t) : isEnd v t k = false := by
  unfold isEnd at h ⊢
  simp only [Bool.and_eq_true] at h
  rw [eqS_one h.2.2.2.1 hne]
  simp
theorem rounds (b : D) (h : Pv b = true) (ht : isTup b = true) (hl : ltLen b 4 = false) : (((tItems b).drop 1).take 2 |>.filter badTurn).isEmpty = (isNum (at_ b 1) 1 && isNum (at_ b 2) 1) := by
  have hl0 : 4 ≤ (tItems b).length := by
    unfold ltLen at hl
    have := of_decide_eq_false hl
    omega
  have e : ((tItems b).drop 1).take 2 = [at_ b 1, at_ b 2] := by
    unfold at_
    match tItems b, hl0 with
    | x0 :: x1 :: x2 :: x3 :: r, _ => rfl
    | [], h => simp at h
    | [_], h => simp at h
    | [_, _], h => simp at h
    | [_, _, _], h => simp at h
  rw [e]
  simp only [List.filter_cons, List.filter_nil, badTurn_eq (at_pv h)]
  cases isNum (at_ b 1) 1 <;> cases isNum (at_ b 2) 1 <;> rfl
theorem letters_eq {m1 m2 : Int} (h : Pv v = true) : lawLetter m1 m2 v = rightLetter m1 m2 v := by
  unfold lawLetter rightLetter
  cases h1 : isTup v with
  | false => rfl
  | true =>
  cases h2 : lenB v 3 with
  | false => rfl
  | true =>
  have hv2 := at_pv (i := 2) h
  unfold handBody houseBody
  generalize at_ v 2 = b at hv2 ⊢
  generalize at_ v 0 = s
  generalize at_ v 1 = r
  have hand1 : isEnd s "hand" m1 = true → isEnd s "house" m2 = false := fun q => end_one q (by decide +kernel)
  cases h3 : isTup b with
  | false => cases isEnd s "hand" m1 <;> cases isEnd s "house" m2 <;> cases isEnd r "hand" m1 <;> cases isEnd r "house" m2 <;> rfl
  | true =>
  cases h4 : ltLen b 4 with
  | true => cases isEnd s "hand" m1 <;> cases isEnd s "house" m2 <;> cases isEnd r "hand" m1 <;> cases isEnd r "house" m2 <;> rfl
  | false =>
  rw [rounds b hv2 h3 h4]
  have k1 : eqS (at_ b 0) "keep" = true → eqS (at_ b 0) "ask" = false := fun q => eqS_one q (by decide +kernel)
  have k2 : eqS (at_ b 0) "kept" = true → eqS (at_ b 0) "have" = false := fun q => eqS_one q (by decide +kernel)
  unfold isRound areNames isRising
  have hr : areNames (at_ b 4) = true → ((pairUp (tItems (at_ b 4)) ((tItems (at_ b 4)).drop 1)).all fun x => ltN (at_ (at_ x 0) 1) (at_ (at_ x 1) 1)) = decide (nums (at_ b 4) = sortI (dedup (nums (at_ b 4)))) := fun q => rising_eq (by unfold areNames at q; rw [Bool.and_eq_true] at q; exact q.2)
  unfold areNames at hr ⊢
  unfold names'
  revert hr k1 k2 hand1
  generalize ((pairUp (tItems (at_ b 4)) ((tItems (at_ b 4)).drop 1)).all fun x => ltN (at_ (at_ x 0) 1) (at_ (at_ x 1) 1)) = z1
  generalize decide (nums (at_ b 4) = sortI (dedup (nums (at_ b 4)))) = z2
  generalize isEnd s "hand" m1 = e1
  generalize isEnd s "house" m2 = e2
  generalize isEnd r "house" m2 = e3
  generalize isEnd r "hand" m1 = e4
  generalize isStr (at_ b 0) = e5
  generalize isNum (at_ b 1) 1 = e6
  generalize isNum (at_ b 2) 1 = e7
  generalize eqS (at_ b 0) "keep" = e8
  generalize eqS (at_ b 0) "ask" = e9
  generalize eqS (at_ b 0) "kept" = e10
  generalize eqS (at_ b 0) "have" = e11
  generalize lenB b 4 = e12
  generalize lenB b 5 = e13
  generalize isTup (at_ b 3) = e14
  generalize (tItems (at_ b 3)).all hasName = e15
  generalize isTup (at_ b 4) = e16
  generalize (tItems (at_ b 4)).all hasName = e17
  generalize isRow (at_ b 3) m1 = e18
  generalize hasName (at_ b 3) = e19
  generalize hasName (at_ b 4) = e20
  intro hand1 k1 k2 hr
  cases e5 <;> cases e6 <;> cases e7 <;> simp
  all_goals try (cases e1 <;> cases e2 <;> cases e3 <;> cases e4 <;> simp_all <;> done)
  cases e1 <;> cases e2 <;> cases e3 <;> cases e4 <;> simp_all
  all_goals (cases e8 <;> cases e9 <;> cases e10 <;> cases e11 <;> simp_all)
  all_goals (cases e16 <;> cases e17 <;> cases e18 <;> cases e13 <;> cases e12 <;> simp_all)
  all_goals (cases e14 <;> cases e15 <;> cases e20 <;> rfl)
theorem l_letter {m1 m2 m3 : Int} (h : Pv v = true) : callF prog W (n + 4) 29 [.tup [.int m1, .int m2, .int m3], v] S = .ok (.bl (rightLetter m1 m2 v)) S := letters_eq (m1 := m1) (m2 := m2) h ▸ l_letter0 h
end K05
set_option maxRecDepth 100000
namespace K05
open Sa
variable {W n : Nat} {S T : Sto} {v : D} {s : Gs}
def fresh (all : List D) (y : D) : Bool := !((all.take (intOf (at_ y 0)).toNat).any fun z => D.eqv z (at_ y 1))
theorem any_nm {l : List Int} {i : Int} : ((l.map nm).any fun z => D.eqv z (nm i)) = decide (i ∈ l) := by
  rw [List.any_map, Bool.eq_iff_iff, List.any_eq_true, decide_eq_true_eq]
  constructor
  · rintro ⟨j, hj, e⟩
    have e : D.eqv (nm j) (nm i) = true := e
    rw [eqv_nm, decide_eq_true_eq] at e
    rw [← e]; exact hj
  · intro h
    exact ⟨i, h, by show D.eqv (nm i) (nm i) = true; rw [eqv_nm]; simp⟩
theorem firsts : ∀ (l pre : List Int), ((numbered pre.length (l.map nm)).filter (fresh ((pre ++ l).map nm))).map (fun y => at_ y 1) = (dd pre l).map nm
  | [], _ => rfl
  | i :: r, pre => by
    have ih := firsts r (pre ++ [i])
    rw [List.append_assoc, List.singleton_append, List.length_append] at ih
    have e : fresh ((pre ++ i :: r).map nm) (.tup [.int (pre.length : Int), nm i]) = !decide (i ∈ pre) := by
      show (!((((pre ++ i :: r).map nm).take (((pre.length : Nat) : Int)).toNat).any fun z => D.eqv z (nm i))) = _
      rw [Int.toNat_natCast, ← List.map_take, List.take_left', any_nm]
      rfl
    show List.map _ (List.filter _ (.tup [.int (pre.length : Int), nm i] :: numbered (pre.length + 1) (r.map nm))) = _
    rw [List.filter_cons, e]
    unfold dd
    by_cases h : i ∈ pre
    · rw [decide_eq_true h, if_pos h]
      exact ih
    · rw [decide_eq_false h, if_neg h]
      show at_ (.tup [.int (pre.length : Int), nm i]) 1 :: _ = _
      rw [List.map_cons]
      congr 1
theorem end_mk {w : PySem.Str} {a m : Int} (h0 : 0 ≤ a) (h1 : a < m) (hm : m ≤ 100) : isEnd (.tup [.str w, .int a]) w m = true := by
  show (true && (decide (((2 : Nat) : Int) = 2) && (true && (decide (w = w) && ((true && (true && (decide (0 ≤ a) && decide (a < 1000000000000000000)))) && decide (a < m)))))) = true
  rw [decide_eq_true h0, decide_eq_true h1, decide_eq_true (show a < 1000000000000000000 by omega), decide_eq_true (rfl : w = w)]; rfl
theorem name_mk {a : Int} (h0 : 0 ≤ a) (h1 : a ≤ 100) : hasName (nm a) = true := by
  show (true && (decide (((2 : Nat) : Int) = 2) && (true && (decide (("name" : PySem.Str) = "name") && (true && (true && (decide (0 ≤ a) && decide (a < 1000000000000000000)))))))) = true
  rw [decide_eq_true h0, decide_eq_true (show a < 1000000000000000000 by omega), decide_eq_true rfl]; rfl
theorem num_mk {a k : Int} (h0 : k ≤ a) (h1 : a ≤ 100000000) : isNum (.int a) k = true := by
  show (true && (true && (decide (k ≤ a) && decide (a < 1000000000000000000)))) = true
  rw [decide_eq_true h0, decide_eq_true (show a < 1000000000000000000 by omega)]; rfl
theorem names_mk {l : List Int} (h : ∀ i ∈ l, 0 ≤ i ∧ i ≤ 100) : names' (.tup (l.map nm)) = true := by
  show (l.map nm).all hasName = true
  rw [List.all_map, List.all_eq_true]
  intro i hi
  exact name_mk (h i hi).1 (h i hi).2
theorem areNames_mk {l : List Int} (h : ∀ i ∈ l, 0 ≤ i ∧ i ≤ 100) : areNames (.tup (l.map nm)) = true := names_mk h
theorem nums_mk {l : List Int} : nums (.tup (l.map nm)) = l := by
  show ((l.map nm).map fun x => intOf (at_ x 1)) = l
  rw [List.map_map]
  exact List.map_id'' (fun _ => rfl) _
theorem rising_mk {l : List Int} (h : ∀ i ∈ l, 0 ≤ i ∧ i ≤ 100) (hl : l.Pairwise (· < ·)) : isRising (.tup (l.map nm)) = true := by
  unfold isRising
  rw [areNames_mk h, rising_eq (names_mk h), nums_mk, decide_eq_true ((sortI_eq l).mpr hl)]; rfl
theorem row_mk {l : List Int} {m : Int} (h : ∀ i ∈ l, 0 ≤ i ∧ i ≤ 100) (hl : (l.length : Int) = m) : isRow (.tup (l.map .int)) m = true := by
  show (true && (decide (((l.map D.int).length : Int) = m) && (l.map D.int).all fun x => isNum x 0)) = true
  rw [List.length_map, decide_eq_true hl, List.all_map, Bool.true_and, Bool.true_and, List.all_eq_true]
  intro i hi
  exact num_mk (h i hi).1 (by have := (h i hi).2; omega)
theorem sorted_lt {l : List Int} (h : l.Nodup) : (sortI l).Pairwise (· < ·) := by
  have hp : (sortI l).Perm l := List.mergeSort_perm _ _
  have hs : (sortI l).Pairwise (· ≤ ·) := by
    have := List.pairwise_mergeSort (le := fun a b : Int => decide (a ≤ b)) (fun a b c h1 h2 => by simp at *; omega) (fun a b => by simp; omega) l
    exact this.imp fun h => by simpa using h
  exact pairwise_lt_of hs (hp.nodup_iff.mpr h)
/-- a letter for a store -/
def Letter (h m : Int) (d : D) : Prop := rightLetter h m d = true ∧ Nice 4 d
section
variable {h m a b life turn : Int} {row is rs : List Int}
theorem nice_nm {i : Int} (h : 0 ≤ i ∧ i ≤ 100) : Nice 1 (nm i) := Nice.tup (by simp) (by
  intro x hx
  simp only [List.mem_cons, List.not_mem_nil, or_false] at hx
  rcases hx with rfl | rfl
  · exact Nice.str (by decide +kernel)
  · exact Nice.int (by omega) (by omega))
theorem nice_end {w : PySem.Str} (hw : Gd 10 100000000000000000 (.str w) = true) (h0 : 0 ≤ a) (h1 : a ≤ 100) : Nice 3 (.tup [.str w, .int a]) := Nice.tup (by simp) (by
  intro x hx
  simp only [List.mem_cons, List.not_mem_nil, or_false] at hx
  rcases hx with rfl | rfl
  · exact Nice.str hw
  · exact Nice.int (by omega) (by omega))
theorem nice_nms (h : ∀ i ∈ is, 0 ≤ i ∧ i ≤ 100) (hl : is.length ≤ 10) : Nice 2 (.tup (is.map nm)) := Nice.tup (by simpa using hl) (by
  intro x hx
  obtain ⟨i, hi, rfl⟩ := List.mem_map.mp hx
  exact nice_nm (h i hi))
theorem nice_ints (h : ∀ i ∈ is, 0 ≤ i ∧ i ≤ 100) (hl : is.length ≤ 10) : Nice 2 (.tup (is.map .int)) := Nice.tup (by simpa using hl) (by
  intro x hx
  obtain ⟨i, hi, rfl⟩ := List.mem_map.mp hx
  exact Nice.int (by have := h i hi; omega) (by have := h i hi; omega))
theorem nice_body {w : PySem.Str} {r : List D} (hw : Gd 10 100000000000000000 (.str w) = true) (l1 : 1 ≤ life) (l2 : life ≤ 10) (t1 : 1 ≤ turn) (t2 : turn ≤ 10000000) (hr : ∀ x ∈ r, Nice 2 x) (hl : r.length ≤ 5) : Nice 3 (.tup (.str w :: .int life :: .int turn :: r)) := Nice.tup (by simp; omega) (by
  intro x hx
  simp only [List.mem_cons] at hx
  rcases hx with rfl | rfl | rfl | hx
  · exact Nice.str hw
  · exact Nice.int (by omega) (by omega)
  · exact Nice.int (by omega) (by omega)
  · exact hr x hx)
theorem nice_letter {x y z : D} (hx : Nice 3 x) (hy : Nice 3 y) (hz : Nice 3 z) : Nice 4 (.tup [x, y, z]) := Nice.tup (by simp) (by
  intro q hq
  simp only [List.mem_cons, List.not_mem_nil, or_false] at hq
  rcases hq with rfl | rfl | rfl <;> assumption)
theorem round_mk {w : PySem.Str} {r : List D} {k : Int} (l1 : 1 ≤ life) (l2 : life ≤ 10) (t1 : 1 ≤ turn) (t2 : turn ≤ 10000000) (hk : (r.length : Int) + 3 = k) : isRound (.tup (.str w :: .int life :: .int turn :: r)) k = true := by
  show (decide (((r.length + 1 + 1 + 1 : Nat) : Int) = k) && (isNum (.int life) 1 && isNum (.int turn) 1)) = true
  rw [decide_eq_true (by omega), num_mk l1 (by omega), num_mk t1 (by omega)]; rfl
theorem ask_ok (ha : 0 ≤ a) (ha2 : a < h) (hb : 0 ≤ b) (hb2 : b < m) (hh : h ≤ 100) (hm : m ≤ 100) (l1 : 1 ≤ life) (l2 : life ≤ 10) (t1 : 1 ≤ turn) (t2 : turn ≤ 10000000) (hrow : ∀ i ∈ row, 0 ≤ i ∧ i ≤ 100) (hrl : (row.length : Int) = h) (hr10 : row.length ≤ 10) (hrs : ∀ i ∈ rs, 0 ≤ i ∧ i ≤ 100) (hrs2 : rs.Pairwise (· < ·)) (hrs3 : rs.length ≤ 10) :
    Letter h m (.tup [.tup [.str "hand", .int a], .tup [.str "house", .int b], .tup [.str "ask", .int life, .int turn, .tup (row.map .int), .tup (rs.map nm)]]) := by
  refine ⟨?_, nice_letter (nice_end (by decide +kernel) ha (by omega)) (nice_end (by decide +kernel) hb (by omega)) (nice_body (by decide +kernel) l1 l2 t1 t2 (by
    intro x hx
    simp only [List.mem_cons, List.not_mem_nil, or_false] at hx
    rcases hx with rfl | rfl
    · exact nice_ints hrow hr10
    · exact nice_nms hrs hrs3) (by simp))⟩
  show (true && (if isEnd (.tup [.str "hand", .int a]) "hand" h then isEnd (.tup [.str "house", .int b]) "house" m && (true && (if decide (("ask" : PySem.Str) = "ask") then isRound (.tup [.str "ask", .int life, .int turn, .tup (row.map .int), .tup (rs.map nm)]) 5 && (isRow (.tup (row.map .int)) h && isRising (.tup (rs.map nm))) else _)) else _)) = true
  rw [end_mk ha ha2 hh, end_mk hb hb2 hm, decide_eq_true rfl, round_mk (r := [_, _]) (k := 5) l1 l2 t1 t2 rfl, row_mk hrow hrl, rising_mk hrs hrs2]
  rfl
theorem keep_ok (ha : 0 ≤ a) (ha2 : a < h) (hb : 0 ≤ b) (hb2 : b < m) (hh : h ≤ 100) (hm : m ≤ 100) (l1 : 1 ≤ life) (l2 : life ≤ 10) (t1 : 1 ≤ turn) (t2 : turn ≤ 10000000) (hrs : ∀ i ∈ rs, 0 ≤ i ∧ i ≤ 100) (hrs3 : rs.length ≤ 10) :
    Letter h m (.tup [.tup [.str "hand", .int a], .tup [.str "house", .int b], .tup [.str "keep", .int life, .int turn, .tup (rs.map nm)]]) := by
  refine ⟨?_, nice_letter (nice_end (by decide +kernel) ha (by omega)) (nice_end (by decide +kernel) hb (by omega)) (nice_body (by decide +kernel) l1 l2 t1 t2 (by
    intro x hx
    rw [List.mem_singleton.mp hx]
    exact nice_nms hrs hrs3) (by simp))⟩
  show (true && (if isEnd (.tup [.str "hand", .int a]) "hand" h then isEnd (.tup [.str "house", .int b]) "house" m && (true && (if decide (("keep" : PySem.Str) = "ask") then _ else decide (("keep" : PySem.Str) = "keep") && (isRound (.tup [.str "keep", .int life, .int turn, .tup (rs.map nm)]) 4 && areNames (.tup (rs.map nm))))) else _)) = true
  rw [end_mk ha ha2 hh, end_mk hb hb2 hm, decide_eq_true rfl, round_mk (r := [_]) (k := 4) l1 l2 t1 t2 rfl, areNames_mk hrs, show decide (("keep" : PySem.Str) = "ask") = false by decide +kernel]
  rfl
theorem have_ok (ha : 0 ≤ a) (ha2 : a < h) (hb : 0 ≤ b) (hb2 : b < m) (hh : h ≤ 100) (hm : m ≤ 100) (l1 : 1 ≤ life) (l2 : life ≤ 10) (t1 : 1 ≤ turn) (t2 : turn ≤ 10000000) (hrs : ∀ i ∈ rs, 0 ≤ i ∧ i ≤ 100) (hrs3 : rs.length ≤ 10) :
    Letter h m (.tup [.tup [.str "house", .int b], .tup [.str "hand", .int a], .tup [.str "have", .int life, .int turn, .tup (rs.map nm), nm 3]]) := by
  refine ⟨?_, nice_letter (nice_end (by decide +kernel) hb (by omega)) (nice_end (by decide +kernel) ha (by omega)) (nice_body (by decide +kernel) l1 l2 t1 t2 (by
    intro x hx
    simp only [List.mem_cons, List.not_mem_nil, or_false] at hx
    rcases hx with rfl | rfl
    · exact nice_nms hrs hrs3
    · exact (nice_nm ⟨by decide, by decide⟩).mono (by decide)) (by simp))⟩
  show (true && (if isEnd (.tup [.str "house", .int b]) "hand" h then _ else isEnd (.tup [.str "house", .int b]) "house" m && (isEnd (.tup [.str "hand", .int a]) "hand" h && (true && (if decide (("have" : PySem.Str) = "have") then isRound (.tup [.str "have", .int life, .int turn, .tup (rs.map nm), nm 3]) 5 && (areNames (.tup (rs.map nm)) && hasName (nm 3)) else _))))) = true
  rw [end_one (end_mk hb hb2 hm) (t := "hand") (by decide +kernel), end_mk ha ha2 hh, end_mk hb hb2 hm, decide_eq_true rfl, round_mk (r := [_, _]) (k := 5) l1 l2 t1 t2 rfl, areNames_mk hrs, name_mk (by decide) (by decide)]
  rfl
theorem kept_ok (ha : 0 ≤ a) (ha2 : a < h) (hb : 0 ≤ b) (hb2 : b < m) (hh : h ≤ 100) (hm : m ≤ 100) (l1 : 1 ≤ life) (l2 : life ≤ 10) (t1 : 1 ≤ turn) (t2 : turn ≤ 10000000) :
    Letter h m (.tup [.tup [.str "house", .int b], .tup [.str "hand", .int a], .tup [.str "kept", .int life, .int turn, nm 0]]) := by
  refine ⟨?_, nice_letter (nice_end (by decide +kernel) hb (by omega)) (nice_end (by decide +kernel) ha (by omega)) (nice_body (by decide +kernel) l1 l2 t1 t2 (by
    intro x hx
    rw [List.mem_singleton.mp hx]
    exact (nice_nm ⟨by decide, by decide⟩).mono (by decide)) (by simp))⟩
  show (true && (if isEnd (.tup [.str "house", .int b]) "hand" h then _ else isEnd (.tup [.str "house", .int b]) "house" m && (isEnd (.tup [.str "hand", .int a]) "hand" h && (true && (if decide (("kept" : PySem.Str) = "have") then _ else decide (("kept" : PySem.Str) = "kept") && (isRound (.tup [.str "kept", .int life, .int turn, nm 0]) 4 && hasName (nm 0))))))) = true
  rw [end_one (end_mk hb hb2 hm) (t := "hand") (by decide +kernel), end_mk ha ha2 hh, end_mk hb hb2 hm, decide_eq_true rfl, round_mk (r := [_]) (k := 4) l1 l2 t1 t2 rfl, name_mk (by decide) (by decide), show decide (("kept" : PySem.Str) = "have") = false by decide +kernel]
  rfl
end
theorem letter {h m l : Int} (h1 : 1 ≤ h) (h2 : h ≤ 10) (m1 : 1 ≤ m) (m2 : m ≤ 100) (hs : s.turn + 20 ≤ tmax) : Ok (callF prog W (n + 4) 30 [.loc 1, .tup [.int h, .int m, .int l]] (mk s T)) fun d S' => ∃ s', Letter h m d ∧ S' = mk s' T ∧ s'.turn ≤ s.turn + 20 := by
  refine Ok.callF (fn := c30) rfl rfl rfl rfl ?_
  have st1 : ∀ {S : Sto} {env : Sa.Env}, env[1]? = some (some (.tup [.int h, .int m, .int l])) → Pu ⟨prog, W, callF prog W (n + 3)⟩ (.op .idx (.cons (.var 1) (.cons (.cst (.int 0)) .nil))) env S (.int h) := fun he => Pu.op2 (Pu.var he) Pu.cst (o_idxT (by decide) rfl)
  have st2 : ∀ {S : Sto} {env : Sa.Env}, env[1]? = some (some (.tup [.int h, .int m, .int l])) → Pu ⟨prog, W, callF prog W (n + 3)⟩ (.op .idx (.cons (.var 1) (.cons (.cst (.int 1)) .nil))) env S (.int m) := fun he => Pu.op2 (Pu.var he) Pu.cst (o_idxT (by decide) rfl)
  refine OkSs.asg <| OkE.tup <| OkEs.cons <| OkE.tup <| OkEs.pcons Pu.cst <| OkEs.cons <| OkE.call <| OkEs.pcons (Pu.var rfl) <| OkEs.pcons (st1 rfl) <| OkEs.nil ?_
  refine (draw (by omega) (by omega) (by omega)).imp fun d S' q => ?_
  obtain ⟨a, s1, rfl, a0, a1, rfl, t1⟩ := q
  refine OkEs.nil <| OkEs.cons <| OkE.tup <| OkEs.pcons Pu.cst <| OkEs.cons <| OkE.call <| OkEs.pcons (Pu.var rfl) <| OkEs.pcons (st2 rfl) <| OkEs.nil ?_
  refine (draw (by omega) (by omega) (by omega)).imp fun d S' q => ?_
  obtain ⟨b, s2, rfl, b0, b1, rfl, t2⟩ := q
  refine OkEs.nil <| OkEs.nil ?_
  refine Ok.of (a := [some (.loc 1), some (.tup [.int h, .int m, .int l]), none, none, none, none, some (.tup [.str "hand", .int a]), some (.tup [.str "house", .int b]), none, none, none, none, none]) (S := mk s2 T) (by kernel_rfl) ?_
  refine OkSs.asgN <| OkE.op <| OkEs.cons <| OkE.map (fun S l acc => ∃ (s' : Gs) (is : List Int), S = mk s' T ∧ acc = is.map nm ∧ (∀ i ∈ is, 0 ≤ i ∧ i ≤ 100) ∧ is.length + l.length ≤ 3 ∧ s'.turn + l.length ≤ s.turn + 6) ?_ (fun x l acc S1 hI => ?_) fun ys S4 hI => ?_
  · refine OkI.rng <| OkE.call <| OkEs.pcons (Pu.var rfl) <| OkEs.pcons Pu.cst <| OkEs.nil ?_
    refine (draw (by decide) (by decide) (by omega)).imp fun d S' q => ?_
    obtain ⟨c, s3, rfl, c0, c1, rfl, t3⟩ := q
    have hb : (big : Int) = 16000000 := rfl
    have hb2 : big = 16000000 := rfl
    refine ⟨c, rfl, by omega, by omega, rfl, by simp [upto]; omega, s3, [], rfl, rfl, nofun, by simp [upto]; omega, by simp [upto]; omega⟩
  · obtain ⟨s3, is, rfl, rfl, hi, hl, ht⟩ := hI
    simp only [List.length_cons] at hl ht
    refine OkT.nm <| OkE.tup <| OkEs.pcons Pu.cst <| OkEs.cons <| OkE.call <| OkEs.pcons (Pu.var rfl) <| OkEs.pcons Pu.cst <| OkEs.nil ?_
    refine (draw (by decide) (by decide) (by omega)).imp fun d S' q => ?_
    obtain ⟨c, s4, rfl, c0, c1, rfl, t4⟩ := q
    refine OkEs.nil ⟨s4, is ++ [c], rfl, by simp [nm], fun i h => ?_, by simp; omega, by omega⟩
    rcases List.mem_append.mp h with h | h
    · exact hi i h
    · rw [List.mem_singleton.mp h]; omega
  obtain ⟨s3, is, rfl, rfl, his, hil, t3⟩ := hI
  simp only [List.length_nil, Nat.add_zero] at hil t3
  refine OkEs.nil <| Ok.of (a := .tup (is.map nm)) (S := mk s3 T) rfl ?_
  refine OkSs.asg <| OkE.tup <| OkEs.cons <| OkE.op <| OkEs.pcons Pu.cst <| OkEs.cons <| OkE.call <| OkEs.pcons (Pu.var rfl) <| OkEs.pcons Pu.cst <| OkEs.nil ?_
  refine (draw (by decide) (by decide) (by omega)).imp fun d S' q => ?_
  obtain ⟨c, s4, rfl, c0, c1, rfl, t4⟩ := q
  refine OkEs.nil <| Ok.of (a := .int (1 + c)) rfl <| OkEs.cons <| OkE.op <| OkEs.pcons Pu.cst <| OkEs.cons <| OkE.call <| OkEs.pcons (Pu.var rfl) <| OkEs.pcons (d := .int 1000000) (by unfold Pu; kernel_rfl) <| OkEs.nil ?_
  refine (draw (by decide) (by decide) (by omega)).imp fun d S' q => ?_
  obtain ⟨e, s5, rfl, e0, e1, rfl, t5⟩ := q
  refine OkEs.nil <| Ok.of (a := .int (1 + e)) rfl <| OkEs.nil <| Ok.of (a := [some (.loc 1), some (.tup [.int h, .int m, .int l]), some (.tup (is.map nm)), none, none, none, some (.tup [.str "hand", .int a]), some (.tup [.str "house", .int b]), some (.int (1 + c)), some (.int (1 + e)), none, none, none]) (S := mk s5 T) (by kernel_rfl) ?_
  have hbig : big = 16000000 := rfl
  have hrs : ∀ i ∈ sortI (dd [] is), 0 ≤ i ∧ i ≤ 100 := fun i hi => his i (dd_mem ((List.mergeSort_perm _ _).mem_iff.mp hi)).2
  have hrl : (sortI (dd [] is)).length ≤ 3 := by
    have : (sortI (dd [] is)).length = (dd [] is).length := (List.mergeSort_perm _ _).length_eq
    have := dd_len (l := is) (pre := [])
    omega
  have hrp := sorted_lt (dd_nodup (l := is) (pre := []))
  generalize hrsd : sortI (dd [] is) = rs at hrs hrl hrp
  refine OkSs.asgN <| Ok.pu (d := .tup (rs.map nm)) (Pu.op1 (d := .lst (rs.map nm)) (Pu.op1 (d := .lst ((dd [] is).map nm)) ?_ ?_) rfl) ?_
  · have hz : evIt ⟨prog, W, callF prog W (n + 3)⟩ (.enum (.var 2)) [some (.loc 1), some (.tup [.int h, .int m, .int l]), some (.tup (is.map nm)), none, none, none, some (.tup [.str "hand", .int a]), some (.tup [.str "house", .int b]), some (.int (1 + c)), some (.int (1 + e)), none, none, none] (mk s5 T) = .ok (numbered 0 (is.map nm), .no) (mk s5 T) := rfl
    have hn : ∀ (xs : List D) (k : Nat) (y : D), y ∈ numbered k xs → ∃ (j : Nat) (x : D), y = .tup [.int (j : Int), x] ∧ x ∈ xs := fun xs => by
      induction xs with
      | nil => intro k y hy; exact nomatch hy
      | cons x r ih =>
        intro k y hy
        rcases List.mem_cons.mp (show y ∈ .tup [.int (k : Int), x] :: numbered (k + 1) r from hy) with e | hy
        · exact ⟨k, x, e, List.mem_cons_self⟩
        · obtain ⟨j, z, e, hz⟩ := ih _ _ hy
          exact ⟨j, z, e, List.mem_cons_of_mem _ hz⟩
    have hlen : ∀ (xs : List D) (k : Nat), (numbered k xs).length = xs.length := fun xs => by
      induction xs with
      | nil => intro k; rfl
      | cons x r ih => intro k; show (numbered (k + 1) r).length + 1 = _; rw [ih]; rfl
    have key := Pu.compT (C := ⟨prog, W, callF prog W (n + 3)⟩) (own := [11, 12]) (t := .tp (.cons (.nm 11) (.cons (.nm 12) .nil))) (b := .op .notin (.cons (.var 12) (.cons (.op (.slc false true) (.cons (.var 2) (.cons (.var 11) .nil))) .nil))) (e := .var 12) (g := fun y => [some (.loc 1), some (.tup [.int h, .int m, .int l]), some (.tup (is.map nm)), none, none, none, some (.tup [.str "hand", .int a]), some (.tup [.str "house", .int b]), some (.int (1 + c)), some (.int (1 + e)), none, some (at_ y 0), some (at_ y 1)]) (f := fun y => at_ y 1) (p := fresh (is.map nm)) hz (fun y hy => ?_) (fun y hy => ?_) (fun y hy _ => Pu.var rfl) (by rw [hlen, List.length_map]; omega)
    · have := firsts is []
      simp only [List.nil_append, List.length_nil] at this
      rw [this] at key
      exact key
    · obtain ⟨j, x, rfl, _⟩ := hn _ _ _ hy
      rfl
    · obtain ⟨j, x, rfl, hx⟩ := hn _ _ _ hy
      obtain ⟨i, hi, rfl⟩ := List.mem_map.mp hx
      refine Pu.op2 (d := nm i) (e := .tup ((is.map nm).take j)) (Pu.var rfl) (Pu.op2 (Pu.var rfl) (Pu.var rfl) (o_upto (i := (j : Int)) (by omega))) ?_
      show bl _ ((if (nm i).sh && ((is.map nm).take j).all D.sh then some (((is.map nm).take j).any fun y => D.eqv y (nm i)) else none).map (!·)) = _
      rw [sh_nm, ← List.map_take, sh_nms]
      show _ = Sa.R.ok (D.bl (!(((is.map nm).take (j : Int).toNat).any fun z => D.eqv z (nm i)))) _
      rw [Int.toNat_natCast, ← List.map_take]
      rfl
  · rw [← hrsd]
    exact sorted_nms _ (by have := dd_len (l := is) (pre := []); omega)
  refine OkSs.asgN <| OkE.op <| OkEs.cons <| OkE.map (fun S l acc => ∃ (s' : Gs) (row : List Int), S = mk s' T ∧ acc = row.map .int ∧ (∀ i ∈ row, 0 ≤ i ∧ i ≤ 100) ∧ row.length + l.length = h.toNat ∧ s'.turn + l.length ≤ s.turn + 8 + h.toNat) ?_ (fun x l acc S1 hI => ?_) fun ys S4 hI => ?_
  · refine OkI.rng <| Ok.pu (st1 rfl) ?_
    have hb : (big : Int) = 16000000 := rfl
    refine ⟨h, rfl, by omega, by omega, rfl, by simp [upto]; omega, s5, [], rfl, rfl, nofun, by simp [upto], by simp [upto]; omega⟩
  · obtain ⟨s6, row, rfl, rfl, hi, hl, ht⟩ := hI
    simp only [List.length_cons] at hl ht
    refine OkT.nm <| OkE.call <| OkEs.pcons (Pu.var rfl) <| OkEs.pcons Pu.cst <| OkEs.nil ?_
    refine (draw (by decide) (by decide) (by omega)).imp fun d S' q => ?_
    obtain ⟨c, s4, rfl, c0, c1, rfl, t4⟩ := q
    refine ⟨s4, row ++ [c], rfl, by simp, fun i h => ?_, by simp; omega, by omega⟩
    rcases List.mem_append.mp h with h | h
    · exact hi i h
    · rw [List.mem_singleton.mp h]; omega
  obtain ⟨s6, row, rfl, rfl, hrow, hrowl, t6⟩ := hI
  simp only [List.length_nil, Nat.add_zero] at hrowl t6
  refine OkEs.nil <| Ok.of (a := .tup (row.map .int)) (S := mk s6 T) rfl ?_
  let ask : D := .tup [.tup [.str "hand", .int a], .tup [.str "house", .int b], .tup [.str "ask", .int (1 + c), .int (1 + e), .tup (row.map .int), .tup (rs.map nm)]]
  let keep : D := .tup [.tup [.str "hand", .int a], .tup [.str "house", .int b], .tup [.str "keep", .int (1 + c), .int (1 + e), .tup (is.map nm)]]
  let have_ : D := .tup [.tup [.str "house", .int b], .tup [.str "hand", .int a], .tup [.str "have", .int (1 + c), .int (1 + e), .tup (is.map nm), nm 3]]
  let kept : D := .tup [.tup [.str "house", .int b], .tup [.str "hand", .int a], .tup [.str "kept", .int (1 + c), .int (1 + e), nm 0]]
  refine OkSs.asgN <| Ok.pu (d := .lst [ask, keep]) rfl ?_
  have hall : ∀ x ∈ [ask, keep, have_, kept], Letter h m x := fun x hx => by
    simp only [List.mem_cons, List.not_mem_nil, or_false] at hx
    rcases hx with rfl | rfl | rfl | rfl
    · exact ask_ok a0 a1 b0 b1 (by omega) (by omega) (by omega) (by omega) (by omega) (by omega) hrow (by omega) (by omega) hrs hrp (by omega)
    · exact keep_ok a0 a1 b0 b1 (by omega) (by omega) (by omega) (by omega) (by omega) (by omega) his (by omega)
    · exact have_ok a0 a1 b0 b1 (by omega) (by omega) (by omega) (by omega) (by omega) (by omega) his (by omega)
    · exact kept_ok a0 a1 b0 b1 (by omega) (by omega) (by omega) (by omega) (by omega) (by omega)
  refine OkSs.ret <| OkE.call <| OkEs.pcons (Pu.var rfl) <| OkEs.pcons (d := .lst [ask, keep, have_, kept]) rfl <| OkEs.nil ?_
  refine (pick (by simp) (by simp) (fun x hx => Gd.und (hall x hx).2.1) (by omega)).imp fun d S' q => ?_
  obtain ⟨s7, hd, rfl, t7⟩ := q
  exact ⟨trivial, Old.mk (Nat.succ_pos _) (Old.refl T), d, frz_und (Gd.und (hall d hd).2.1), s7, hall d hd, by simp [mk], by omega⟩
end K05
set_option maxRecDepth 100000
namespace K05
open Sa
variable {W n : Nat} {v : D} {s : Gs} {h m l : Int} {ls : List D} {U : Sto}
abbrev st (h m l : Int) : D := .tup [.int h, .int m, .int l]
def R (s : Gs) (h m l : Int) (ls : List D) (U : Sto) : Sto := mk s (.ins 11 [(2, st h m l), (3, .loc 3)] :: .lst ls :: U)
theorem road_init (hp : Pv (st h m l) = true) (hs : isStore (st h m l) = true) : Ok (callF prog W (n + 4) 38 [.loc 2, st h m l] (mk s [.ins 11 []])) fun d S' => d = .non ∧ S' = R s h m l [] [] := by
  refine Ok.callFN (fn := c38) rfl rfl rfl ?_
  refine OkSs.expr <| Ok.pu (Pu.call (Pus.cons (Pu.var rfl) Pus.nil) (need_store_ok hp hs)) ?_
  refine OkSs.asg <| Ok.pu (Pu.var rfl) <| Ok.of (a := [some (.loc 2), some (st h m l)]) (S := mk s [.ins 11 [(2, st h m l)]]) (by kernel_rfl) ?_
  refine OkSs.asg <| Ok.of (a := .loc 3) (S := mk s [.ins 11 [(2, st h m l)], .lst []]) (by kernel_rfl) <| Ok.of (a := [some (.loc 2), some (st h m l)]) (S := R s h m l [] []) (by kernel_rfl) ?_
  exact OkSs.nil ⟨trivial, .inr (oldOk_no (i := 2) (o := .ins 11 [(2, st h m l), (3, .loc 3)]) (by show 2 < 3; decide) rfl (by show some (Ob.ins 11 []) ≠ _; simp) rfl), rfl, rfl⟩
theorem road_bad {T : Sto} {w : D} {a : Nat} (hp : Pv w = true) (hs : isStore w = false) : callF prog W (n + 4) 38 [.loc a, w] T = .err (.exc 7 []) T :=
  callF_err (fn := c38) rfl rfl rfl (Re.expr (Ee.call (Pus.cons (Pu.var rfl) Pus.nil) (need_store_err hp hs)))
theorem gd_pv {v : D} {k : Nat} {b : Int} (h : Gd k b v = true) (hk : k ≤ 1000) (hb : b ≤ 999999999999999999) : Pv v = true := Gd.mono hk hb h
theorem Letter.pv {d : D} {a b : Int} (h : Letter a b d) : Pv d = true := gd_pv h.2.1 (by decide) (by decide)
theorem R.old {s s2 : Gs} {a b c : Int} {xs ys : List D} (h : ∀ y ∈ ys, ∀ k, y.und k = true) : Old (R s a b c xs U).length (R s a b c xs U) (R s2 a b c ys U) := Old.mk (Nat.succ_pos _) ⟨.inl rfl, .inr (unds_mem.mpr fun y hy => h y hy _), Old.refl U⟩
theorem send_ok (hv : Pv v = true) (hr : rightLetter h m v = true) (hl : ls.length < 1000) (hu : ∀ x ∈ ls, ∀ k, x.und k = true) : callF prog W (n + 7) 39 [.loc 2, v] (R s h m l ls U) = .ok (.int ls.length) (R s h m l (ls ++ [v]) U) := by
  have key : Ok (callF prog W (n + 7) 39 [.loc 2, v] (R s h m l ls U)) fun d S' => d = .int ls.length ∧ S' = R s h m l (ls ++ [v]) U := by
    refine Ok.callF (fn := c39) rfl rfl rfl rfl ?_
    refine OkSs.expr <| Ok.pu (Pu.call (Pus.cons (d := st h m l) (by unfold Pu; kernel_rfl) (Pus.cons (Pu.var rfl) Pus.nil)) (need_letter_ok hv hr)) ?_
    refine OkSs.expr <| OkE.mth <| Ok.pu (d := .loc 3) (by unfold Pu; kernel_rfl) ⟨rfl, OkEs.pcons (Pu.var rfl) <| OkEs.nil <| Ok.of (S := R s h m l (ls ++ [v]) U) (o_append (a := 3) (xs := ls) rfl (by unfold big; omega)) ?_⟩
    refine OkSs.ret <| Ok.pu (d := .int (((ls ++ [v]).length : Int) - 1)) (Pu.op2 (d := .int (ls ++ [v]).length) (Pu.op1 (d := .loc 3) (by unfold Pu; kernel_rfl) rfl) Pu.cst rfl) ⟨trivial, R.old fun x hx k => ?_, _, frz_und rfl, by show D.int _ = _; simp, ?_⟩
    rotate_left
    · exact List.take_of_length_le (Nat.le_refl (U.length + 4))
    rcases List.mem_append.mp hx with hx | hx
    · exact hu x hx k
    · rw [List.mem_singleton.mp hx]; exact Gd.und hv
  obtain ⟨d, S', e, rfl, rfl⟩ := key.ex
  exact e
theorem send_err (hv : Pv v = true) (hr : rightLetter h m v = false) : callF prog W (n + 7) 39 [.loc 2, v] (R s h m l ls U) = .err (.exc 5 []) (R s h m l ls U) :=
  callF_err (fn := c39) rfl rfl rfl (Re.expr (Ee.call (Pus.cons (d := st h m l) (by unfold Pu; kernel_rfl) (Pus.cons (Pu.var rfl) Pus.nil)) (need_letter_err hv hr)))
theorem count_ok : callF prog W (n + 1) 40 [.loc 2] (R s h m l ls U) = .ok (.int ls.length) (R s h m l ls U) :=
  callF_pu (fn := c40) rfl rfl rfl (PuSs.stop (PuS.ret (Pu.op1 (d := .loc 3) (by unfold Pu; kernel_rfl) rfl))) (.inr ⟨_, rfl⟩) rfl
theorem letter_ok {i : Int} {x : D} (h0 : 0 ≤ i) (hx : ls[i.toNat]? = some x) (hl : ls.length ≤ 1000) (hu : ∀ k, x.und k = true) : callF prog W (n + 2) 41 [.loc 2, .int i] (R s h m l ls U) = .ok x (R s h m l ls U) := by
  have hi := (List.getElem?_eq_some_iff.mp hx).1
  have hv : Pv (.int i) = true := gd_int.mpr ⟨by omega, by omega⟩
  refine callF_pu (fn := c41) (fl := .rt x) rfl rfl rfl (PuSs.passB (x := !isNum (.int i) 0 || decide ((ls.length : Int) ≤ i)) (Pu.or (Pu.not (Pu.call (Pus.cons (Pu.var rfl) (Pus.cons Pu.cst Pus.nil)) (is_number hv))) fun _ => Pu.op2 (Pu.var rfl) (Pu.op1 (d := .loc 3) (z := .int ls.length) (by unfold Pu; kernel_rfl) rfl) rfl) ?_ (PuSs.stop (PuS.ret (Pu.op2 (d := .loc 3) (by unfold Pu; kernel_rfl) (Pu.var rfl) ?_)))) (.inr ⟨_, rfl⟩) (hu _)
  · rw [num_mk h0 (by omega), decide_eq_false (by omega)]; rfl
  · show R.lift _ ((ix ls.length i).bind fun j => ls[j]?) = _
    rw [ix_ok h0 (by omega), Option.bind_some, hx]; rfl
theorem letter_err {w : D} (hw : Pv w = true) (hn : isNum w 0 = false ∨ w = .int ls.length) : callF prog W (n + 2) 41 [.loc 2, w] (R s h m l ls U) = .err (.exc 6 []) (R s h m l ls U) := by
  refine callF_err (fn := c41) rfl rfl rfl (Re.whenB (x := !isNum w 0 || (isNum w 0)) (Pu.or (Pu.not (Pu.call (Pus.cons (Pu.var rfl) (Pus.cons Pu.cst Pus.nil)) (is_number hw))) fun h1 => ?_) (by cases isNum w 0 <;> rfl) (Re.raise (Pus.cons Pu.cst Pus.nil) rfl rfl))
  have h1 : isNum w 0 = true := by simpa using h1
  rcases hn with hn | rfl
  · rw [hn] at h1; cases h1
  · refine Pu.op2 (Pu.var rfl) (Pu.op1 (d := .loc 3) (z := .int ls.length) (by unfold Pu; kernel_rfl) rfl) ?_
    rw [h1]
    show Sa.R.ok (D.bl (decide ((ls.length : Int) ≤ ls.length))) _ = _
    rw [decide_eq_true (Int.le_refl _)]
/-- who waits for what -/
def isFor (r y : D) : Bool := D.eqv (at_ (at_ y 1) 1) r
def waits (ls : List D) (r : D) : List D := ((numbered 0 ls).filter (isFor r)).map fun y => at_ y 0
theorem letter_shape {d : D} (hd : Letter h m d) : isTup d = true ∧ 1 < (tItems d).length ∧ (at_ d 1).sh = true ∧ (isEnd (at_ d 1) "hand" h = true ∨ isEnd (at_ d 1) "house" m = true) := by
  have hr := hd.1
  unfold rightLetter at hr
  rw [Bool.and_eq_true] at hr
  obtain ⟨h1, h2⟩ := hr
  simp only [Bool.not_eq_true', Bool.or_eq_false_iff, Bool.not_eq_false'] at h1
  have e := three h1.1 h1.2
  refine ⟨h1.1, lenB_lt (n := 3) h1.2 (by decide), ?_, ?_⟩
  · have hn := hd.2
    rw [e] at hn
    exact (Nice.at_ hn (x := at_ d 1) (by simp)).sh (by decide)
  · split at h2
    · rw [Bool.and_eq_true] at h2; exact .inr h2.1
    · simp only [Bool.and_eq_true] at h2; exact .inl h2.2.1
theorem waits_und {k : Nat} (ls : List D) (r : D) : (D.lst (waits ls r)).und k = true := by
  show unds k (waits ls r) = true
  rw [unds_mem]
  intro x hx
  obtain ⟨y, hy, rfl⟩ := List.mem_map.mp hx
  obtain ⟨j, z, rfl, _⟩ := numbered_mem (List.mem_filter.mp hy).1
  rfl
theorem waits_shown {ls : List D} {r : D} (hl : ls.length ≤ 20) : ∃ t, shown (.lst (waits ls r)) = some t ∧ (D.str t).sh = true := by
  have hx : ∀ x ∈ waits ls r, ∃ j : Nat, x = .int (j : Int) ∧ j < 20 := fun x hx => by
    obtain ⟨y, hy, rfl⟩ := List.mem_map.mp hx
    obtain ⟨j, z, rfl, _, hj⟩ := numbered_mem (List.mem_filter.mp hy).1
    exact ⟨j, rfl, by omega⟩
  have hlen : (waits ls r).length ≤ 20 := by
    unfold waits
    rw [List.length_map]
    exact Nat.le_trans (List.length_filter_le _ _) (by rw [nbd_len]; exact hl)
  refine shown_ok (m := 20) (k := 1) (b := 1000) (by decide) (by decide) (gd_lst.mpr ⟨hlen, fun x h => ?_⟩) (Nat.succ_le_succ (dps_le.mpr fun x h => ?_)) (noDs_mem.mpr fun x h => ?_) (by decide) (by decide)
  · obtain ⟨j, rfl, hj⟩ := hx x h
    exact gd_int.mpr ⟨by omega, by omega⟩
  · obtain ⟨j, rfl, hj⟩ := hx x h
    exact Nat.le_refl _
  · obtain ⟨j, rfl, hj⟩ := hx x h
    rfl
theorem waiting_ok {w : D} (hw : Pv w = true) (hs : w.sh = true) (he : isEnd w "hand" h = true ∨ isEnd w "house" m = true) (hls : ∀ x ∈ ls, Letter h m x) (hl : ls.length ≤ 1000) : callF prog W (n + 3) 42 [.loc 2, w] (R s h m l ls U) = .ok (.lst (waits ls w)) (R s h m l ls U) := by
  refine callF_pu (fn := c42) (fl := .rt (.lst (waits ls w))) rfl rfl rfl (PuSs.passB (x := !isEnd w "hand" h && !isEnd w "house" m) (Pu.and (Pu.not (Pu.call (Pus.cons (Pu.var rfl) (Pus.cons Pu.cst (Pus.cons (Pu.op2 (d := st h m l) (z := .int h) (by unfold Pu; kernel_rfl) Pu.cst (o_idxT (by decide) rfl)) Pus.nil))) (is_end sh_hand hw))) fun _ => Pu.not (Pu.call (Pus.cons (Pu.var rfl) (Pus.cons Pu.cst (Pus.cons (Pu.op2 (d := st h m l) (z := .int m) (by unfold Pu; kernel_rfl) Pu.cst (o_idxT (by decide) rfl)) Pus.nil))) (is_end sh_house hw))) ?_ (PuSs.stop (PuS.ret (Pu.compTL (k := 3) (ys := ls) (xs := numbered 0 ls) (g := fun y => [some (.loc 2), some w, some (at_ y 0), some (at_ y 1)]) (p := isFor w) (f := fun y => at_ y 0) rfl ?_ (fun y hy => ?_) (fun y hy => ?_) (fun y hy _ => Pu.var rfl) (by rw [nbd_len]; exact Nat.le_trans hl (by decide)))))) (.inr ⟨_, rfl⟩) (waits_und ls w)
  · rcases he with he | he <;> rw [he] <;> simp
  · kernel_rfl
  · obtain ⟨j, x, rfl, _⟩ := numbered_mem hy
    rfl
  · obtain ⟨j, x, rfl, hx, _⟩ := numbered_mem hy
    obtain ⟨q1, q2, q3, _⟩ := letter_shape (hls x hx)
    exact Pu.op2 (Pu.op2 (d := x) (Pu.var rfl) Pu.cst (at_ok (i := 1) q1 q2)) (Pu.var rfl) (o_eq q3 hs)
theorem waiting_err {w : D} (hw : Pv w = true) (h1 : isEnd w "hand" h = false) (h2 : isEnd w "house" m = false) : callF prog W (n + 3) 42 [.loc 2, w] (R s h m l ls U) = .err (.exc 8 []) (R s h m l ls U) := by
  refine callF_err (fn := c42) rfl rfl rfl (Re.whenB (x := !isEnd w "hand" h && !isEnd w "house" m) (Pu.and (Pu.not (Pu.call (Pus.cons (Pu.var rfl) (Pus.cons Pu.cst (Pus.cons (Pu.op2 (d := st h m l) (z := .int h) (by unfold Pu; kernel_rfl) Pu.cst (o_idxT (by decide) rfl)) Pus.nil))) (is_end sh_hand hw))) fun _ => Pu.not (Pu.call (Pus.cons (Pu.var rfl) (Pus.cons Pu.cst (Pus.cons (Pu.op2 (d := st h m l) (z := .int m) (by unfold Pu; kernel_rfl) Pu.cst (o_idxT (by decide) rfl)) Pus.nil))) (is_end sh_house hw))) (by rw [h1, h2]; rfl) (Re.raise (Pus.cons Pu.cst Pus.nil) rfl rfl))
end K05
set_option maxRecDepth 100000
namespace K05
open Sa
variable {W n : Nat} {v : D} {s : Gs} {h m l : Int} {ls : List D}
theorem isown {P : Prog} {c : Nat} {cl : Cl} {S : Sto} (hc : P.cls[c]? = some cl) (he : cl.exc = true) (hu : cl.up.contains c = true) : opSem P (.isin (.own c)) [.exc c []] S = .ok (.bl true) S := by
  show bl S (kindOf P S (.own c) (.exc c [])) = _
  have : kindOf P S (.own c) (.exc c []) = some true := by
    unfold kindOf
    simp only [hc, he, if_true, hu]
  rw [this]; rfl
theorem catV {P : Prog} {S : Sto} {xs ys : List D} (h : xs.length + ys.length ≤ big) : opSem P .add [.lst xs, .lst ys] S = .ok (.lst (xs ++ ys)) S := by
  show (if xs.length + ys.length ≤ big then _ else _) = _
  rw [if_pos h]
theorem letter_und {d : D} {k : Nat} (hd : Letter h m d) : d.und k = true := Gd.und hd.2.1
theorem letter_shown {d : D} (hd : Letter h m d) : ∃ t, shown d = some t ∧ (D.str t).sh = true := shown_ok (m := 10) (k := 4) (by decide) (by decide) hd.2.1 hd.2.2.1 hd.2.2.2 (by decide) (by decide)
theorem letter_pv1 {d : D} (hd : Letter h m d) : Pv (at_ d 1) = true := at_pv hd.pv
theorem caught_own {C : Rt} {e : E} {c : Nat} {cl : Cl} {env : Sa.Env} {S : Sto} {Q : D → Sto → Prop} (he : evE C e env S = .err (.exc c []) S) (hc : C.P.cls[c]? = some cl) (hx : cl.exc = true) (hu : cl.up.contains c = true) (hs : isSub C.P c C.P.top = true) (q : Q (.bl false) S) : Ok (evE C (.not (.op (.isin (.own c)) (.cons (.caught e) .nil))) env S) Q :=
  OkE.not <| OkE.op <| OkEs.cons <| OkE.caughtErr he hs <| OkEs.nil <| Ok.of (isown hc hx hu) ⟨true, rfl, q⟩
theorem end_bad1 {k : Int} {w : PySem.Str} {x : D} (hx : (isNum x 0 && ltB x k) = false) : isEnd (.tup [.str w, x]) w k = false := by
  show (true && (decide (((2 : Nat) : Int) = 2) && (true && (decide (w = w) && (isNum x 0 && ltB x k))))) = false
  rw [hx]; simp
theorem end_word {w w' : PySem.Str} {x : D} {k : Int} (hw : w ≠ w') : isEnd (.tup [.str w, x]) w' k = false := by
  show (true && (decide (((2 : Nat) : Int) = 2) && (true && (decide (w = w') && _)))) = false
  rw [decide_eq_false hw]; simp
theorem road (h1 : 1 ≤ h) (h2 : h ≤ 10) (m1 : 1 ≤ m) (m2 : m ≤ 100) (hp : Pv (st h m l) = true) (hs : isStore (st h m l) = true) (ht : s.turn + 1000 ≤ tmax) : Ok (callF prog W (n + 10) 32 [.loc 1, st h m l] (mk s [])) fun d S' => ∃ s', d = .bl true ∧ S' = mk s' [] ∧ s'.turn ≤ s.turn + 1000 := by
  refine Ok.callF (fn := c32) rfl rfl rfl rfl ?_
  refine OkSs.asg <| OkE.tup <| OkEs.cons <| OkE.new rfl <| OkEs.pcons (Pu.var rfl) <| OkEs.nil <| (road_init hp hs).imp fun d S' q => ?_
  obtain ⟨rfl, rfl⟩ := q
  refine ⟨rfl, OkEs.pcons (d := .lst []) rfl <| OkEs.nil ?_⟩
  refine Ok.of (a := [some (.loc 1), some (st h m l), none, none, some (.loc 2), some (.lst []), none, none, none, none, none, none]) (S := R s h m l [] []) (by kernel_rfl) ?_
  have hst : (st h m l).sh = true := by kernel_rfl
  refine OkSs.skip <| OkE.or <| Ok.pu (d := .bl false) (Pu.op2 (d := st h m l) (e := st h m l) (by unfold Pu; kernel_rfl) (Pu.var rfl) (o_ne_same hst)) ⟨false, rfl, nofun, fun _ => ?_⟩
  refine OkE.or <| Ok.pu (d := .bl false) (Pu.op2 (d := .int (0 : Nat)) (Pu.meth (d := .loc 2) (Pu.var rfl) ⟨2, 11, _, _, rfl, rfl, rfl, rfl, rfl⟩ Pus.nil (count_ok (W := W) (n := n + 8))) Pu.cst rfl) ⟨false, rfl, nofun, fun _ => ?_⟩
  refine OkE.not <| OkE.op <| OkEs.cons <| OkE.caughtErr (k := 7) (fs := []) (S' := R s h m l [] [.ins 11 []]) ?_ rfl <| OkEs.nil <| Ok.of (a := .bl true) rfl ⟨true, rfl, rfl, ?_⟩
  · exact callE_new rfl (Pus.cons (d := .tup [.int 1, .int 1, .int 1]) rfl Pus.nil) (road_bad (n := n + 5) (by decide +kernel) (by decide +kernel))
  refine OkSs.forS (fun env S l' => ∃ (s' : Gs) (ls : List D) (U : Sto) (x2 x3 x6 x7 x8 x9 x10 x11 : Option D), env = [some (.loc 1), some (st h m l), x2, x3, some (.loc 2), some (.lst ls), x6, x7, x8, x9, x10, x11] ∧ S = R s' h m l ls U ∧ (∀ x ∈ ls, Letter h m x) ∧ ls.length + l'.length ≤ 12 ∧ s'.turn + 50 * l'.length ≤ s.turn + 600) ?_ (fun x l' env S hI => ?_) fun env S hI => ?_
  · refine Ok.of (a := (upto 0 12, .no)) (S := R s h m l [] [.ins 11 []]) (by kernel_rfl) ⟨rfl, s, [], [.ins 11 []], none, none, none, none, none, none, none, none, rfl, rfl, nofun, by decide, by simp [upto]⟩
  · obtain ⟨s1, ls, U, x2, x3, x6, x7, x8, x9, x10, x11, rfl, rfl, hls, hlen, t1⟩ := hI
    simp only [List.length_cons] at hlen t1
    refine OkT.nm <| OkSs.asgN <| OkE.call <| OkEs.pcons (Pu.var rfl) <| OkEs.pcons (Pu.var rfl) <| OkEs.nil ?_
    refine (letter (n := n + 5) h1 h2 m1 m2 (by omega)).imp fun d S' q => ?_
    obtain ⟨s2, hd, rfl, t2⟩ := q
    refine OkSs.asgN <| OkE.call <| OkEs.pcons (Pu.var rfl) <| OkEs.pcons (Pu.var rfl) <| OkEs.nil ?_
    refine (bent (m := 10) (b := 100000000000000000) (by decide) (by decide) (by decide) 4 (n + 9) d s2 (by omega) hd.2.2.1 hd.2.1 (by omega)).imp fun b S' q => ?_
    obtain ⟨s3, hb, rfl, t3⟩ := q
    have hbp : Pv b = true := gd_pv hb (by decide) (by decide)
    have hru : ∀ x ∈ ls, ∀ k, x.und k = true := fun x hx k => letter_und (hls x hx)
    have mat : ∀ (s : Gs) (ls : List D) (mm f : Nat), getN [(8, 39), (7, 40), (9, 41), (10, 42)] mm = some f → getF [(2, st h m l), (3, .loc 3)] mm = none → MethAt prog (R s h m l ls U) (.loc 2) mm f := fun s ls mm f e1 e2 => ⟨2, 11, _, _, rfl, rfl, rfl, e1, e2⟩
    refine OkSs.skip (Ok.imp (P := fun d S1 => d = .bl false ∧ S1 = R s3 h m l ls U) (OkE.and <| Ok.pu (d := .bl (decide (rightLetter h m b = false))) (Pu.op2 (d := .bl (rightLetter h m b)) (e := .bl false) (Pu.call (Pus.cons (Pu.var rfl) (Pus.cons (Pu.var rfl) Pus.nil)) (l_letter (n := n + 5) hbp)) Pu.cst rfl) ⟨_, rfl, fun hr => ?_, fun _ => ⟨rfl, rfl⟩⟩) fun d1 S1 q => ?_)
    · exact caught_own (callE_meth (Pu.var rfl) (mat s3 ls 8 39 rfl rfl) (Pus.cons (Pu.var rfl) Pus.nil) (send_err (n := n + 2) hbp (of_decide_eq_true hr))) rfl rfl rfl rfl ⟨rfl, rfl⟩
    obtain ⟨rfl, rfl⟩ := q
    refine ⟨rfl, OkSs.skip <| OkE.op <| OkEs.cons <| OkE.meth <| Ok.pu (Pu.var rfl) ⟨39, mat s3 ls 8 39 rfl rfl, OkEs.pcons (Pu.var rfl) <| OkEs.nil <| Ok.of (send_ok (n := n + 2) hd.pv hd.1 (by omega) hru) <| OkEs.pcons (d := .int ls.length) (Pu.op1 (Pu.var rfl) rfl) <| OkEs.nil <| Ok.of (a := .bl false) (S := R s3 h m l (ls ++ [d]) U) ?_ ⟨rfl, ?_⟩⟩⟩
    · show opSem prog .ne [.int ls.length, .int ls.length] _ = _
      rw [o_ne_int, decide_eq_true rfl]; rfl
    have hls2 : ∀ x ∈ ls ++ [d], Letter h m x := fun x hx => by
      rcases List.mem_append.mp hx with hx | hx
      · exact hls x hx
      · rw [List.mem_singleton.mp hx]; exact hd
    have hlen2 : (ls ++ [d]).length + l'.length ≤ 12 := by simp; omega
    have hne : ls ++ [d] ≠ [] := by simp
    refine OkSs.asgN <| Ok.pu (d := .lst (ls ++ [d])) (Pu.op2 (d := .lst ls) (e := .lst [d]) (Pu.var rfl) rfl (catV (by unfold big; simp; omega))) ?_
    generalize hls3 : ls ++ [d] = ls3 at hls2 hlen2 hne ⊢
    have hpos : 0 < ls3.length := List.length_pos_iff.mpr hne
    refine OkSs.asg <| OkE.tup <| OkEs.cons <| OkE.call <| OkEs.pcons (Pu.var rfl) <| OkEs.pcons (d := .int ls3.length) (Pu.op1 (d := .lst ls3) (Pu.var rfl) rfl) <| OkEs.nil ?_
    refine (draw (n := n + 7) (by omega) (by omega) (by omega)).imp fun i S' q => ?_
    obtain ⟨i, s4, rfl, i0, i1, rfl, t4⟩ := q
    refine OkEs.cons <| OkE.op <| OkEs.cons <| OkE.call <| OkEs.pcons (Pu.var rfl) <| OkEs.pcons (d := .lst ls3) (Pu.var rfl) <| OkEs.nil ?_
    refine (pick (n := n + 6) hne (by omega) (fun x hx => letter_und (hls2 x hx)) (by omega)).imp fun w S' q => ?_
    obtain ⟨s5, hw, rfl, t5⟩ := q
    have hwl := hls2 w hw
    obtain ⟨w1, w2, w3, w4⟩ := letter_shape hwl
    refine OkEs.pcons Pu.cst <| OkEs.nil <| Ok.of (at_ok (i := 1) w1 w2) <| OkEs.nil ?_
    refine Ok.of (a := [some (.loc 1), some (st h m l), some x, x3, some (.loc 2), some (.lst ls3), some d, some b, some (.int i), some (at_ w 1), x10, x11]) (S := R s5 h m l ls3 U) (by kernel_rfl) ?_
    have hi : i.toNat < ls3.length := by omega
    have hxi : ls3[i.toNat]? = some ls3[i.toNat] := List.getElem?_eq_getElem hi
    have hxl := hls2 _ (List.getElem_mem hi)
    obtain ⟨tx, tx1, tx2⟩ := letter_shown hxl
    have nl : ∀ {d : D} {S : Sto}, Letter h m d → top S d = d := fun {d S} hd => by
      have := (letter_shape hd).1
      rw [tup_of this]; rfl
    refine OkSs.skip <| Ok.pu (d := .bl (false || false)) (Pu.or (Pu.op2 (Pu.op1 (Pu.meth (Pu.var rfl) (mat s5 ls3 9 41 rfl rfl) (Pus.cons (Pu.var rfl) Pus.nil) (letter_ok (W := W) (n := n + 7) i0 hxi (by omega) fun k => letter_und hxl)) (o_repr tx1 (nl hxl))) (Pu.op1 (Pu.op2 (Pu.var rfl) (Pu.var rfl) (o_idx i0 hxi)) (o_repr tx1 (nl hxl))) (o_ne_same tx2)) fun _ => Pu.op2 (Pu.meth (Pu.var rfl) (mat s5 ls3 7 40 rfl rfl) Pus.nil (count_ok (W := W) (n := n + 8))) (Pu.op1 (d := .lst ls3) (z := .int ls3.length) (Pu.var rfl) rfl) (o_ne_same rfl)) ⟨rfl, ?_⟩
    obtain ⟨ty, ty1, ty2⟩ := waits_shown (ls := ls3) (r := at_ w 1) (by omega)
    refine OkSs.skip <| Ok.pu (d := .bl false) (Pu.op2 (Pu.op1 (Pu.meth (Pu.var rfl) (mat s5 ls3 10 42 rfl rfl) (Pus.cons (Pu.var rfl) Pus.nil) (waiting_ok (W := W) (n := n + 6) (letter_pv1 hwl) w3 w4 hls2 (by omega))) (o_repr ty1 rfl)) (Pu.op1 (Pu.compT (xs := numbered 0 ls3) (g := fun y => [some (.loc 1), some (st h m l), some x, x3, some (.loc 2), some (.lst ls3), some d, some b, some (.int i), some (at_ w 1), some (at_ y 0), some (at_ y 1)]) (p := isFor (at_ w 1)) (f := fun y => at_ y 0) rfl (fun y hy => ?_) (fun y hy => ?_) (fun y hy _ => Pu.var rfl) (by rw [nbd_len]; unfold big; omega)) (o_repr ty1 rfl)) (o_ne_same ty2)) ⟨rfl, ?_⟩
    · obtain ⟨j, x, rfl, _⟩ := numbered_mem hy
      rfl
    · obtain ⟨j, x, rfl, hx, _⟩ := numbered_mem hy
      obtain ⟨q1, q2, q3, _⟩ := letter_shape (hls2 x hx)
      exact Pu.op2 (Pu.op2 (d := x) (Pu.var rfl) Pu.cst (at_ok (i := 1) q1 q2)) (Pu.var rfl) (o_eq q3 w3)
    refine OkSs.forS (fun env S l2 => ∃ x3, env = [some (.loc 1), some (st h m l), some x, x3, some (.loc 2), some (.lst ls3), some d, some b, some (.int i), some (at_ w 1), x10, x11] ∧ S = R s5 h m l ls3 U ∧ ∀ y ∈ l2, y ∈ [.int ls3.length, .int (-1), .bl true, .non]) (Ok.of (a := ([.int ls3.length, .int (-1), .bl true, .non], .no)) (S := R s5 h m l ls3 U) (by kernel_rfl) ⟨rfl, x3, rfl, rfl, fun y hy => hy⟩) (fun y l2 env S hI => ?_) fun env S hI => ?_
    · obtain ⟨_, rfl, rfl, hy⟩ := hI
      refine OkT.nm <| OkSs.skip <| caught_own (callE_meth (Pu.var rfl) (mat s5 ls3 9 41 rfl rfl) (Pus.cons (Pu.var rfl) Pus.nil) (letter_err (n := n + 7) (w := y) ?_ ?_)) rfl rfl rfl rfl ⟨rfl, OkSs.nil ⟨_, rfl, rfl, fun z hz => hy z (List.mem_cons_of_mem _ hz)⟩⟩
      · have := hy y List.mem_cons_self
        simp only [List.mem_cons, List.not_mem_nil, or_false] at this
        rcases this with rfl | rfl | rfl | rfl
        · exact gd_int.mpr ⟨by omega, by omega⟩
        all_goals rfl
      · have := hy y List.mem_cons_self
        simp only [List.mem_cons, List.not_mem_nil, or_false] at this
        rcases this with rfl | rfl | rfl | rfl
        · exact .inr rfl
        all_goals exact .inl rfl
    · obtain ⟨x3, rfl, rfl, _⟩ := hI
      exact OkSs.nil ⟨s5, ls3, U, _, _, _, _, _, _, _, _, rfl, rfl, hls2, hlen2, by omega⟩
  · obtain ⟨s1, ls, U, x2, x3, x6, x7, x8, x9, x10, x11, rfl, rfl, hls, hlen, t1⟩ := hI
    have hal : ∀ y ∈ [D.tup [.str "hand", .int h], .tup [.str "house", .int m], .tup [.str "hand", .bl true], .non, .tup [.str "liar", .int 0], .lst [.str "hand", .int 0]], Pv y = true ∧ isEnd y "hand" h = false ∧ isEnd y "house" m = false := fun y hy => by
      have hw1 : ("hand" : PySem.Str) ≠ "house" := by decide +kernel
      have hw2 : ("house" : PySem.Str) ≠ "hand" := by decide +kernel
      have p2 : ∀ {w : PySem.Str} {k : Int}, Gd 10 100000000000000000 (.str w) = true → 1 ≤ k → k ≤ 100 → Pv (.tup [.str w, .int k]) = true := fun hw k1 k2 => gd_pv (nice_end hw (by omega) k2).1 (by decide) (by decide)
      have lt : ∀ {k : Int}, (isNum (.int k) 0 && ltB (.int k) k) = false := fun {k} => by
        rw [show ltB (.int k) k = false from decide_eq_false (Int.lt_irrefl _)]; simp
      simp only [List.mem_cons, List.not_mem_nil, or_false] at hy
      rcases hy with rfl | rfl | rfl | rfl | rfl | rfl
      · exact ⟨p2 (by decide +kernel) h1 (by omega), end_bad1 lt, end_word hw1⟩
      · exact ⟨p2 (by decide +kernel) m1 m2, end_word hw2, end_bad1 lt⟩
      · exact ⟨by decide +kernel, end_bad1 rfl, end_word hw1⟩
      · exact ⟨rfl, rfl, rfl⟩
      · exact ⟨by decide +kernel, end_word (by decide +kernel), end_word (by decide +kernel)⟩
      · exact ⟨by decide +kernel, rfl, rfl⟩
    refine OkSs.forS (fun env S l2 => ∃ x3, env = [some (.loc 1), some (st h m l), x2, x3, some (.loc 2), some (.lst ls), x6, x7, x8, x9, x10, x11] ∧ S = R s1 h m l ls U ∧ ∀ y ∈ l2, y ∈ [D.tup [.str "hand", .int h], .tup [.str "house", .int m], .tup [.str "hand", .bl true], .non, .tup [.str "liar", .int 0], .lst [.str "hand", .int 0]]) (Ok.of (a := ([D.tup [.str "hand", .int h], .tup [.str "house", .int m], .tup [.str "hand", .bl true], .non, .tup [.str "liar", .int 0], .lst [.str "hand", .int 0]], .no)) (S := R s1 h m l ls U) (by kernel_rfl) ⟨rfl, x3, rfl, rfl, fun y hy => hy⟩) (fun y l2 env S hI => ?_) fun env S hI => ?_
    · obtain ⟨_, rfl, rfl, hy⟩ := hI
      obtain ⟨q1, q2, q3⟩ := hal y (hy y List.mem_cons_self)
      exact OkT.nm <| OkSs.skip <| caught_own (callE_meth (Pu.var rfl) ⟨2, 11, _, _, rfl, rfl, rfl, rfl, rfl⟩ (Pus.cons (Pu.var rfl) Pus.nil) (waiting_err (n := n + 6) (w := y) q1 q2 q3)) rfl rfl rfl rfl ⟨rfl, OkSs.nil ⟨_, rfl, rfl, fun z hz => hy z (List.mem_cons_of_mem _ hz)⟩⟩
    · obtain ⟨x3, rfl, rfl, _⟩ := hI
      exact OkSs.ret <| Ok.pu Pu.cst ⟨trivial, Old.mk (Nat.succ_pos _) trivial, _, frz_und rfl, s1, rfl, rfl, by simp at t1; omega⟩
end K05
set_option maxRecDepth 100000
namespace Sa
/-! how many things are within a tuple -/
mutual
def D.sz : D → Nat
  | .tup xs => szs xs + 1
  | _ => 1
def szs : List D → Nat
  | [] => 0
  | x :: r => D.sz x + szs r
end
theorem szs_app : ∀ (xs ys : List D), szs (xs ++ ys) = szs xs + szs ys
  | [], ys => by show szs ys = 0 + szs ys; omega
  | x :: r, ys => by show D.sz x + szs (r ++ ys) = D.sz x + szs r + szs ys; rw [szs_app r ys]; omega
theorem szs_len : ∀ xs : List D, xs.length ≤ szs xs
  | [] => Nat.le_refl _
  | x :: r => by
    have := szs_len r
    have h : 1 ≤ D.sz x := by cases x <;> first
      | exact Nat.le_refl _
      | exact Nat.succ_le_succ (Nat.zero_le _)
    show r.length + 1 ≤ D.sz x + szs r
    omega
theorem app_at {S : Sto} {o : Ob} {r : Sto} : (S ++ o :: r)[S.length]? = some o := by simp
theorem app_at1 {S : Sto} {o p : Ob} {r : Sto} : (S ++ o :: p :: r)[S.length + 1]? = some p := by simp
theorem app_set {S : Sto} {o p : Ob} {r : Sto} : (S ++ o :: r).set S.length p = S ++ p :: r := by simp
theorem app_set1 {S : Sto} {o p q : Ob} {r : Sto} : (S ++ o :: p :: r).set (S.length + 1) q = S ++ o :: q :: r := by simp
theorem app_old {S U : Sto} {a : Nat} {o : Ob} (h : S[a]? = some o) : (S ++ U)[a]? = some o := by
  rw [List.getElem?_append_left (List.getElem?_eq_some_iff.mp h).1, h]
theorem o_pop {P : Prog} {S : Sto} {a : Nat} {xs : List D} {x : D} (ha : S[a]? = some (.lst (xs ++ [x]))) : opSem P .pop [.loc a] S = .ok x (S.set a (.lst xs)) := by
  show withL S (.loc a) (popS S) = _
  unfold withL
  simp only [ha]
  unfold popS
  simp
theorem o_extend {P : Prog} {S : Sto} {a : Nat} {xs ys : List D} (ha : S[a]? = some (.lst xs)) (h : xs.length + ys.length ≤ big) : opSem P .extend [.loc a, .tup ys] S = .ok .non (S.set a (.lst (xs ++ ys))) := by
  show withL S (.loc a) (extS S (.tup ys)) = _
  unfold withL
  simp only [ha]
  show (if xs.length + ys.length ≤ big then _ else _) = _
  rw [if_pos h]
end Sa
namespace K05
open Sa
variable {W n : Nat} {S U : Sto} {v : D}
/-- plain, or a dict of the store -/
def Fit (S : Sto) (x : D) : Prop := Pv x = true ∨ ∃ a kvs lk, x = .loc a ∧ S[a]? = some (.dct kvs lk)
theorem Fit.app {x : D} (h : Fit S x) : Fit (S ++ U) x := by
  rcases h with h | ⟨a, k, l, e, h⟩
  · exact .inl h
  · exact .inr ⟨a, k, l, e, app_old h⟩
theorem Fit.und {x : D} (h : Fit S x) : x.und S.length = true := by
  rcases h with h | ⟨a, k, l, rfl, h⟩
  · exact Gd.und h
  · exact decide_eq_true (List.getElem?_eq_some_iff.mp h).1
theorem f_tup {x : D} (h : Fit S x) : opSem prog (.isin .tuple) [x] S = .ok (.bl (isTup x)) S := by
  rcases h with h | ⟨a, k, l, rfl, h⟩
  · exact o_tup h
  · show bl S (kindOf prog S .tuple (.loc a)) = _
    simp only [kindOf, h]; rfl
theorem f_str {x : D} (h : Fit S x) : opSem prog (.isin .str) [x] S = .ok (.bl (isStr x)) S := by
  rcases h with h | ⟨a, k, l, rfl, h⟩
  · exact o_str h
  · show bl S (kindOf prog S .str (.loc a)) = _
    simp only [kindOf, h]; rfl
theorem f_int {x : D} (h : Fit S x) : opSem prog (.isin .int) [x] S = .ok (.bl (isInt x)) S := by
  rcases h with h | ⟨a, k, l, rfl, h⟩
  · exact o_int h
  · show bl S (kindOf prog S .int (.loc a)) = _
    simp only [kindOf, h]; rfl
theorem f_name {x : D} (h : Fit S x) : callF prog W (n + 2) 4 [x] S = .ok (.bl (hasName x)) S := by
  rcases h with h | ⟨a, k, l, rfl, h⟩
  · exact has_name_form h
  · exact Rb.callF (fn := c4) rfl rfl rfl (Rb.ret (Pu.and (x := false) (y := false) (Pu.op1 (Pu.var rfl) (f_tup (.inr ⟨a, k, l, rfl, h⟩))) nofun)) rfl
def isPlain (v : D) : Bool := match v with
  | .non => true
  | .str _ => true
  | .int _ => true
  | _ => false
theorem is_plain {x : D} (h : Fit S x) : callF prog W (n + 1) 15 [x] S = .ok (.bl (isPlain x)) S := by
  refine Rb.callF (fn := c15) (b := if decide (x = .non) || isStr x then true else isInt x && (!isBl x && isInt x)) rfl rfl rfl (Rb.ite (Pu.or (Pu.op2 (Pu.var rfl) Pu.cst rfl) fun _ => Pu.op1 (Pu.var rfl) (f_str h)) (fun _ => Rb.ret Pu.cst) fun h0 => Rb.ret (Pu.and (Pu.op1 (Pu.var rfl) (f_int h)) fun h1 => Pu.and (Pu.not (Pu.op1 (Pu.var rfl) ?_)) fun h2 => ?_)) ?_
  · rcases h with h | ⟨a, k, l, rfl, h⟩
    · exact o_bl h
    · cases h1
  · rcases h with h | ⟨a, k, l, rfl, h⟩
    · cases x <;> first
        | (cases h1; done)
        | (cases h2; done)
        | skip
      rename_i i
      have hi := gd_int.mp h
      refine Pu.op2 (Pu.op1 (z := .int (if i < 0 then -i else i)) (Pu.var rfl) rfl) Pu.cst ?_
      show Sa.R.ok (D.bl (decide ((if i < 0 then -i else i) < 1000000000000000000))) _ = _
      rw [decide_eq_true (by split <;> omega)]; rfl
    · cases h1
  · cases x <;> rfl
/- of content's form -/
mutual
def cf : D → Bool
  | .tup xs => hasName (.tup xs) || cfs xs
  | .non => true
  | .str _ => true
  | .int _ => true
  | _ => false
def cfs : List D → Bool
  | [] => true
  | x :: r => cf x && cfs r
end
theorem cfs_app : ∀ xs ys : List D, cfs (xs ++ ys) = (cfs xs && cfs ys)
  | [], _ => rfl
  | x :: r, ys => by show (cf x && cfs (r ++ ys)) = (cf x && cfs r && cfs ys); rw [cfs_app r ys, Bool.and_assoc]
def okPart (x : D) : Bool := isPlain x || hasName x
theorem cf_part {x : D} (h : isTup x = false ∨ hasName x = true) : cf x = okPart x := by
  rcases h with h | h
  · cases x <;> first
      | (cases h; done)
      | rfl
  · have ht := (name_int h).1
    cases x <;> first
      | (cases ht; done)
      | skip
    unfold okPart
    rw [h]
    show (hasName _ || _) = _
    rw [h]; simp
theorem parts_within (h : Fit S v) (hz : D.sz v ≤ 1000) (hW : 1000 < W) : ∃ fs, callF prog W (n + 3) 14 [v] S = .ok (.lst fs) S ∧ fs.all okPart = cf v ∧ (∀ x ∈ fs, Fit S x) ∧ fs.length ≤ 1000 := by
  have key : Ok (callF prog W (n + 3) 14 [v] S) fun d S' => ∃ fs, d = .lst fs ∧ S' = S ∧ fs.all okPart = cf v ∧ (∀ x ∈ fs, Fit S x) ∧ fs.length ≤ 1000 := by
    refine Ok.callF (fn := c14) rfl rfl rfl rfl ?_
    have hbig : big = 16000000 := rfl
    refine OkSs.asg <| OkE.tup <| OkEs.cons <| OkE.lst <| OkEs.nil <| Ok.of (a := .loc S.length) (S := S ++ [.lst []]) rfl <| OkEs.cons <| OkE.lst <| OkEs.pcons (Pu.var rfl) <| OkEs.nil <| Ok.of (a := .loc (S.length + 1)) (S := S ++ [.lst [], .lst [v]]) ?_ <| OkEs.nil <| Ok.of (a := [some v, some (.loc S.length), some (.loc (S.length + 1)), none]) (S := S ++ [.lst [], .lst [v]]) rfl ?_
    · show Sa.R.ok (D.loc (S ++ [Ob.lst []]).length) ((S ++ [Ob.lst []]) ++ [Ob.lst [v]]) = _
      simp
    refine OkSs.whl (fun k env S' => ∃ fs ls x, env = [some v, some (.loc S.length), some (.loc (S.length + 1)), x] ∧ S' = S ++ [.lst fs, .lst ls] ∧ szs ls = k ∧ fs.length + k ≤ 1000 ∧ (fs.all okPart && cfs ls) = cf v ∧ (∀ x ∈ fs, Fit S x) ∧ ∀ x ∈ ls, Fit S x) (D.sz v) ⟨[], [v], none, rfl, rfl, by show D.sz v + 0 = _; omega, by simpa using hz, by show (true && (cf v && true)) = _; simp, nofun, fun x hx => by rw [List.mem_singleton.mp hx]; exact h⟩ (by show D.sz v < W; omega) fun k env S' hI => ?_
    obtain ⟨fs, ls, x, rfl, rfl, hk, hl, hc, hf, hls⟩ := hI
    refine Ok.pu (d := .bl (!ls.isEmpty)) (Pu.op2 (Pu.var rfl) (d := .loc (S.length + 1)) (e := .lst []) rfl (o_ne_nil app_at1)) ⟨_, rfl, fun hl0 => ?_, fun hl0 => ?_⟩
    · have hne : ls ≠ [] := by cases ls <;> simp at hl0 ⊢
      obtain ⟨l0, y, rfl⟩ : ∃ l0 y, ls = l0 ++ [y] := ⟨_, _, (List.dropLast_concat_getLast hne).symm⟩
      have hy : Fit S y := hls y (by simp)
      rw [szs_app] at hk
      have hk2 : szs [y] = D.sz y := by show D.sz y + 0 = _; omega
      rw [cfs_app] at hc
      have hc2 : cfs [y] = cf y := by show (cf y && true) = _; simp
      rw [hc2] at hc
      rw [hk2] at hk
      have hl0len := szs_len l0
      refine OkSs.asgN <| OkE.mth <| Ok.pu (d := .loc (S.length + 1)) (Pu.var rfl) ⟨by simp only [mthOk, app_at1], OkEs.nil <| Ok.of (o_pop app_at1) ?_⟩
      rw [app_set1]
      have hy2 : Fit (S ++ [.lst fs, .lst l0]) y := hy.app
      have h1 : 1 ≤ D.sz y := by cases y <;> first
        | exact Nat.le_refl _
        | exact Nat.succ_le_succ (Nat.zero_le _)
      refine OkSs.ite <| Ok.pu (d := .bl (isTup y && !hasName y)) (Pu.and (Pu.op1 (Pu.var rfl) (f_tup hy2)) fun _ => Pu.not (Pu.call (Pus.cons (Pu.var rfl) Pus.nil) (f_name hy2))) ⟨_, rfl, fun ht => ?_, fun ht => ?_⟩
      · rw [Bool.and_eq_true, Bool.not_eq_true'] at ht
        obtain ⟨ht, hn⟩ := ht
        cases y with
        | tup ys =>
          have hz2 : D.sz (.tup ys) = szs ys + 1 := rfl
          have hyl := szs_len ys
          have hys : ∀ z ∈ ys, Fit S z := fun z hz => by
            rcases hy with hy | ⟨a, _, _, e, _⟩
            · exact .inl (pvs_mem (pv_tup.mp hy).2 hz)
            · cases e
          refine OkSs.expr <| OkE.mth <| Ok.pu (d := .loc (S.length + 1)) (Pu.var rfl) ⟨by simp only [mthOk, app_at1], OkEs.pcons (Pu.var rfl) <| OkEs.nil <| Ok.of (o_extend app_at1 (by omega)) ?_⟩
          rw [app_set1]
          refine OkSs.nil <| Gn.nx <| OkSs.nil ⟨szs (l0 ++ ys), by rw [szs_app]; omega, fs, l0 ++ ys, _, rfl, rfl, rfl, by rw [szs_app]; omega, ?_, hf, fun z hz => ?_⟩
          · rw [cfs_app]
            have : cf (.tup ys) = cfs ys := by show (hasName (.tup ys) || cfs ys) = _; rw [hn]; rfl
            rw [this] at hc
            exact hc
          · rcases List.mem_append.mp hz with hz | hz
            · exact hls z (by simp [hz])
            · exact hys z hz
        | _ => cases ht
      · have hp : isTup y = false ∨ hasName y = true := by
          cases h1 : isTup y with
          | false => exact .inl rfl
          | true => right; rw [h1] at ht; simpa using ht
        refine OkSs.expr <| OkE.mth <| Ok.pu (d := .loc S.length) (Pu.var rfl) ⟨by simp only [mthOk, app_at], OkEs.pcons (Pu.var rfl) <| OkEs.nil <| Ok.of (o_append app_at (by omega)) ?_⟩
        rw [app_set]
        refine OkSs.nil <| Gn.nx <| OkSs.nil ⟨szs l0, by omega, fs ++ [y], l0, _, rfl, rfl, rfl, by simp; omega, ?_, fun z hz => ?_, fun z hz => hls z (by simp [hz])⟩
        · rw [← hc, List.all_append, cf_part hp]
          simp only [List.all_cons, List.all_nil, Bool.and_true]
          rw [Bool.and_assoc, Bool.and_comm (okPart y)]
        · rcases List.mem_append.mp hz with hz | hz
          · exact hf z hz
          · rw [List.mem_singleton.mp hz]; exact hy
    · have hl1 : ls = [] := by cases ls <;> simp at hl0 ⊢
      subst hl1
      refine OkSs.ret <| Ok.pu (d := .loc S.length) (Pu.var rfl) ⟨trivial, Old.app (Old.refl S), _, frz_lst app_at (Nat.le_refl _) fun z hz => (hf z hz).und, fs, rfl, List.take_left, by rw [← hc]; simp [cfs], hf, by omega⟩
  obtain ⟨d, S', e, fs, rfl, rfl, q⟩ := key.ex
  exact ⟨fs, e, q⟩
theorem has_content_form (h : Fit S v) (hz : D.sz v ≤ 1000) (hW : 1000 < W) : callF prog W (n + 4) 16 [v] S = .ok (.bl (cf v)) S := by
  obtain ⟨fs, e, hc, hf, hl⟩ := parts_within (n := n) h hz hW
  refine Rb.callF (fn := c16) rfl rfl rfl (Rb.ret (Pu.op1 (Pu.compG (xs := fs) (g := fun x => [some v, some x]) (f := fun x => .bl (okPart x)) ?_ (fun x _ => rfl) (fun x hx => ?_) (by unfold big; omega)) (all_map _ _))) hc
  · exact it_of (d := .lst fs) (Pu.call (Pus.cons (Pu.var rfl) Pus.nil) e) rfl
  · exact Pu.or (Pu.call (Pus.cons (Pu.var rfl) Pus.nil) (is_plain (n := n + 2) (hf x hx))) fun _ => Pu.call (Pus.cons (Pu.var rfl) Pus.nil) (f_name (n := n + 1) (hf x hx))
end K05
set_option maxRecDepth 100000
namespace K05
open Sa
variable {W n : Nat} {S U : Sto} {v : D} {s : Gs}
def keys5 : List D := [.str "b", .str "a", .str "", .str "stock", .str "z"]
def conts : List D := [.int 0, .int (-5), .str "x", .str "", .non, .tup [], .tup [.int 1, nm 7, .non], nm 1000000000, .tup [.tup [.tup [.str "a"]]]]
def contOk (c : D) : Bool := Gd 3 10000000000 c && (cf c && (decide (D.sz c ≤ 100) && (decide (c.dp ≤ 3) && (noD c && (noL c && match c with
  | .lst _ => false
  | _ => true)))))
theorem conts_ok : conts.all contOk = true := by decide +kernel
structure Cont (c : D) : Prop where
  gd : Gd 3 10000000000 c = true
  cf : cf c = true
  sz : D.sz c ≤ 100
  dp : c.dp ≤ 3
  nod : noD c = true
  nol : noL c = true
  nlst : ∀ {S : Sto}, top S c = c
theorem cont {c : D} (h : c ∈ conts) : Cont c := by
  have := List.all_eq_true.mp conts_ok c h
  unfold contOk at this
  simp only [Bool.and_eq_true, decide_eq_true_eq] at this
  obtain ⟨h1, h2, h3, h4, h5, h6, h7⟩ := this
  exact ⟨h1, h2, h3, h4, h5, h6, fun {S} => by
    cases c <;> first
      | rfl
      | cases h1⟩
theorem Cont.pv {c : D} (h : Cont c) : Pv c = true := gd_pv h.gd (by decide) (by decide)
theorem Cont.shown {c : D} (h : Cont c) : ∃ t, shown c = some t ∧ (D.str t).sh = true := shown_ok (m := 3) (k := 3) (by decide) (by decide) h.gd h.dp h.nod (by decide) (by decide)
theorem non_cont : D.non ∈ conts := by simp [conts]
def keyOk (k : D) : Bool := Gd 3 10 k && (isKey k && isStr k)
theorem keys_ok : keys5.all keyOk = true := by decide +kernel
theorem key5 {k : D} (h : k ∈ keys5) : Gd 3 10 k = true ∧ isKey k = true ∧ ∃ x, k = .str x := by
  have := List.all_eq_true.mp keys_ok k h
  unfold keyOk at this
  simp only [Bool.and_eq_true] at this
  refine ⟨this.1, this.2.1, ?_⟩
  cases k <;> first
    | exact ⟨_, rfl⟩
    | exact nomatch this.2.2
/-- a dict of cells -/
def KV (kvs : List (D × D)) : Prop := ∀ p ∈ kvs, p.1 ∈ keys5 ∧ p.2 ∈ conts
def val (kvs : List (D × D)) (k : D) : D := (look kvs k).getD .non
theorem look_all {p : D → Prop} : ∀ {kvs : List (D × D)} {k v : D}, look kvs k = some v → (∀ q ∈ kvs, p q.2) → p v
  | (j, w) :: r, k, v, h, ha => by
    have h : (if j = k then some w else look r k) = some v := h
    split at h
    · cases h; exact ha (j, w) List.mem_cons_self
    · exact look_all h fun q hq => ha q (List.mem_cons_of_mem _ hq)
theorem val_cont {kvs : List (D × D)} (h : KV kvs) (k : D) : val kvs k ∈ conts := by
  unfold val
  cases e : look kvs k with
  | none => exact non_cont
  | some v => exact look_all (p := fun v => v ∈ conts) e fun q hq => (h q hq).2
theorem look_val {kvs : List (D × D)} {k : D} (h : ∃ p ∈ kvs, p.1 = k) : look kvs k = some (val kvs k) := by
  obtain ⟨p, _, _, e⟩ := look_mem h
  unfold val
  rw [e]; rfl
theorem KV.put {kvs : List (D × D)} {k v : D} (h : KV kvs) (hk : k ∈ keys5) (hv : v ∈ conts) : KV (put kvs k v) := put_all h ⟨hk, hv⟩ fun q hq e => ⟨by rw [e]; exact hk, hv⟩
theorem KV.pairs {kvs : List (D × D)} (h : KV kvs) : ∀ (xs : List D) (m : List (D × D)), (∀ x ∈ xs, x ∈ keys5) → KV m → KV ((xs.map fun x => D.tup [x, val kvs x]).foldl putP m)
  | [], m, _, hm => hm
  | x :: r, m, hx, hm => KV.pairs h r (Sa.put m x (val kvs x)) (fun y hy => hx y (List.mem_cons_of_mem _ hy)) (KV.put hm (hx x List.mem_cons_self) (val_cont h x))
theorem mate_keys : ∀ l : List D, (∀ x ∈ l, x ∈ keys5) → allMate l = true
  | [], _ => rfl
  | x :: l, h => by
    obtain ⟨_, _, a, rfl⟩ := key5 (h x List.mem_cons_self)
    show ((true && l.all (mate (.str a))) && allMate l) = true
    rw [mate_keys l fun y hy => h y (List.mem_cons_of_mem _ hy)]
    simp only [Bool.true_and, Bool.and_true, List.all_eq_true]
    intro y hy
    obtain ⟨_, _, b, rfl⟩ := key5 (h y (List.mem_cons_of_mem _ hy))
    rfl
theorem key_sh {k : D} (h : k ∈ keys5) : k.sh = true := by
  obtain ⟨g, _, x, rfl⟩ := key5 h
  exact gd_sh g rfl (Nat.zero_le _)
theorem sorted_keys {a : Nat} {kvs : List (D × D)} {lk : Bool} (ha : S[a]? = some (.dct kvs lk)) (h : KV kvs) (hl : kvs.length ≤ big) : opSem prog (.sorted false) [.loc a] S = .ok (.lst (isort (kvs.map (·.1)))) S := by
  have hk : ∀ x ∈ kvs.map (·.1), x ∈ keys5 := fun x hx => by
    obtain ⟨p, hp, rfl⟩ := List.mem_map.mp hx
    exact (h p hp).1
  show (match listed S (.loc a) with
    | some xs => if allMate xs && xs.all D.sh && sortable xs then newL false (isort xs) S else .bad
    | none => match keysOf S (.loc a) with
      | some xs => if allMate xs && xs.all D.sh && sortable xs then newL false (isort xs) S else .bad
      | none => .bad) = _
  have e1 : listed S (.loc a) = none := by simp only [listed, ha]
  have e2 : keysOf S (.loc a) = some (kvs.map (·.1)) := by simp only [keysOf, pairs, ha]; rfl
  rw [e1, e2]
  show (if allMate (kvs.map (·.1)) && (kvs.map (·.1)).all D.sh && sortable (kvs.map (·.1)) then newL false (isort (kvs.map (·.1))) S else .bad) = _
  have e3 : (kvs.map (·.1)).all D.sh = true := List.all_eq_true.mpr fun x hx => key_sh (hk x hx)
  have e4 : sortable (kvs.map (·.1)) = true := by
    unfold sortable
    rw [Bool.or_eq_true]
    refine .inr (List.all_eq_true.mpr fun x hx => ?_)
    obtain ⟨_, _, b, e⟩ := key5 (hk x hx)
    rw [e]
  rw [mate_keys _ hk, e3, e4]
  show newL false _ S = _
  unfold newL
  have : (isort (kvs.map (·.1))).length = kvs.length := by
    unfold isort
    rw [(List.mergeSort_perm _ _).length_eq, List.length_map]
  rw [if_pos (by rw [this]; exact hl)]; rfl
theorem isort_mem {xs : List D} {x : D} (h : x ∈ isort xs) : x ∈ xs := (List.mergeSort_perm _ _).mem_iff.mp h
theorem isort_len {xs : List D} : (isort xs).length = xs.length := (List.mergeSort_perm _ _).length_eq
/-- the cells as they are told -/
def told (kvs : List (D × D)) : List (D × D) := pairsOf ((isort (kvs.map (·.1))).map fun x => .tup [x, val kvs x])
theorem told_kv {kvs : List (D × D)} (h : KV kvs) : KV (told kvs) := KV.pairs h _ [] (fun x hx => by
  obtain ⟨p, hp, rfl⟩ := List.mem_map.mp (isort_mem hx)
  exact (h p hp).1) nofun
theorem told_len {kvs : List (D × D)} : (told kvs).length ≤ kvs.length := by
  unfold told
  refine Nat.le_trans pairsOf_len0 ?_
  rw [List.length_map, isort_len, List.length_map]
  exact Nat.le_refl _
theorem kv_fst {kvs : List (D × D)} (h : KV kvs) : Gds 3 10000000000 (kvs.map (·.1)) = true ∧ dps (kvs.map (·.1)) ≤ 3 ∧ noDs (kvs.map (·.1)) = true := by
  have hk : ∀ x ∈ kvs.map (·.1), x ∈ keys5 := fun x hx => by
    obtain ⟨p, hp, rfl⟩ := List.mem_map.mp hx
    exact (h p hp).1
  refine ⟨gds_mem.mpr fun x hx => Gd.mono (Nat.le_refl _) (by decide) (key5 (hk x hx)).1, dps_le.mpr fun x hx => ?_, noDs_mem.mpr fun x hx => ?_⟩
  all_goals
    obtain ⟨_, _, b, rfl⟩ := key5 (hk x hx)
    first
      | rfl
      | exact Nat.zero_le _
theorem kv_snd {kvs : List (D × D)} (h : KV kvs) : Gds 3 10000000000 (kvs.map (·.2)) = true ∧ dps (kvs.map (·.2)) ≤ 3 ∧ noDs (kvs.map (·.2)) = true ∧ noLs (kvs.map (·.2)) = true := by
  have hk : ∀ x ∈ kvs.map (·.2), Cont x := fun x hx => by
    obtain ⟨p, hp, rfl⟩ := List.mem_map.mp hx
    exact cont (h p hp).2
  refine ⟨gds_mem.mpr fun x hx => (hk x hx).gd, dps_le.mpr fun x hx => (hk x hx).dp, noDs_mem.mpr fun x hx => (hk x hx).nod, ?_⟩
  have : ∀ xs : List D, (∀ x ∈ xs, noL x = true) → noLs xs = true := fun xs => by
    induction xs with
    | nil => intro _; rfl
    | cons x r ih =>
      intro h
      show (noL x && noLs r) = true
      rw [h x List.mem_cons_self, ih fun y hy => h y (List.mem_cons_of_mem _ hy)]; rfl
  exact this _ fun x hx => (hk x hx).nol
theorem told_shown {kvs : List (D × D)} (h : KV kvs) (hl : kvs.length ≤ 30) : ∃ t, shown (.dct ((told kvs).map (·.1)) ((told kvs).map (·.2))) = some t ∧ (D.str t).sh = true := by
  obtain ⟨a1, a2, a3⟩ := kv_fst (told_kv h)
  obtain ⟨b1, b2, b3, b4⟩ := kv_snd (told_kv h)
  refine shown_dct (m := 3) (k := 3) (b := 10000000000) (by decide) (by decide) a1 b1 a2 b2 a3 b3 b4 (by decide) ?_
  rw [List.length_map]
  have := told_len (kvs := kvs)
  have h5 : slen 3 3 = 2817 := by decide
  rw [h5]
  omega
end K05
set_option maxRecDepth 100000
namespace K05
open Sa
variable {W n : Nat} {S : Sto} {v : D} {s : Gs} {g kvs own : List (D × D)} {U : Sto}
def fz : Option Nat → D
  | none => .non
  | some k => .int (k : Int)
def Dk (s : Gs) (g held own : List (D × D)) (f : Option Nat) (U : Sto) : Sto := mk s (.dct [] false :: .dct g false :: .ins 10 [(0, .loc 5), (1, fz f)] :: .dct held false :: .dct own false :: U)
/-! the parts of __init__ -/
theorem isdict {a : Nat} {lk : Bool} (ha : S[a]? = some (.dct kvs lk)) : opSem prog (.isin .dict) [.loc a] S = .ok (.bl true) S := by
  show bl S (kindOf prog S .dict (.loc a)) = _
  simp only [kindOf, ha]; rfl
theorem set_at {a : Nat} {o p : Ob} (h : S[a]? = some o) : (S.set a p)[a]? = some p := by
  rw [List.getElem?_set_self (List.getElem?_eq_some_iff.mp h).1]
theorem init1 {a b : Nat} {f : D} (ha : S[a]? = some (.dct kvs false)) (hk : ∀ p ∈ kvs, Pv p.1 = true) (hl : kvs.length ≤ 1000) : Pu ⟨prog, W, callF prog W n⟩ (.not (.op .all (.cons (.comp false [3] (.nm 3) (.keys 1) .nil (.op (.isin .str) (.cons (.var 3) .nil))) .nil))) [some (.loc b), some (.loc a), some f, none] S (.bl (!kvs.all fun p => isStr p.1)) := by
  have hb : big = 16000000 := rfl
  exact Pu.not (Pu.op1 (Pu.compD (a := a) (kvs := kvs) (g := fun x => [some (.loc b), some (.loc a), some f, some x]) (f := fun x => .bl (isStr x)) rfl ha (fun p hp => rfl) (fun p hp => Pu.op1 (Pu.var rfl) (o_str (hk p hp))) (by omega)) (all_map _ _))
theorem init2 {a b : Nat} {f : D} (hW : 1000 < W) (ha : S[a]? = some (.dct kvs false)) (hk : ∀ p ∈ kvs, isKey p.1 = true ∧ Pv (val kvs p.1) = true ∧ D.sz (val kvs p.1) ≤ 1000) (hl : kvs.length ≤ 1000) : Pu ⟨prog, W, callF prog W (n + 4)⟩ (.not (.op .all (.cons (.comp false [3] (.nm 3) (.keys 1) .nil (.call 16 (.cons (.op .idx (.cons (.var 1) (.cons (.var 3) .nil))) .nil))) .nil))) [some (.loc b), some (.loc a), some f, none] S (.bl (!kvs.all fun p => cf (val kvs p.1))) := by
  have hb : big = 16000000 := rfl
  refine Pu.not (Pu.op1 (Pu.compD (a := a) (kvs := kvs) (g := fun x => [some (.loc b), some (.loc a), some f, some x]) (f := fun x => .bl (cf (val kvs x))) rfl ha (fun p hp => rfl) (fun p hp => ?_) (by omega)) (all_map _ _))
  obtain ⟨h1, h2, h3⟩ := hk p hp
  exact Pu.call (Pus.cons (Pu.op2 (z := val kvs p.1) (Pu.var rfl) (Pu.var rfl) (look_some (look_val ⟨p, hp, rfl⟩) h1 (set_at ha))) Pus.nil) (has_content_form (.inl h2) h3 hW)
theorem fuse_ok {f : Option Nat} (hf : ∀ k, f = some k → k ≤ 1000) : callF prog W (n + 2) 17 [fz f] S = .ok .non S := by
  have hv : Pv (fz f) = true := by
    cases f with
    | none => rfl
    | some k =>
      have := hf k rfl
      exact gd_int.mpr ⟨by omega, by omega⟩
  refine callF_pu (fn := c17) (fl := .nx) rfl rfl rfl (PuSs.passB (x := !decide (fz f = .non) && !isNum (fz f) 0) (Pu.and (Pu.op2 (Pu.var rfl) Pu.cst rfl) fun _ => Pu.not (Pu.call (Pus.cons (Pu.var rfl) (Pus.cons Pu.cst Pus.nil)) (is_number hv))) ?_ PuSs.nil) (.inl rfl) rfl
  cases f with
  | none => rfl
  | some k =>
    have := hf k rfl
    show (!decide (fz (some k) = .non) && !isNum (.int (k : Int)) 0) = false
    rw [num_mk (by omega) (by omega)]; simp
theorem fuse_err {x : D} (hv : Pv x = true) (h1 : x ≠ .non) (h2 : isNum x 0 = false) : callF prog W (n + 2) 17 [x] S = .err (.exc 4 []) S :=
  callF_err (fn := c17) rfl rfl rfl (Re.whenB (x := !decide (x = .non) && !isNum x 0) (Pu.and (Pu.op2 (Pu.var rfl) Pu.cst rfl) fun _ => Pu.not (Pu.call (Pus.cons (Pu.var rfl) (Pus.cons Pu.cst Pus.nil)) (is_number hv))) (by rw [h2, decide_eq_false h1]; rfl) (Re.raise (Pus.cons Pu.cst Pus.nil) rfl rfl))
theorem kv_pv (h : KV kvs) : ∀ p ∈ kvs, Pv p.1 = true := fun p hp => gd_pv (key5 (h p hp).1).1 (by decide) (by decide)
theorem kv_val (h : KV kvs) : ∀ p ∈ kvs, isKey p.1 = true ∧ Pv (val kvs p.1) = true ∧ D.sz (val kvs p.1) ≤ 1000 := fun p hp =>
  ⟨(key5 (h p hp).1).2.1, (cont (val_cont h p.1)).pv, Nat.le_trans (cont (val_cont h p.1)).sz (by decide)⟩
theorem disk_init {f : Option Nat} (hW : 1000 < W) (h : KV kvs) (hl : kvs.length ≤ 1000) (hf : ∀ k, f = some k → k ≤ 1000) : Ok (callF prog W (n + 5) 34 [.loc 4, .loc 3, fz f] (mk s [.dct [] false, .dct kvs false, .ins 10 []])) fun d S' => d = .non ∧ S' = mk s [.dct [] false, .dct kvs false, .ins 10 [(0, .loc 5), (1, fz f)], .dct kvs false] := by
  have hb : big = 16000000 := rfl
  refine Ok.callFN (fn := c34) rfl rfl rfl ?_
  have e1 : (kvs.all fun p => isStr p.1) = true := List.all_eq_true.mpr fun p hp => by
    obtain ⟨_, _, x, e⟩ := key5 (h p hp).1
    rw [e]; rfl
  have e2 : (kvs.all fun p => cf (val kvs p.1)) = true := List.all_eq_true.mpr fun p hp => (cont (val_cont h p.1)).cf
  have i1 := init1 (W := W) (n := n + 4) (b := 4) (f := fz f) (S := mk s [.dct [] false, .dct kvs false, .ins 10 []]) (a := 3) rfl (kv_pv h) hl
  have i2 := init2 (n := n) (b := 4) (f := fz f) (S := mk s [.dct [] false, .dct kvs false, .ins 10 []]) (a := 3) hW rfl (kv_val h) hl
  rw [e1] at i1
  rw [e2] at i2
  refine OkSs.skip <| Ok.pu (d := .bl false) (Pu.or (x := false) (y := false) (Pu.not (x := true) (Pu.op1 (d := .loc 3) (Pu.var rfl) (isdict (lk := false) (kvs := kvs) rfl))) fun _ => i1) ⟨rfl, ?_⟩
  refine OkSs.skip <| Ok.pu (d := .bl false) i2 ⟨rfl, ?_⟩
  refine OkSs.expr <| Ok.pu (Pu.call (Pus.cons (Pu.var rfl) Pus.nil) (fuse_ok (n := n + 2) hf)) ?_
  refine OkSs.asg <| OkE.op <| OkEs.pcons (d := .loc 3) (Pu.var rfl) <| OkEs.nil <| Ok.of (a := .loc 5) (S := mk s [.dct [] false, .dct kvs false, .ins 10 [], .dct kvs false]) ?_ <| Ok.of (a := [some (.loc 4), some (.loc 3), some (fz f), none]) (S := mk s [.dct [] false, .dct kvs false, .ins 10 [(0, .loc 5)], .dct kvs false]) (by kernel_rfl) ?_
  · show newD true kvs (mk s [.dct [] false, .dct kvs false, .ins 10 []]) = _
    unfold newD
    rw [if_pos (by omega)]; rfl
  refine OkSs.asg <| Ok.pu (Pu.var rfl) <| Ok.of (a := [some (.loc 4), some (.loc 3), some (fz f), none]) (S := mk s [.dct [] false, .dct kvs false, .ins 10 [(0, .loc 5), (1, fz f)], .dct kvs false]) (by kernel_rfl) ?_
  exact OkSs.nil ⟨trivial, .inr (oldOk_no (i := 4) (o := .ins 10 [(0, .loc 5), (1, fz f)]) (by show 4 < 5; decide) rfl (by show some (Ob.ins 10 []) ≠ _; simp) rfl), rfl, rfl⟩
/-! errors of __init__ -/
theorem initE_kind {b : Nat} {x : D} {f : D} (hx : x = .non ∨ x = .lst []) : callF prog W (n + 1) 34 [.loc b, x, f] S = .err (.exc 2 []) S := by
  rcases hx with rfl | rfl
  all_goals exact callF_err (fn := c34) rfl rfl rfl (Re.whenB (x := true) (Pu.or (x := true) (y := true) (Pu.not (x := false) (Pu.op1 (Pu.var rfl) rfl)) nofun) rfl (Re.raise (Pus.cons Pu.cst Pus.nil) rfl rfl))
theorem initE_key {a b : Nat} {f : D} (ha : S[a]? = some (.dct kvs false)) (hk : ∀ p ∈ kvs, Pv p.1 = true) (hl : kvs.length ≤ 1000) (hn : (kvs.all fun p => isStr p.1) = false) : callF prog W (n + 1) 34 [.loc b, .loc a, f] S = .err (.exc 2 []) S := by
  have i1 := init1 (W := W) (n := n) (b := b) (f := f) ha hk hl
  rw [hn] at i1
  exact callF_err (fn := c34) rfl rfl rfl (Re.whenB (x := true) (Pu.or (x := false) (y := true) (Pu.not (x := true) (Pu.op1 (d := .loc a) (Pu.var rfl) (isdict ha))) fun _ => i1) rfl (Re.raise (Pus.cons Pu.cst Pus.nil) rfl rfl))
theorem initE_cf {a b : Nat} {f : D} (hW : 1000 < W) (ha : S[a]? = some (.dct kvs false)) (hk : ∀ p ∈ kvs, Pv p.1 = true) (hk2 : ∀ p ∈ kvs, isKey p.1 = true ∧ Pv (val kvs p.1) = true ∧ D.sz (val kvs p.1) ≤ 1000) (hl : kvs.length ≤ 1000) (hy : (kvs.all fun p => isStr p.1) = true) (hn : (kvs.all fun p => cf (val kvs p.1)) = false) : callF prog W (n + 5) 34 [.loc b, .loc a, f] S = .err (.exc 2 []) S := by
  have i1 := init1 (W := W) (n := n + 4) (b := b) (f := f) ha hk hl
  have i2 := init2 (n := n) (b := b) (f := f) hW ha hk2 hl
  rw [hy] at i1
  rw [hn] at i2
  exact callF_err (fn := c34) rfl rfl rfl (Re.pass (Pu.or (x := false) (y := false) (Pu.not (x := true) (Pu.op1 (d := .loc a) (Pu.var rfl) (isdict ha))) fun _ => i1) (Re.whenB (x := true) i2 rfl (Re.raise (Pus.cons Pu.cst Pus.nil) rfl rfl)))
theorem initE_fuse {a b : Nat} {f : D} (hW : 1000 < W) (ha : S[a]? = some (.dct [] false)) (hv : Pv f = true) (h1 : f ≠ .non) (h2 : isNum f 0 = false) : callF prog W (n + 5) 34 [.loc b, .loc a, f] S = .err (.exc 4 []) S := by
  have i1 := init1 (W := W) (n := n + 4) (b := b) (f := f) ha nofun (by decide)
  have i2 := init2 (n := n) (b := b) (f := f) hW ha nofun (by decide)
  exact callF_err (fn := c34) rfl rfl rfl (Re.pass (Pu.or (x := false) (y := false) (Pu.not (x := true) (Pu.op1 (d := .loc a) (Pu.var rfl) (isdict ha))) fun _ => i1) (Re.pass i2 (Re.expr (Ee.call (Pus.cons (Pu.var rfl) Pus.nil) (fuse_err (n := n + 2) hv h1 h2)))))
/-! methods -/
section
variable {f : Option Nat}
theorem read_ok {k : D} (hk : k ∈ keys5) (h : KV kvs) : callF prog W (n + 1) 35 [.loc 4, k] (Dk s g kvs own f U) = .ok (val kvs k) (Dk s g kvs own f U) := by
  obtain ⟨gk, ik, x, rfl⟩ := key5 hk
  have hc := cont (val_cont h (.str x))
  have hm : evE ⟨prog, W, callF prog W n⟩ (.mth .get (.attr 0 (.var 0)) (.cons (.var 1) .nil)) [some (.loc 4), some (.str x)] (Dk s g kvs own f U) = .ok (val kvs (.str x)) (Dk s g kvs own f U) := by kernel_rfl
  exact callF_pu (fn := c35) (fl := .rt (val kvs (.str x))) rfl rfl rfl (PuSs.passB (x := false) (Pu.not (x := true) (Pu.op1 (Pu.var rfl) rfl)) rfl (PuSs.stop (PuS.ret hm))) (.inr ⟨_, rfl⟩) (Gd.und hc.gd)
theorem read_err {k : D} (hk : k = .non ∨ k = .int 5 ∨ k = .tup [.str "a"]) : callF prog W (n + 1) 35 [.loc 4, k] S = .err (.exc 1 []) S := by
  rcases hk with rfl | rfl | rfl
  all_goals exact callF_err (fn := c35) rfl rfl rfl (Re.whenB (x := true) (Pu.not (x := false) (Pu.op1 (Pu.var rfl) rfl)) rfl (Re.raise (Pus.cons Pu.cst Pus.nil) rfl rfl))
theorem cells_ok (h : KV kvs) (hl : kvs.length ≤ 1000) : callF prog W (n + 1) 37 [.loc 4] (Dk s g kvs own f U) = .ok (.dct ((told kvs).map (·.1)) ((told kvs).map (·.2))) (Dk s g kvs own f U) := by
  have hb : big = 16000000 := rfl
  have hm : ∀ x ∈ isort (kvs.map (·.1)), ∃ p ∈ kvs, p.1 = x := fun x hx => by
    obtain ⟨p, hp, e⟩ := List.mem_map.mp (isort_mem hx)
    exact ⟨p, hp, e⟩
  refine callF_pu (P := prog) (f := 37) (fn := c37) (W := W) (n := n) (ds := [.loc 4]) (S := Dk s g kvs own f U) (fl := .rt (.dct ((told kvs).map (·.1)) ((told kvs).map (·.2)))) rfl rfl rfl (PuSs.stop (PuS.ret (Pu.dcomp (xs := isort (kvs.map (·.1))) (g := fun x => [some (.loc 4), some x]) (fk := fun x => x) (fv := fun x => val kvs x) (it_of (Pu.op1 (d := .loc 5) (by unfold Pu; kernel_rfl) (sorted_keys (lk := false) rfl h (by omega))) rfl) (fun x hx => rfl) (fun x hx => Pu.var rfl) (fun x hx => ?_) (fun x hx => ?_) (by rw [isort_len, List.length_map]; omega)))) (.inr ⟨_, rfl⟩) ?_
  · obtain ⟨p, hp, rfl⟩ := hm x hx
    refine Pu.op2 (d := .loc 5) ?_ (Pu.var rfl) (look_some (l := false) (a := 5) (look_val ⟨p, hp, rfl⟩) (key5 (h p hp).1).2.1 rfl)
    unfold Pu; kernel_rfl
  · obtain ⟨p, hp, rfl⟩ := hm x hx
    exact (key5 (h p hp).1).2.1
  · show (unds _ _ && unds _ _) = true
    rw [Gds.und (kv_fst (told_kv h)).1, Gds.und (kv_snd (told_kv h)).1]; rfl
theorem writeE_content {k x : D} (hk : k ∈ keys5) (hx : Fit S x) (hz : D.sz x ≤ 1000) (hW : 1000 < W) (hc : cf x = false) : callF prog W (n + 5) 36 [.loc 4, k, x] S = .err (.exc 3 []) S := by
  obtain ⟨gk, ik, y, rfl⟩ := key5 hk
  exact callF_err (fn := c36) rfl rfl rfl (Re.pass (Pu.not (x := true) (Pu.op1 (Pu.var rfl) rfl)) (Re.whenB (Pu.not (Pu.call (Pus.cons (Pu.var rfl) Pus.nil) (has_content_form hx hz hW))) (by rw [hc]; rfl) (Re.raise (Pus.cons Pu.cst Pus.nil) rfl rfl)))
theorem fz_sh (hf : ∀ k, f = some k → k ≤ 1000) : (fz f).sh = true := by
  cases f <;> rfl
theorem writeE_fell {k x : D} (hk : k ∈ keys5) (hx : x ∈ conts) (hW : 1000 < W) (hf : f = some 0) : callF prog W (n + 5) 36 [.loc 4, k, x] (Dk s g kvs own f U) = .err (.exc 9 []) (Dk s g kvs own f U) := by
  subst hf
  obtain ⟨gk, ik, y, rfl⟩ := key5 hk
  have hc := cont hx
  refine callF_err (fn := c36) rfl rfl rfl (Re.pass (Pu.not (x := true) (Pu.op1 (Pu.var rfl) rfl)) (Re.pass (by rw [show false = !cf x by rw [hc.cf]; rfl]; exact Pu.not (Pu.call (Pus.cons (Pu.var rfl) Pus.nil) (has_content_form (.inl hc.pv) (Nat.le_trans hc.sz (by decide)) hW))) (Re.whenB (x := true) (Pu.op2 (d := .int 0) (by unfold Pu; kernel_rfl) Pu.cst rfl) rfl (Re.raise (Pus.cons Pu.cst Pus.nil) rfl rfl))))
def less : Option Nat → Option Nat
  | none => none
  | some k => some (k - 1)
theorem write_ok {k x : D} (hk : k ∈ keys5) (hx : x ∈ conts) (hW : 1000 < W) (hf : f ≠ some 0) (hl : kvs.length ≤ 1000) (hu : ∀ p ∈ put kvs k x, ∀ j, p.1.und j = true ∧ p.2.und j = true) : Ok (callF prog W (n + 5) 36 [.loc 4, k, x] (Dk s g kvs own f U)) fun d S' => d = .non ∧ S' = Dk s g (put kvs k x) own (less f) U := by
  obtain ⟨gk, ik, y, rfl⟩ := key5 hk
  have hc := cont hx
  refine Ok.callF (fn := c36) rfl rfl rfl rfl ?_
  refine OkSs.skip <| Ok.pu (d := .bl false) (Pu.not (x := true) (Pu.op1 (Pu.var rfl) rfl)) ⟨rfl, ?_⟩
  refine OkSs.skip <| Ok.pu (Pu.not (Pu.call (Pus.cons (Pu.var rfl) Pus.nil) (has_content_form (.inl hc.pv) (Nat.le_trans hc.sz (by decide)) hW))) ⟨by rw [hc.cf]; rfl, ?_⟩
  refine OkSs.skip <| Ok.pu (d := .bl false) (Pu.op2 (d := fz f) (e := .int 0) ?_ Pu.cst ?_) ⟨rfl, ?_⟩
  · unfold Pu; kernel_rfl
  · rw [o_eq (by cases f <;> rfl) rfl]
    cases f with
    | none => rfl
    | some j =>
      show Sa.R.ok (D.bl (decide ((j : Int) = 0))) _ = _
      rw [decide_eq_false (fun e => hf (by rw [show j = 0 by omega]))]
  refine OkSs.asg <| Ok.pu (Pu.var rfl) <| Ok.of (a := [some (.loc 4), some (.str y), some x]) (S := Dk s g (put kvs (.str y) x) own f U) ?_ ?_
  · show (if (isKey (.str y) && decide (kvs.length < big)) = true then _ else _) = _
    rw [decide_eq_true (Nat.lt_of_le_of_lt hl (by decide))]
    rfl
  have hold : ∀ f2, Hand (Dk s g kvs own f U) (fun d S' => d = .non ∧ S' = Dk s g (put kvs (.str y) x) own f2 U) (.nx, [some (.loc 4), some (.str y), some x]) (Dk s g (put kvs (.str y) x) own f2 U) := fun f2 => by
    refine ⟨trivial, Old.mk (Nat.succ_pos _) ⟨.inl rfl, .inl rfl, .inr ?_, .inr ?_, .inl rfl, Old.refl U⟩, _, frz_und rfl, rfl, List.take_of_length_le (Nat.le_refl _)⟩
    · show unds _ [.loc 5, fz f2] = true
      cases f2 <;> rfl
    · show (unds _ _ && unds _ _) = true
      rw [unds_mem.mpr fun z hz => ?_, unds_mem.mpr fun z hz => ?_]
      · rfl
      · obtain ⟨p, hp, rfl⟩ := List.mem_map.mp hz
        exact (hu p hp _).2
      · obtain ⟨p, hp, rfl⟩ := List.mem_map.mp hz
        exact (hu p hp _).1
  cases f with
  | none => exact OkSs.skip <| Ok.pu (d := .bl false) (Pu.op2 (d := .non) (by unfold Pu; kernel_rfl) Pu.cst rfl) ⟨rfl, OkSs.nil (hold none)⟩
  | some j =>
    refine OkSs.when <| Ok.pu (d := .bl true) (Pu.op2 (d := .int (j : Int)) (by unfold Pu; kernel_rfl) Pu.cst rfl) ⟨_, rfl, fun _ => ?_, nofun⟩
    refine OkSs.asg <| Ok.pu (d := .int ((j : Int) - 1)) (Pu.op2 (d := .int (j : Int)) (by unfold Pu; kernel_rfl) Pu.cst rfl) <| Ok.of (a := [some (.loc 4), some (.str y), some x]) (S := Dk s g (put kvs (.str y) x) own (some (j - 1)) U) ?_ (OkSs.nil <| Gn.nx <| OkSs.nil (hold (some (j - 1))))
    have e : ((j - 1 : Nat) : Int) = (j : Int) - 1 := by
      have : j ≠ 0 := fun e => hf (by rw [e])
      omega
    show _ = Sa.R.ok _ (mk s (.dct [] false :: .dct g false :: .ins 10 [(0, .loc 5), (1, .int ((j - 1 : Nat) : Int))] :: .dct (put kvs (.str y) x) false :: .dct own false :: U))
    rw [e]
    kernel_rfl
end
end K05
set_option maxRecDepth 100000
namespace K05
open Sa
variable {W n : Nat} {S : Sto} {v : D} {s : Gs} {g kvs own : List (D × D)} {U : Sto}
def wrongs : List D := [.bl true, .lst [], .loc 2, .tup [.int 1, .lst [.int 2]], .tup [.bl true]]
def asPair (p : D × D) : D := .tup [p.1, p.2]
theorem mapM_asPair : ∀ {ps : List (D × D)}, (∀ p ∈ ps, isKey p.1 = true) → (ps.map asPair).mapM pairOf = some ps
  | [], _ => rfl
  | p :: r, h => by
    rw [List.map_cons, List.mapM_cons]
    have e : pairOf (asPair p) = some p := by
      show (if isKey p.1 then some (p.1, p.2) else none) = _
      rw [if_pos (h p List.mem_cons_self)]
    rw [e]
    show ((r.map asPair).mapM pairOf).bind (fun ys => some (p :: ys)) = _
    rw [mapM_asPair fun y hy => h y (List.mem_cons_of_mem _ hy)]; rfl
theorem fold_kv : ∀ {ps m : List (D × D)}, KV ps → KV m → KV (ps.foldl (fun (m : List (D × D)) (p : D × D) => put m p.1 p.2) m)
  | [], _, _, hm => hm
  | p :: r, m, hp, hm => fold_kv (ps := r) (fun q hq => hp q (List.mem_cons_of_mem _ hq)) (KV.put hm (hp p List.mem_cons_self).1 (hp p List.mem_cons_self).2)
theorem fold_len : ∀ {ps m : List (D × D)}, (ps.foldl (fun (m : List (D × D)) (p : D × D) => put m p.1 p.2) m).length ≤ m.length + ps.length
  | [], m => by simp
  | p :: r, m => by
    have := fold_len (ps := r) (m := put m p.1 p.2)
    have h := put_lenL (m := m) (k := p.1) (v := p.2)
    simp only [List.foldl_cons, List.length_cons]
    omega
theorem dictS_pairs {P : Prog} {ps : List (D × D)} (h : ∀ p ∈ ps, isKey p.1 = true) (hl : ps.length ≤ 1000) : ∃ m, opSem P (.dict false) [.lst (ps.map asPair)] S = .ok (.dct (m.map (·.1)) (m.map (·.2))) S ∧ m.length ≤ ps.length ∧ (KV ps → KV m) := by
  have hb : big = 16000000 := rfl
  have hlen := fold_len (ps := ps) (m := [])
  simp only [List.length_nil, Nat.zero_add] at hlen
  refine ⟨ps.foldl (fun (m : List (D × D)) (p : D × D) => put m p.1 p.2) [], ?_, hlen, fun hk => fold_kv hk nofun⟩
  show (match (ps.map asPair).mapM pairOf with
    | some kvs => newD false (kvs.foldl (fun (m : List (D × D)) (p : D × D) => put m p.1 p.2) []) S
    | none => .bad) = _
  rw [mapM_asPair h]
  show newD false _ S = _
  unfold newD
  rw [if_pos (by omega)]; rfl
theorem zip_self (m : List (D × D)) : (m.map (·.1)).zip (m.map (·.2)) = m := by
  induction m with
  | nil => rfl
  | cons p r ih => simp [ih]
theorem dict_copy {P : Prog} {m : List (D × D)} (hl : m.length ≤ 1000) : opSem P (.dict true) [.dct (m.map (·.1)) (m.map (·.2))] S = .ok (.loc S.length) (S ++ [.dct m false]) := by
  have hb : big = 16000000 := rfl
  show (match (if (m.map (·.1)).length = (m.map (·.2)).length then some ((m.map (·.1)).zip (m.map (·.2))) else none) with
    | some kvs => newD true kvs S
    | none => .bad) = _
  rw [if_pos (by simp), zip_self]
  show newD true m S = _
  unfold newD
  rw [if_pos (by omega)]; rfl
theorem kv_und (h : KV kvs) : ∀ p ∈ kvs, ∀ j, p.1.und j = true ∧ p.2.und j = true := fun p hp j => ⟨Gd.und (key5 (h p hp).1).1, Gd.und (cont (h p hp).2).gd⟩
theorem Fit.loc {a : Nat} {lk : Bool} (h : S[a]? = some (.dct kvs lk)) : Fit S (.loc a) := .inr ⟨a, kvs, lk, rfl, h⟩
theorem wrong_fit {x : D} {f : Option Nat} (hx : x ∈ wrongs) : Fit (Dk s g kvs own f U) x ∧ D.sz x ≤ 1000 ∧ cf x = false := by
  simp only [wrongs, List.mem_cons, List.not_mem_nil, or_false] at hx
  rcases hx with rfl | rfl | rfl | rfl | rfl
  · exact ⟨.inl rfl, by decide, rfl⟩
  · exact ⟨.inl rfl, by decide, rfl⟩
  · exact ⟨Fit.loc (kvs := []) (lk := false) rfl, by decide, rfl⟩
  · exact ⟨.inl (by decide +kernel), by decide, by decide +kernel⟩
  · exact ⟨.inl (by decide +kernel), by decide, by decide +kernel⟩
theorem method_at {f : Option Nat} {mm ff : Nat} (h : getN [(4, 35), (6, 36), (5, 37)] mm = some ff) (h2 : getF [(0, .loc 5), (1, fz f)] mm = none) : MethAt prog (Dk s g kvs own f U) (.loc 4) mm ff := ⟨4, 10, _, _, rfl, rfl, rfl, h, h2⟩
theorem callE_meth2 {C : Rt} {env : Sa.Env} {a : E} {es : Es} {m f : Nat} {ds : List D} {x d : D} {S S2 : Sto} (h : Pu C a env S d) (hm : MethAt C.P S d m f) (hs : evEs C es env S = .ok ds S2) (hc : C.call f (d :: ds) S2 = .err x S2) : evE C (.meth m a es) env S = .err x S2 := by
  obtain ⟨k, c, fs, cl, e1, e2, e3, e4, e5⟩ := hm
  subst e1
  simp only [evE]
  rw [show evE C a env S = _ from h, R.bind_ok]
  simp only [e2, e3, e4, e5]
  rw [hs, R.bind_ok, hc]
theorem isin_non {P : Prog} {c : Nat} : opSem P (.isin (.own c)) [.non] S = .ok (.bl false) S := rfl
def kfs (kvs : List (D × D)) : List D := kvs.map (·.1)
/-- one turn -/
theorem disk_turn {x7 x11 x12 x13 x14 x15 turn : Option D} {first fuse : D} {f : Option Nat} (hW : 1000 < W) (h : KV kvs) (hl : kvs.length ≤ 25) (hf : ∀ k, f = some k → k ≤ 1000) (ht : s.turn + 4 ≤ tmax) {Q : Fl × Sa.Env → Sto → Prop}
    (hq : ∀ s' f' kvs' x11 x12 x13 x14 x15, s'.turn ≤ s.turn + 4 → KV kvs' → kvs'.length ≤ kvs.length + 1 → (∀ k, f' = some k → k ≤ 1000) → Q (.nx, [some (.loc 1), some (.lst conts), some (.lst wrongs), some first, some fuse, some (.loc 3), turn, x7, some (.loc 4), some (.loc 6), some (fz f'), x11, x12, x13, x14, x15]) (Dk s' g kvs' kvs' f' [])) :
    Ok (evSs ⟨prog, W, callF prog W (n + 9)⟩ (match c31.body with
      | .cons _ (.cons _ (.cons _ (.cons _ (.cons _ (.cons _ (.cons _ (.cons (.forS _ _ b) _))))))) => b
      | b => b) [some (.loc 1), some (.lst conts), some (.lst wrongs), some first, some fuse, some (.loc 3), turn, x7, some (.loc 4), some (.loc 6), some (fz f), x11, x12, x13, x14, x15] (Dk s g kvs kvs f [])) Q := by
  have hT : ∀ s f, Dk s g kvs kvs f [] = mk s [.dct [] false, .dct g false, .ins 10 [(0, .loc 5), (1, fz f)], .dct kvs false, .dct kvs false] := fun _ _ => rfl
  refine OkSs.asg <| OkE.tup <| OkEs.cons <| OkE.call <| OkEs.pcons (Pu.var rfl) <| OkEs.pcons (d := .lst [.str "a", .str "b", .str "z", .str "stock", .str ""]) rfl <| OkEs.nil ?_
  refine (pick (n := n + 6) (by simp) (by simp) (fun x hx => by simp at hx; rcases hx with rfl | rfl | rfl | rfl | rfl <;> rfl) (by omega)).imp fun k S' q => ?_
  obtain ⟨s1, hk, rfl, t1⟩ := q
  have hk5 : k ∈ keys5 := by
    simp at hk
    rcases hk with rfl | rfl | rfl | rfl | rfl <;> simp [keys5]
  refine OkEs.cons <| OkE.call <| OkEs.pcons (Pu.var rfl) <| OkEs.pcons (Pu.var rfl) <| OkEs.nil ?_
  refine (pick (n := n + 6) (by simp [conts]) (by decide) (fun x hx => Gd.und (cont hx).gd) (by omega)).imp fun x S' q => ?_
  obtain ⟨s2, hx, rfl, t2⟩ := q
  refine OkEs.cons <| OkE.call <| OkEs.pcons (Pu.var rfl) <| OkEs.pcons (Pu.var rfl) <| OkEs.nil ?_
  refine (pick (n := n + 6) (by simp [wrongs]) (by decide) (fun x hx => by simp only [wrongs, List.mem_cons, List.not_mem_nil, or_false] at hx; rcases hx with rfl | rfl | rfl | rfl | rfl <;> rfl) (by omega)).imp fun w S' q => ?_
  obtain ⟨s3, hw, rfl, t3⟩ := q
  refine OkEs.nil <| Ok.of (a := [some (.loc 1), some (.lst conts), some (.lst wrongs), some first, some fuse, some (.loc 3), turn, x7, some (.loc 4), some (.loc 6), some (fz f), x11, some k, some x, some w, x15]) (S := Dk s3 g kvs kvs f []) (by kernel_rfl) ?_
  obtain ⟨ta, ta1, ta2⟩ := (cont (val_cont h k)).shown
  obtain ⟨tb, tb1, tb2⟩ := told_shown h (by omega)
  obtain ⟨kg, kk, _⟩ := key5 hk5
  have hkeys : ∀ x ∈ isort (kvs.map (·.1)), ∃ p ∈ kvs, p.1 = x := fun x hx => by
    obtain ⟨p, hp, e⟩ := List.mem_map.mp (isort_mem hx)
    exact ⟨p, hp, e⟩
  have hb : big = 16000000 := rfl
  refine OkSs.skip <| Ok.pu (d := .bl (false || (false || false))) (Pu.or (Pu.op2 (Pu.op1 (Pu.meth (Pu.var rfl) (method_at rfl rfl) (Pus.cons (Pu.var rfl) Pus.nil) (read_ok (W := W) (n := n + 8) hk5 h)) (o_repr ta1 (cont (val_cont h k)).nlst)) (Pu.op1 (d := val kvs k) ?_ (o_repr ta1 (cont (val_cont h k)).nlst)) (o_ne_same ta2)) fun _ => Pu.or (Pu.op2 (Pu.op1 (Pu.meth (Pu.var rfl) (method_at rfl rfl) Pus.nil (cells_ok (W := W) (n := n + 8) h (by omega))) (o_repr tb1 rfl)) (Pu.op1 (Pu.op1 (Pu.compG (xs := isort (kfs kvs)) (g := fun y => [some (.loc 1), some (.lst conts), some (.lst wrongs), some first, some fuse, some (.loc 3), turn, x7, some (.loc 4), some (.loc 6), some (fz f), x11, some k, some x, some w, some y]) (f := fun y => .tup [y, val kvs y]) ?_ (fun y hy => rfl) (fun y hy => ?_) (by rw [isort_len]; show (kvs.map (·.1)).length ≤ big; rw [List.length_map]; omega)) (dict_of (f := val kvs) (fun y hy => ?_) (by rw [isort_len]; show (kvs.map (·.1)).length ≤ big; rw [List.length_map]; omega))) (o_repr tb1 rfl)) (o_ne_same tb2)) fun _ => Pu.op2 (d := fz f) (e := fz f) ?_ (Pu.var rfl) (o_ne_same (fz_sh hf))) ⟨rfl, ?_⟩
  · show evE _ _ _ _ = _
    have e1 : evE ⟨prog, W, callF prog W (n + 9)⟩ (.mth .get (.var 9) (.cons (.var 12) .nil)) [some (.loc 1), some (.lst conts), some (.lst wrongs), some first, some fuse, some (.loc 3), turn, x7, some (.loc 4), some (.loc 6), some (fz f), x11, some k, some x, some w, x15] (Dk s3 g kvs kvs f []) = (if isKey k = true then Sa.R.ok ((look kvs k).getD .non) (Dk s3 g kvs kvs f []) else .bad).calm := by kernel_rfl
    rw [e1, if_pos kk]; rfl
  · exact it_of (Pu.op1 (d := .loc 6) (Pu.var rfl) (sorted_keys (lk := false) rfl h (by omega))) rfl
  · obtain ⟨p, hp, rfl⟩ := hkeys y hy
    exact Pu.tup (Pus.cons (Pu.var rfl) (Pus.cons (Pu.op2 (d := .loc 6) (Pu.var rfl) (Pu.var rfl) (look_some (l := false) (a := 6) (look_val ⟨p, hp, rfl⟩) (key5 (h p hp).1).2.1 rfl)) Pus.nil))
  · obtain ⟨p, hp, rfl⟩ := hkeys y hy
    exact (key5 (h p hp).1).2.1
  · unfold Pu; kernel_rfl
  obtain ⟨w1, w2, w3⟩ := wrong_fit (s := s3) (g := g) (kvs := kvs) (own := kvs) (U := []) (f := f) hw
  refine OkSs.skip <| caught_own (callE_meth (Pu.var rfl) (method_at rfl rfl) (Pus.cons (Pu.var rfl) (Pus.cons (Pu.var rfl) Pus.nil)) (writeE_content (n := n + 4) hk5 w1 w2 hW w3)) rfl rfl rfl rfl ⟨rfl, ?_⟩
  have hp := pick (W := W) (n := n + 6) (s := s3) (T := [.dct [] false, .dct g false, .ins 10 [(0, .loc 5), (1, fz f)], .dct kvs false, .dct kvs false]) (xs := [.non, .int 5, .tup [.str "a"]]) (by simp) (by simp) (fun x hx => by simp at hx; rcases hx with rfl | rfl | rfl <;> rfl) (by omega)
  obtain ⟨b, S4, e4, s4, hb4, rfl, t4⟩ := hp.ex
  have e5 : evEs ⟨prog, W, callF prog W (n + 9)⟩ (.cons (.call 21 (.cons (.var 0) (.cons (.lst false (.cons (.cst .non) (.cons (.cst (.int 5)) (.cons (.tup (.cons (.cst (.str "a")) .nil)) .nil)))) .nil))) .nil) [some (.loc 1), some (.lst conts), some (.lst wrongs), some first, some fuse, some (.loc 3), turn, x7, some (.loc 4), some (.loc 6), some (fz f), x11, some k, some x, some w, x15] (Dk s3 g kvs kvs f []) = .ok [b] (Dk s4 g kvs kvs f []) := by
    show (R.bind (R.bind (evEs _ _ _ _) _) _) = _
    rw [show evEs ⟨prog, W, callF prog W (n + 9)⟩ (.cons (.var 0) (.cons (.lst false (.cons (.cst .non) (.cons (.cst (.int 5)) (.cons (.tup (.cons (.cst (.str "a")) .nil)) .nil)))) .nil)) [some (.loc 1), some (.lst conts), some (.lst wrongs), some first, some fuse, some (.loc 3), turn, x7, some (.loc 4), some (.loc 6), some (fz f), x11, some k, some x, some w, x15] (Dk s3 g kvs kvs f []) = .ok [.loc 1, .lst [.non, .int 5, .tup [.str "a"]]] (Dk s3 g kvs kvs f []) from rfl, R.bind_ok]
    show R.bind (callF prog W (n + 9) 21 [.loc 1, .lst [.non, .int 5, .tup [.str "a"]]] _) _ = _
    rw [show callF prog W (n + 9) 21 _ (Dk s3 g kvs kvs f []) = _ from e4]; rfl
  refine OkSs.skip <| OkE.not <| OkE.op <| OkEs.cons <| OkE.caughtErr (k := 1) (fs := []) (S' := Dk s4 g kvs kvs f []) (callE_meth2 (Pu.var rfl) (method_at rfl rfl) e5 (read_err (n := n + 8) (by simpa using hb4))) rfl <| OkEs.nil <| Ok.of (a := .bl true) rfl ⟨true, rfl, rfl, ?_⟩
  have feq : opSem prog .eq [fz f, .int 0] (Dk s4 g kvs kvs f []) = .ok (.bl (D.eqv (fz f) (.int 0))) (Dk s4 g kvs kvs f []) := o_eq (fz_sh hf) rfl
  by_cases h0 : f = some 0
  · refine OkSs.asgN <| OkE.caughtErr (k := 9) (fs := []) (S' := Dk s4 g kvs kvs f []) (callE_meth (Pu.var rfl) (method_at rfl rfl) (Pus.cons (Pu.var rfl) (Pus.cons (Pu.var rfl) Pus.nil)) (writeE_fell (n := n + 4) hk5 hx hW h0)) rfl ?_
    subst h0
    refine OkSs.skip <| Ok.of (a := .bl false) (S := Dk s4 g kvs kvs (some 0) []) (by kernel_rfl) ⟨rfl, ?_⟩
    refine OkSs.skip <| Ok.of (a := .bl false) (S := Dk s4 g kvs kvs (some 0) []) (by kernel_rfl) ⟨rfl, ?_⟩
    exact OkSs.nil (hq s4 (some 0) kvs _ _ _ _ _ (by omega) h (by omega) hf)
  · have hput : KV (put kvs k x) := KV.put h hk5 hx
    refine OkSs.asgN <| OkE.caughtOk <| OkE.meth <| Ok.pu (Pu.var rfl) ⟨36, method_at rfl rfl, OkEs.pcons (Pu.var rfl) <| OkEs.pcons (Pu.var rfl) <| OkEs.nil <| (write_ok (n := n + 4) hk5 hx hW h0 (by omega) (kv_und hput)).imp fun d S' q => ?_⟩
    obtain ⟨_, rfl⟩ := q
    have fne : D.eqv (fz f) (.int 0) = false := by
      cases f with
      | none => rfl
      | some j => exact decide_eq_false fun e => h0 (by rw [show j = 0 by omega])
    have fsh := fz_sh hf
    have o0 : ∀ {S : Sto}, opSem prog .eq [fz f, .int 0] S = .ok (.bl false) S := fun {S} => by rw [o_eq fsh rfl, fne]
    have o1 : ∀ {S : Sto}, opSem prog .ne [fz f, .int 0] S = .ok (.bl true) S := fun {S} => by rw [o_ne fsh rfl, fne]; rfl
    refine OkSs.skip <| Ok.pu (d := .bl (false || (true && false))) (Pu.or (Pu.op2 (Pu.op2 (Pu.var rfl) Pu.cst o0) (Pu.op1 (Pu.var rfl) isin_non) rfl) fun _ => Pu.and (Pu.op2 (Pu.var rfl) Pu.cst o1) fun _ => Pu.op2 (Pu.var rfl) Pu.cst rfl) ⟨rfl, ?_⟩
    refine OkSs.when <| Ok.pu (d := .bl true) (Pu.op2 (Pu.var rfl) Pu.cst o1) ⟨_, rfl, fun _ => ?_, nofun⟩
    have fin : ∀ f2 : Option Nat, fz (less f) = fz f2 → (∀ k, f2 = some k → k ≤ 1000) → Ok (evSs ⟨prog, W, callF prog W (n + 9)⟩ .nil [some (.loc 1), some (.lst conts), some (.lst wrongs), some first, some fuse, some (.loc 3), turn, x7, some (.loc 4), some (.loc 6), some (fz f2), some .non, some k, some x, some w, x15] (Dk s4 g (put kvs k x) (put kvs k x) f2 [])) (Gn ⟨prog, W, callF prog W (n + 9)⟩ .nil Q) := fun f2 _ hf2 => OkSs.nil <| Gn.nx <| OkSs.nil <| hq s4 f2 (put kvs k x) _ _ _ _ _ (by omega) hput put_lenL hf2
    have hset : ∀ (f2 : Option Nat) (d : D), evTg ⟨prog, W, callF prog W (n + 9)⟩ (.tp (.cons (.sub (.var 9) (.var 12)) (.cons (.nm 10) .nil))) (.tup [x, d]) [some (.loc 1), some (.lst conts), some (.lst wrongs), some first, some fuse, some (.loc 3), turn, x7, some (.loc 4), some (.loc 6), some (fz f), some .non, some k, some x, some w, x15] (Dk s4 g (put kvs k x) kvs f2 []) = .ok [some (.loc 1), some (.lst conts), some (.lst wrongs), some first, some fuse, some (.loc 3), turn, x7, some (.loc 4), some (.loc 6), some d, some .non, some k, some x, some w, x15] (Dk s4 g (put kvs k x) (put kvs k x) f2 []) := fun f2 d => by
      show R.bind (if (isKey k && decide (kvs.length < big)) = true then _ else _) _ = _
      rw [kk, decide_eq_true (show kvs.length < big by omega)]
      rfl
    cases f with
    | none => exact OkSs.asg <| Ok.of (a := .tup [x, .non]) (S := Dk s4 g (put kvs k x) kvs none []) (by kernel_rfl) <| Ok.of (hset none .non) (fin none rfl nofun)
    | some j =>
      have ej : ((j - 1 : Nat) : Int) = (j : Int) - 1 := by
        have : j ≠ 0 := fun e => h0 (by rw [e])
        omega
      refine OkSs.asg <| Ok.of (a := .tup [x, .int ((j : Int) - 1)]) (S := Dk s4 g (put kvs k x) kvs (some (j - 1)) []) (by kernel_rfl) <| Ok.of (hset (some (j - 1)) (.int ((j : Int) - 1))) ?_
      rw [← ej]
      exact fin (some (j - 1)) rfl fun k hk => by cases hk; have := hf j rfl; omega
end K05
set_option maxRecDepth 100000
namespace K05
open Sa
variable {W n : Nat} {S : Sto} {v : D} {s : Gs} {g kvs own : List (D × D)} {U : Sto}
theorem slcV {P : Prog} {xs : List D} {i : Int} (h : 0 ≤ i) : opSem P (.slc false true) [.lst xs, .int i] S = .ok (.lst (xs.take i.toNat)) S := by rw [← cut_take h]; rfl
def dk5 (g held own : List (D × D)) (f : Option Nat) : Sto := [.dct [] false, .dct g false, .ins 10 [(0, .loc 5), (1, fz f)], .dct held false, .dct own false]
theorem disk (hW : 1000 < W) (ht : s.turn + 200 ≤ tmax) : Ok (callF prog W (n + 10) 31 [.loc 1] (mk s [])) fun d S' => ∃ s', d = .bl true ∧ S' = mk s' [] ∧ s'.turn ≤ s.turn + 200 := by
  have hb : big = 16000000 := rfl
  refine Ok.callF (fn := c31) rfl rfl rfl rfl ?_
  refine OkSs.asgN <| Ok.of (a := .lst conts) (S := mk s []) (by kernel_rfl) ?_
  refine OkSs.asgN <| Ok.of (a := .lst wrongs) (S := mk s [.dct [] false]) (by kernel_rfl) ?_
  refine OkSs.asgN <| OkE.op <| OkEs.cons <| OkE.map (fun S l acc => ∃ (s' : Gs) (ps : List (D × D)), S = mk s' [.dct [] false] ∧ acc = ps.map asPair ∧ KV ps ∧ (∀ x ∈ l, x ∈ keys5) ∧ ps.length + l.length ≤ 4 ∧ s'.turn + l.length ≤ s.turn + 9) ?_ (fun x l acc S1 hI => ?_) fun ys S4 hI => ?_
  · refine OkI.of <| OkE.op <| OkEs.cons <| OkE.call <| OkEs.pcons (Pu.var rfl) <| OkEs.pcons (d := .lst [.str "b", .str "a", .str "", .str "stock"]) rfl <| OkEs.nil ?_
    refine (mixed (n := n + 6) (T := [.dct [] false]) (by simp) hW (fun x hx => by simp at hx; rcases hx with rfl | rfl | rfl | rfl <;> rfl) (by simp; omega)).imp fun d S' q => ?_
    obtain ⟨ys, s1, rfl, hp, rfl, t1⟩ := q
    refine OkEs.cons <| OkE.call <| OkEs.pcons (Pu.var rfl) <| OkEs.pcons Pu.cst <| OkEs.nil ?_
    simp only [List.length_cons, List.length_nil] at t1
    refine (draw (n := n + 7) (by decide) (by decide) (by omega)).imp fun d S' q => ?_
    obtain ⟨i, s2, rfl, i0, i1, rfl, t2⟩ := q
    have hyl := hp.length_eq
    simp only [List.length_cons, List.length_nil] at hyl
    refine OkEs.nil <| Ok.of (slcV i0) ⟨_, rfl, rfl, by simp; omega, s2, [], rfl, rfl, nofun, fun x hx => ?_, by simp; omega, by simp; omega⟩
    have := hp.mem_iff.mp (List.mem_of_mem_take hx)
    simp at this
    rcases this with rfl | rfl | rfl | rfl <;> simp [keys5]
  · obtain ⟨s1, ps, rfl, rfl, hk, hx, hl, t1⟩ := hI
    simp only [List.length_cons] at hl t1
    refine OkT.nm <| OkE.tup <| OkEs.pcons (Pu.var rfl) <| OkEs.cons <| OkE.call <| OkEs.pcons (Pu.var rfl) <| OkEs.pcons (Pu.var rfl) <| OkEs.nil ?_
    refine (pick (n := n + 6) (by simp [conts]) (by decide) (fun x hx => Gd.und (cont hx).gd) (by omega)).imp fun c S' q => ?_
    obtain ⟨s2, hc, rfl, t2⟩ := q
    refine OkEs.nil ⟨s2, ps ++ [(x, c)], rfl, by simp [asPair], fun p hp => ?_, fun y hy => hx y (List.mem_cons_of_mem _ hy), by simp; omega, by omega⟩
    rcases List.mem_append.mp hp with hp | hp
    · exact hk p hp
    · rw [List.mem_singleton.mp hp]; exact ⟨hx x List.mem_cons_self, hc⟩
  obtain ⟨s1, ps, rfl, rfl, hps, _, hpl, t1⟩ := hI
  simp only [List.length_nil, Nat.add_zero] at hpl t1
  obtain ⟨m, em, ml, mk5⟩ := dictS_pairs (P := prog) (S := mk s1 [.dct [] false]) (ps := ps) (fun p hp => (key5 (hps p hp).1).2.1) (by omega)
  have hm := mk5 hps
  refine OkEs.nil <| Ok.of em ?_
  refine OkSs.asgN <| OkE.call <| OkEs.pcons (Pu.var rfl) <| OkEs.pcons (d := .lst [.non, .int 0, .int 1, .int 3]) rfl <| OkEs.nil ?_
  refine (pick (n := n + 6) (by simp) (by simp) (fun x hx => by simp at hx; rcases hx with rfl | rfl | rfl | rfl <;> rfl) (by omega)).imp fun d S' q => ?_
  obtain ⟨s2, hd, rfl, t2⟩ := q
  obtain ⟨f, rfl, hf⟩ : ∃ f : Option Nat, d = fz f ∧ ∀ k, f = some k → k ≤ 1000 := by
    simp at hd
    rcases hd with rfl | rfl | rfl | rfl
    · exact ⟨none, rfl, nofun⟩
    · exact ⟨some 0, rfl, fun k h => by cases h; decide⟩
    · exact ⟨some 1, rfl, fun k h => by cases h; decide⟩
    · exact ⟨some 3, rfl, fun k h => by cases h; decide⟩
  refine OkSs.asgN <| Ok.of (a := .loc 3) (S := mk s2 [.dct [] false, .dct m false]) ?_ ?_
  · show R.bind (R.bind (Sa.R.ok _ _) _) _ = _
    show R.calm (opSem prog (.dict true) [.dct (m.map (·.1)) (m.map (·.2))] (mk s2 [.dct [] false])) = _
    rw [dict_copy (by omega)]; rfl
  refine OkSs.asg <| OkE.tup <| OkEs.cons <| OkE.newK rfl <| OkEs.nil <| OkEs.pcons (Pu.var rfl) <| OkEs.pcons (Pu.var rfl) <| OkEs.nil <| (disk_init (n := n + 4) hW hm (by omega) hf).imp fun d S' q => ?_
  obtain ⟨rfl, rfl⟩ := q
  refine ⟨rfl, OkEs.cons <| Ok.of (a := .loc 6) (S := Dk s2 m m m f []) ?_ <| OkEs.pcons (Pu.var rfl) <| OkEs.nil ?_⟩
  · show R.bind (R.bind (Sa.R.ok _ _) _) _ = _
    show R.calm (opSem prog (.dict true) [.dct (m.map (·.1)) (m.map (·.2))] _) = _
    rw [dict_copy (by omega)]; rfl
  refine Ok.of (a := [some (.loc 1), some (.lst conts), some (.lst wrongs), some (.dct (m.map (·.1)) (m.map (·.2))), some (fz f), some (.loc 3), none, none, some (.loc 4), some (.loc 6), some (fz f), none, none, none, none, none]) (S := Dk s2 m m m f []) (by kernel_rfl) ?_
  refine OkSs.asg <| Ok.pu Pu.cst <| Ok.of (a := [some (.loc 1), some (.lst conts), some (.lst wrongs), some (.dct (m.map (·.1)) (m.map (·.2))), some (fz f), some (.loc 3), none, none, some (.loc 4), some (.loc 6), some (fz f), none, none, none, none, none]) (S := Dk s2 (put m (.str "late") (.int 1)) m m f []) ?_ ?_
  · show (if (isKey (.str "late") && decide (m.length < big)) = true then _ else _) = _
    rw [decide_eq_true (show m.length < big by omega)]; rfl
  generalize put m (.str "late") (.int 1) = g
  obtain ⟨fuse0, hfuse0⟩ : ∃ x, x = fz f := ⟨_, rfl⟩
  refine OkSs.forS (fun env S l => ∃ (s' : Gs) (kvs : List (D × D)) (f : Option Nat) (x6 x7 x11 x12 x13 x14 x15 : Option D), env = [some (.loc 1), some (.lst conts), some (.lst wrongs), some (.dct (m.map (·.1)) (m.map (·.2))), some fuse0, some (.loc 3), x6, x7, some (.loc 4), some (.loc 6), some (fz f), x11, x12, x13, x14, x15] ∧ S = Dk s' g kvs kvs f [] ∧ KV kvs ∧ kvs.length + l.length ≤ 18 ∧ (∀ k, f = some k → k ≤ 1000) ∧ s'.turn + 4 * l.length ≤ s.turn + 66) (Ok.of (a := (upto 0 14, .no)) (S := Dk s2 g m m f []) (by kernel_rfl) ⟨rfl, s2, m, f, _, _, _, _, _, _, _, by rw [hfuse0], rfl, hm, by simp [upto]; omega, hf, by simp [upto]; omega⟩) (fun x l env S hI => ?_) fun env S hI => ?_
  · obtain ⟨s3, kvs, f, x6, x7, x11, x12, x13, x14, x15, rfl, rfl, hk, hl, hf, t3⟩ := hI
    simp only [List.length_cons] at hl t3
    refine OkT.nm <| disk_turn (n := n) hW hk (by omega) hf (by omega) fun s' f' kvs' y11 y12 y13 y14 y15 t4 k4 l4 f4 => ?_
    exact ⟨s', kvs', f', _, _, _, _, _, _, _, rfl, rfl, k4, by omega, f4, by omega⟩
  · obtain ⟨s3, kvs, f, x6, x7, x11, x12, x13, x14, x15, rfl, rfl, hk, hl, hf, t3⟩ := hI
    simp only [List.length_nil, Nat.mul_zero, Nat.add_zero] at hl t3
    have hnn : ∀ {C : Rt} {env : Sa.Env} {S S' : Sto} {e : E} {c : Nat} {cl : Cl} {P : D → Sto → Prop}, evE C e env S = .err (.exc c []) S' → C.P.cls[c]? = some cl → cl.exc = true → cl.up.contains c = true → isSub C.P c C.P.top = true → P (.bl true) S' → Ok (evE C (.op (.isin (.own c)) (.cons (.caught e) .nil)) env S) P := fun he hc hx hu hs q => OkE.op <| OkEs.cons <| OkE.caughtErr he hs <| OkEs.nil <| Ok.of (isown hc hx hu) q
    refine OkSs.asgN <| OkE.map (fun S l acc => ∃ U, S = mk s3 (dk5 g kvs kvs f ++ .dct [(.int 5, .int 1)] false :: .dct [(.str "a", .bl true)] false :: .dct [(.str "a", .lst [.int 1])] false :: U) ∧ (∃ bs : List Bool, acc = bs.map D.bl ∧ bs.all id = true ∧ bs.length + l.length ≤ 5) ∧ ∀ x ∈ l, x ∈ [D.non, .lst [], .loc 7, .loc 8, .loc 9]) (OkI.of <| Ok.of (a := .lst [.non, .lst [], .loc 7, .loc 8, .loc 9]) (S := mk s3 (dk5 g kvs kvs f ++ [.dct [(.int 5, .int 1)] false, .dct [(.str "a", .bl true)] false, .dct [(.str "a", .lst [.int 1])] false])) (by kernel_rfl) ⟨_, rfl, rfl, by decide, [], rfl, ⟨[], rfl, rfl, by decide⟩, fun x hx => hx⟩) (fun x l acc S1 hI => ?_) fun ys S4 hI => ?_
    · obtain ⟨U, rfl, ⟨bs, rfl, hbs, hbl0⟩, hx⟩ := hI
      simp only [List.length_cons] at hbl0
      refine OkT.nm <| hnn (c := 2) (S' := mk s3 (dk5 g kvs kvs f ++ .dct [(.int 5, .int 1)] false :: .dct [(.str "a", .bl true)] false :: .dct [(.str "a", .lst [.int 1])] false :: (U ++ [.ins 10 []]))) (callE_newB (i := 34) (ds := [x, .non]) (S' := mk s3 (dk5 g kvs kvs f ++ .dct [(.int 5, .int 1)] false :: .dct [(.str "a", .bl true)] false :: .dct [(.str "a", .lst [.int 1])] false :: U)) rfl rfl rfl fun b => ?_) rfl rfl rfl rfl ⟨U ++ [.ins 10 []], rfl, ⟨bs ++ [true], by simp, by simpa using hbs, by simp; omega⟩, fun y hy => hx y (List.mem_cons_of_mem _ hy)⟩
      have hx0 := hx x List.mem_cons_self
      simp only [List.mem_cons, List.not_mem_nil, or_false] at hx0
      rcases hx0 with rfl | rfl | rfl | rfl | rfl
      · exact initE_kind (n := n + 8) (.inl rfl)
      · exact initE_kind (n := n + 8) (.inr rfl)
      · exact initE_key (n := n + 8) (kvs := [(.int 5, .int 1)]) (by rfl) (fun p hp => by rw [List.mem_singleton.mp hp]; decide +kernel) (by decide) rfl
      · exact initE_cf (n := n + 4) (kvs := [(.str "a", .bl true)]) hW (by rfl) (fun p hp => by rw [List.mem_singleton.mp hp]; decide +kernel) (fun p hp => by rw [List.mem_singleton.mp hp]; exact ⟨rfl, by decide +kernel, by decide +kernel⟩) (by decide) rfl (by decide +kernel)
      · exact initE_cf (n := n + 4) (kvs := [(.str "a", .lst [.int 1])]) hW (by rfl) (fun p hp => by rw [List.mem_singleton.mp hp]; decide +kernel) (fun p hp => by rw [List.mem_singleton.mp hp]; exact ⟨rfl, by decide +kernel, by decide +kernel⟩) (by decide) rfl (by decide +kernel)
    obtain ⟨U, rfl, ⟨bs, rfl, hbs, hbl0⟩, _⟩ := hI
    simp only [List.length_nil, Nat.add_zero] at hbl0
    refine OkSs.asgN <| OkE.op <| OkEs.pcons (Pu.var rfl) <| OkEs.cons <| OkE.map (fun S l acc => ∃ U, S = mk s3 U ∧ (∃ bs : List Bool, acc = bs.map D.bl ∧ bs.all id = true ∧ bs.length + l.length ≤ 4) ∧ ∀ x ∈ l, x ∈ [D.int (-1), .bl true, .str "1", .tup []]) (OkI.of <| Ok.pu (d := .lst [.int (-1), .bl true, .str "1", .tup []]) rfl ⟨_, rfl, rfl, by decide, _, rfl, ⟨[], rfl, rfl, by decide⟩, fun x hx => hx⟩) (fun x l acc S1 hI => ?_) fun ys S4 hI => ?_
    · obtain ⟨U, rfl, ⟨cs, rfl, hcs, hcl⟩, hx⟩ := hI
      simp only [List.length_cons] at hcl
      refine OkT.nm <| hnn (c := 4) (S' := mk s3 (U ++ [.dct [] false, .ins 10 []])) ?_ rfl rfl rfl rfl ⟨U ++ [.dct [] false, .ins 10 []], rfl, ⟨cs ++ [true], by simp, by simpa using hcs, by simp; omega⟩, fun y hy => hx y (List.mem_cons_of_mem _ hy)⟩
      have hx0 := hx x List.mem_cons_self
      have hxv : Pv x = true ∧ x ≠ .non ∧ isNum x 0 = false := by
        simp only [List.mem_cons, List.not_mem_nil, or_false] at hx0
        rcases hx0 with rfl | rfl | rfl | rfl
        · exact ⟨rfl, by simp, rfl⟩
        · exact ⟨rfl, by simp, rfl⟩
        · exact ⟨by decide +kernel, by simp, rfl⟩
        · exact ⟨rfl, by simp, rfl⟩
      have e3 : mk s3 (U ++ [.dct [] false]) ++ [.ins 10 []] = mk s3 (U ++ [.dct [] false, .ins 10 []]) := by
        show .lst _ :: .dct _ false :: ((U ++ [.dct [] false]) ++ [.ins 10 []]) = _
        rw [List.append_assoc]; rfl
      rw [← e3]
      refine callE_newB (P := prog) (W := W) (n := n + 9) (i := 34) (cl := ?cl) (ds := [.loc (U.length + 2), x]) (S' := mk s3 (U ++ [.dct [] false])) ?_ ?_ ?_ fun b => initE_fuse (n := n + 4) hW (by rw [e3]; exact mk_at) hxv.1 hxv.2.1 hxv.2.2
      case cl => exact { init := 34, meths := [(4, 35), (6, 36), (5, 37)], flds := [0, 1], exc := false, up := [10] }
      all_goals rfl
    obtain ⟨U, rfl, ⟨cs, rfl, hcs, hcl⟩, _⟩ := hI
    have hbl : (bs ++ cs).all (fun b => b) = true := by
      rw [List.all_append]
      show (bs.all id && cs.all id) = true
      rw [hbs, hcs]; rfl
    simp only [List.length_nil, Nat.add_zero] at hcl
    refine OkEs.nil <| Ok.of (a := .lst ((bs ++ cs).map fun b => D.bl b)) (S := mk s3 U) ?_ ?_
    · rw [catV, List.map_append]
      rw [List.length_map, List.length_map]; omega
    refine OkSs.ret <| Ok.pu (Pu.op2 Pu.cst (Pu.var rfl) (notin_map (fun b => b) (bs ++ cs))) ?_
    rw [hbl]
    exact ⟨trivial, Old.mk (Nat.succ_pos _) trivial, _, frz_und rfl, s3, rfl, rfl, by omega⟩
end K05
set_option maxRecDepth 100000
namespace K05
open Sa
variable {W n : Nat} {S : Sto} {v : D} {s : Gs}
theorem begun (ns : List Int) (hl : ns.length ≤ 63) : Ok (callF prog W (n + 1) 18 [.ro (ns.map .int)] []) fun d S' => ∃ s, d = .loc 1 ∧ S' = mk s [] ∧ s.turn = 0 := by
  refine Ok.callFN (fn := c18) rfl rfl rfl ?_
  have hb : big = 16000000 := rfl
  refine OkSs.asgN <| OkE.comp (fun S l acc => S = [] ∧ (∃ is : List Int, l = is.map .int) ∧ ∃ gs : List Int, acc = gs.map .int) (Ok.of (a := (ns.map .int, .no)) (S := []) rfl ⟨rfl, by rw [List.length_map]; omega, rfl, ⟨ns, rfl⟩, [], rfl⟩) (fun x l acc S1 hI => ?_) fun ys S4 hI hy => ?_
  · obtain ⟨rfl, ⟨is, e⟩, gs, rfl⟩ := hI
    cases is with
    | nil => cases e
    | cons i is =>
      cases e
      refine OkT.nm <| OkEs.pcons (d := .bl (decide (1000000000000000000 ≤ (if i < 0 then -i else i)))) (by unfold Pu; kernel_rfl) <| OkEs.nil ?_
      cases hd : decide (1000000000000000000 ≤ (if i < 0 then -i else i)) with
      | true => exact Ok.pu (d := .int ((if i < 0 then -i else i) - 1000000000000000000)) (by unfold Pu; kernel_rfl) ⟨rfl, ⟨is, rfl⟩, gs ++ [(if i < 0 then -i else i) - 1000000000000000000], by simp⟩
      | false => exact ⟨rfl, ⟨is, rfl⟩, gs, rfl⟩
  obtain ⟨rfl, _, gs, rfl⟩ := hI
  refine Ok.of (a := .loc 0) (S := [.lst (gs.map .int)]) ?_ ?_
  · unfold newL
    rw [if_pos hy]; rfl
  have hc : Pu ⟨prog, W, callF prog W n⟩ (.comp false [2] (.nm 2) (.of (.var 0)) .nil (.op .abs (.cons (.var 2) .nil))) [some (.ro (ns.map .int)), some (.loc 0), none] [.lst (gs.map .int)] (.lst ((ns.map fun i => if i < 0 then -i else i).map .int)) := by
    have := Pu.compG (C := ⟨prog, W, callF prog W n⟩) (S := [.lst (gs.map .int)]) (env := [some (.ro (ns.map .int)), some (.loc 0), none]) (own := [2]) (t := .nm 2) (it := .of (.var 0)) (e := .op .abs (.cons (.var 2) .nil)) (xs := ns.map .int) (g := fun x => [some (.ro (ns.map .int)), some (.loc 0), some x]) (f := fun x => match x with
      | .int i => .int (if i < 0 then -i else i)
      | x => x) rfl (fun x _ => rfl) (fun x hx => ?_) (by rw [List.length_map]; omega)
    · rw [List.map_map] at this ⊢
      exact this
    · obtain ⟨i, _, rfl⟩ := List.mem_map.mp hx
      exact Pu.op1 (Pu.var rfl) rfl
  refine OkSs.ret <| OkE.dct <| OkEs.pcons Pu.cst <| OkEs.pcons (d := .loc 0) (Pu.var rfl) <| OkEs.pcons Pu.cst <| OkEs.pcons hc <| OkEs.pcons Pu.cst <| OkEs.pcons Pu.cst <| OkEs.pcons Pu.cst <| OkEs.pcons Pu.cst <| OkEs.nil <| Ok.of (a := .loc 1) (S := mk ⟨gs, ns.map fun i => if i < 0 then -i else i, 0, 0⟩ []) (by kernel_rfl) ⟨trivial, .inl rfl, _, rfl, rfl, rfl⟩
theorem truth {b : Bool} : callF prog W (n + 1) 23 [.bl b, .bl b] S = .ok (.bl true) S := by
  cases b
  · exact callF_pu (fn := c23) (fl := .rt (.bl true)) rfl rfl rfl (PuSs.stop (PuS.ret (Pu.ite (x := false) (Pu.var rfl) nofun fun _ => Pu.op2 (Pu.var rfl) Pu.cst rfl))) (.inr ⟨_, rfl⟩) rfl
  · exact callF_pu (fn := c23) (fl := .rt (.bl true)) rfl rfl rfl (PuSs.stop (PuS.ret (Pu.ite (x := true) (Pu.var rfl) (fun _ => Pu.op2 (Pu.var rfl) Pu.cst rfl) nofun))) (.inr ⟨_, rfl⟩) rfl
def stores : List D := [.tup [.int 1, .int 1, .int 0], .tup [.int 2, .int 4, .int 1], .tup [.int 6, .int 13, .int 4], .tup [.int 3, .int 2, .int 0]]
def badStores : List D := [.non, .tup [.int 0, .int 1, .int 0], .tup [.int 1, .int 3, .int 1], .tup [.int 7, .int 4, .int 1], .tup [.int 1, .int 14, .int 1], .tup [.int 1, .int 4]]
theorem store_of {d : D} (h : d ∈ stores) : ∃ h m l, d = st h m l ∧ 1 ≤ h ∧ h ≤ 10 ∧ 1 ≤ m ∧ m ≤ 100 ∧ Pv (st h m l) = true ∧ isStore (st h m l) = true := by
  simp only [stores, List.mem_cons, List.not_mem_nil, or_false] at h
  rcases h with rfl | rfl | rfl | rfl
  all_goals exact ⟨_, _, _, rfl, by decide, by decide, by decide, by decide, by decide +kernel, by decide +kernel⟩
theorem bad_ok : badStores.all (fun d => Pv d && (!isStore d && d.und 2)) = true := by decide +kernel
theorem xcallE {C : Rt} {env : Sa.Env} {es : Es} {f : Nat} {ds : List D} {x : D} {S S' : Sto} (hs : evEs C es env S = .ok ds S') (hc : C.call f ds S' = .err x S') : evE C (.call f es) env S = .err x S' := by
  simp only [evE]
  rw [hs, R.bind_ok, hc]
theorem xcall {C : Rt} {env : Sa.Env} {es : Es} {f : Nat} {ds : List D} {x : D} {S S1 S2 : Sto} (hs : evEs C es env S = .ok ds S1) (hc : C.call f ds S1 = .ok x S2) : evE C (.call f es) env S = .ok x S2 := by
  simp only [evE]
  rw [hs, R.bind_ok, hc]
theorem xcons {C : Rt} {env : Sa.Env} {e : E} {r : Es} {d : D} {ds : List D} {S S1 S2 : Sto} (h : evE C e env S = .ok d S1) (h2 : evEs C r env S1 = .ok ds S2) : evEs C (.cons e r) env S = .ok (d :: ds) S2 := by
  simp only [evEs]
  rw [h, R.bind_ok, h2, R.bind_ok]
theorem letter_form {h m : Int} {d : D} (hd : Letter h m d) : ∃ a b ys, d = .tup [a, b, .tup ys] := by
  have hr := hd.1
  unfold rightLetter at hr
  rw [Bool.and_eq_true] at hr
  obtain ⟨h1, h2⟩ := hr
  simp only [Bool.not_eq_true', Bool.or_eq_false_iff, Bool.not_eq_false'] at h1
  have e := three h1.1 h1.2
  have ht : isTup (at_ d 2) = true := by
    split at h2
    · rw [Bool.and_eq_true] at h2
      have h3 := h2.2
      unfold handBody at h3
      rw [Bool.and_eq_true] at h3
      have h4 := h3.1
      simp only [Bool.not_eq_true', Bool.or_eq_false_iff, Bool.not_eq_false'] at h4
      exact h4.1
    · simp only [Bool.and_eq_true] at h2
      have h3 := h2.2.2
      unfold houseBody at h3
      rw [Bool.and_eq_true] at h3
      have h4 := h3.1
      simp only [Bool.not_eq_true', Bool.or_eq_false_iff, Bool.not_eq_false'] at h4
      exact h4.1
  rw [tup_of ht] at e
  exact ⟨_, _, _, e⟩
theorem cut_sub {xs : List D} {lo hi : Option Int} : (∀ x ∈ cut xs lo hi, x ∈ xs) ∧ (cut xs lo hi).length ≤ xs.length := by
  unfold cut
  refine ⟨fun x h => List.mem_of_mem_drop (List.mem_of_mem_take h), ?_⟩
  rw [List.length_take, List.length_drop]
  omega
theorem plain0 (hW : 1000 < W) (ns : List Int) (hl : ns.length ≤ 63) : Ok (callF prog W (n + 12) 33 [.ro (ns.map .int)] []) fun d S' => d = .bl true := by
  have hb : big = 16000000 := rfl
  have hbi : (big : Int) = 16000000 := rfl
  refine Ok.callF (fn := c33) rfl rfl rfl rfl ?_
  refine OkSs.asgN <| OkE.call <| OkEs.pcons (Pu.var rfl) <| OkEs.nil <| (begun (n := n + 10) ns hl).imp fun d S' q => ?_
  obtain ⟨s, rfl, rfl, ht⟩ := q
  refine OkSs.forS (fun env S l => ∃ (s : Gs) (x2 x3 x4 x5 x6 : Option D), env = [some (.ro (ns.map .int)), some (.loc 1), x2, x3, x4, x5, x6] ∧ S = mk s [] ∧ s.turn + 3000 * l.length ≤ 30000) (OkI.rng <| Ok.pu (d := .int (2 + (if (4 : Int) < (ns.length : Int) then 4 else (ns.length : Int)))) (Pu.op2 Pu.cst (Pu.op2 (Pu.op1 (z := .int ns.length) (Pu.var rfl) ?_) Pu.cst rfl) rfl) ⟨_, rfl, by split <;> omega, by split <;> omega, rfl, s, none, none, none, none, none, rfl, rfl, ?_⟩) (fun x l env S hI => ?_) fun env S hI => ?_
  · show Sa.R.ok (D.int ((ns.map D.int).length : Int)) _ = _
    rw [List.length_map]
  · simp only [upto, List.length_map, List.length_range]
    rw [ht]
    split <;> omega
  · obtain ⟨s1, x2, x3, x4, x5, x6, rfl, rfl, t1⟩ := hI
    simp only [List.length_cons] at t1
    have htm : tmax = 100000000000000 := rfl
    refine OkT.nm <| OkSs.asgN <| OkE.call <| OkEs.pcons (Pu.var rfl) <| OkEs.pcons (d := .lst stores) rfl <| OkEs.nil ?_
    refine (pick (n := n + 8) (by simp [stores]) (by decide) (fun x hx => by
      obtain ⟨h, m, l, rfl, _⟩ := store_of hx
      rfl) (by omega)).imp fun d S' q => ?_
    obtain ⟨s2, hd, rfl, t2⟩ := q
    obtain ⟨h, m, l3, rfl, h1, h2, m1, m2, hp, hs⟩ := store_of hd
    refine OkSs.skip <| OkE.or <| OkE.not <| OkE.call <| OkEs.pcons (Pu.var rfl) <| OkEs.nil <| (disk (n := n + 1) hW (by omega)).imp fun d S' q => ?_
    obtain ⟨s3, rfl, rfl, t3⟩ := q
    refine ⟨true, rfl, _, rfl, nofun, fun _ => ?_⟩
    refine OkE.not <| OkE.call <| OkEs.pcons (Pu.var rfl) <| OkEs.pcons (Pu.var rfl) <| OkEs.nil <| (road (n := n + 1) h1 h2 m1 m2 hp hs (by omega)).imp fun d S' q => ?_
    obtain ⟨s4, rfl, rfl, t4⟩ := q
    refine ⟨true, rfl, rfl, ?_⟩
    refine OkSs.forS (fun env S l => ∃ (s : Gs) (x4 x5 x6 : Option D), env = [some (.ro (ns.map .int)), some (.loc 1), some x, some (st h m l3), x4, x5, x6] ∧ S = mk s [] ∧ s.turn + 80 * l.length ≤ s4.turn + 960) (Ok.of (a := (upto 0 12, .no)) (S := mk s4 []) (by kernel_rfl) ⟨rfl, s4, _, _, _, rfl, rfl, by simp [upto]⟩) (fun y l env S hI => ?_) fun env S hI => ?_
    · obtain ⟨s5, x4, x5, x6, rfl, rfl, t5⟩ := hI
      simp only [List.length_cons] at t5
      refine OkT.nm <| OkSs.asgN <| OkE.call <| OkEs.pcons (Pu.var rfl) <| OkEs.pcons (Pu.var rfl) <| OkEs.nil <| (letter (n := n + 7) h1 h2 m1 m2 (by omega)).imp fun d S' q => ?_
      obtain ⟨s6, hd, rfl, t6⟩ := q
      obtain ⟨a, b, ys, rfl⟩ := letter_form hd
      have hg := hd.2.1
      obtain ⟨_, hg3⟩ := gd_tup.mp hg
      have ga := hg3 a (by simp)
      have gb := hg3 b (by simp)
      have gy := hg3 (.tup ys) (by simp)
      obtain ⟨gyl, gym⟩ := gd_tup.mp gy
      have pv : ∀ {v : D}, Gd 10 100000000000000000 v = true → Pv v = true := fun h => gd_pv h (by decide) (by decide)
      obtain ⟨c1, c2⟩ := cut_sub (xs := ys) (lo := none) (hi := some (-1))
      have pt : ∀ {z : D}, Pv z = true → Pv (.tup [a, b, z]) = true := fun {z} hz => pv_tup.mpr ⟨by simp, (gds_mem (b := 999999999999999999)).mpr fun x hx => by
        simp only [List.mem_cons, List.not_mem_nil, or_false] at hx
        rcases hx with rfl | rfl | rfl
        · exact pv ga
        · exact pv gb
        · exact hz⟩
      refine OkSs.forS (fun env S l => ∃ (s : Gs) (x6 : Option D), env = [some (.ro (ns.map .int)), some (.loc 1), some x, some (st h m l3), some y, some (.tup [a, b, .tup ys]), x6] ∧ S = mk s [] ∧ s.turn ≤ s6.turn + 50 ∧ ∀ v ∈ l, Pv v = true) (OkI.of <| OkE.lst <| OkEs.pcons (Pu.var rfl) <| OkEs.cons <| OkE.call <| OkEs.pcons (Pu.var rfl) <| OkEs.pcons (Pu.var rfl) <| OkEs.nil <| (bent (m := 10) (b := 100000000000000000) (by decide) (by decide) (by decide) 4 (n + 11) _ s6 (by omega) hd.2.2.1 hg (by omega)).imp fun b1 S' q => ?_) (fun v l env S hI => ?_) fun env S hI => ?_
      · obtain ⟨s7, g1, rfl, t7⟩ := q
        refine OkEs.cons <| OkE.call <| OkEs.pcons (Pu.var rfl) <| OkEs.pcons (Pu.var rfl) <| OkEs.nil <| (bent (m := 10) (b := 100000000000000000) (by decide) (by decide) (by decide) 4 (n + 11) _ s7 (by omega) hd.2.2.1 hg (by omega)).imp fun b2 S' q => ?_
        obtain ⟨s8, g2, rfl, t8⟩ := q
        have o2 : ∀ {S : Sto}, opSem prog (.slc false true) [.tup [a, b, .tup ys], .int 2] S = .ok (.tup [a, b]) S := fun {S} => o_upto (by decide)
        have o3 : ∀ {S : Sto}, opSem prog .idx [.tup [a, b, .tup ys], .int 2] S = .ok (.tup ys) S := fun {S} => o_idxT (by decide) rfl
        refine OkEs.pcons (d := .tup [a, b, .tup (cut ys none (some (-1)))]) (Pu.op2 (Pu.op2 (Pu.var rfl) Pu.cst o2) (Pu.tup (Pus.cons (Pu.op2 (Pu.op2 (Pu.var rfl) Pu.cst o3) (Pu.op1 Pu.cst rfl) rfl) Pus.nil)) (o_addT (by simp [hb]))) ?_
        refine OkEs.pcons (d := .tup [a, b, .tup (ys ++ [.int 1])]) (Pu.op2 (Pu.op2 (Pu.var rfl) Pu.cst o2) (Pu.tup (Pus.cons (Pu.op2 (Pu.op2 (Pu.var rfl) Pu.cst o3) (Pu.tup (Pus.cons Pu.cst Pus.nil)) (o_addT (by simp; omega))) Pus.nil)) (o_addT (by simp [hb]))) ?_
        refine OkEs.pcons (d := .tup [.tup ys, b, a]) (Pu.op1 (Pu.var rfl) rfl) ?_
        refine OkEs.pcons (d := .lst [a, b, .tup ys]) (Pu.op1 (Pu.var rfl) rfl) <| OkEs.nil <| Ok.of (a := .lst [.tup [a, b, .tup ys], b1, b2, .tup [a, b, .tup (cut ys none (some (-1)))], .tup [a, b, .tup (ys ++ [.int 1])], .tup [.tup ys, b, a], .lst [a, b, .tup ys]]) (S := mk s8 []) rfl ⟨_, rfl, rfl, s8, _, rfl, rfl, by omega, fun v hv => ?_⟩
        simp only [List.mem_cons, List.not_mem_nil, or_false] at hv
        rcases hv with rfl | rfl | rfl | rfl | rfl | rfl | rfl
        · exact pv hg
        · exact gd_pv g1 (by decide) (by decide)
        · exact gd_pv g2 (by decide) (by decide)
        · exact pt (pv_tup.mpr ⟨by omega, (gds_mem (b := 999999999999999999)).mpr fun x hx => pv (gym x (c1 x hx))⟩)
        · refine pt (pv_tup.mpr ⟨by simp; omega, (gds_mem (b := 999999999999999999)).mpr fun x hx => ?_⟩)
          rcases List.mem_append.mp hx with hx | hx
          · exact pv (gym x hx)
          · rw [List.mem_singleton.mp hx]; rfl
        · refine pv_tup.mpr ⟨by simp, (gds_mem (b := 999999999999999999)).mpr fun x hx => ?_⟩
          simp only [List.mem_cons, List.not_mem_nil, or_false] at hx
          rcases hx with rfl | rfl | rfl
          · exact pv gy
          · exact pv gb
          · exact pv ga
        · refine gd_lst.mpr ⟨by simp, fun x hx => ?_⟩
          simp only [List.mem_cons, List.not_mem_nil, or_false] at hx
          rcases hx with rfl | rfl | rfl
          · exact pv ga
          · exact pv gb
          · exact pv gy
      · obtain ⟨s7, x6, rfl, rfl, t7, hv⟩ := hI
        have hv0 := hv v List.mem_cons_self
        have ek : Pu ⟨prog, W, callF prog W (n + 11)⟩ (.callK 12 .nil (.cons (.var 3) (.cons (.var 6) .nil))) [some (.ro (ns.map .int)), some (.loc 1), some x, some (st h m l3), some y, some (.tup [a, b, .tup ys]), some v] (mk s7 []) (.bl (rightLetter h m v)) := is_letter (n := n + 5) hv0 hp hs
        refine OkT.nm <| OkSs.skip <| Ok.pu (d := .bl false) (Pu.not (x := true) (Pu.call (Pus.cons ek (Pus.cons (Pu.call (Pus.cons (Pu.var rfl) (Pus.cons (Pu.var rfl) Pus.nil)) (l_letter (n := n + 7) hv0)) Pus.nil)) (truth (n := n + 10)))) ⟨rfl, OkSs.nil ⟨s7, _, rfl, rfl, t7, fun z hz => hv z (List.mem_cons_of_mem _ hz)⟩⟩
      · obtain ⟨s7, x6, rfl, rfl, t7, _⟩ := hI
        exact OkSs.nil ⟨s7, _, _, _, rfl, rfl, by omega⟩
    · obtain ⟨s5, x4, x5, x6, rfl, rfl, t5⟩ := hI
      simp only [List.length_nil, Nat.mul_zero, Nat.add_zero] at t5
      have hpk := pick (W := W) (n := n + 8) (s := s5) (T := []) (xs := badStores) (by simp [badStores]) (by decide) (fun x hx => by
        have := List.all_eq_true.mp bad_ok x hx
        simp only [Bool.and_eq_true] at this
        exact this.2.2) (by omega)
      obtain ⟨w, S6, e6, s6, hw, rfl, t6⟩ := hpk.ex
      have hw2 := List.all_eq_true.mp bad_ok w hw
      simp only [Bool.and_eq_true, Bool.not_eq_true'] at hw2
      refine OkSs.skip <| OkE.not <| OkE.op <| OkEs.cons <| OkE.caughtErr (k := 7) (fs := []) (S' := mk s6 []) ?_ rfl <| OkEs.nil <| Ok.of (a := .bl true) rfl ⟨true, rfl, rfl, OkSs.nil ⟨s6, _, _, _, _, _, rfl, rfl, by omega⟩⟩
      have e7 : evEs ⟨prog, W, callF prog W (n + 11)⟩ (.cons (.var 1) (.cons (.lst false (.cons (.cst .non) (.cons (.tup (.cons (.cst (.int 0)) (.cons (.cst (.int 1)) (.cons (.cst (.int 0)) .nil)))) (.cons (.tup (.cons (.cst (.int 1)) (.cons (.cst (.int 3)) (.cons (.cst (.int 1)) .nil)))) (.cons (.tup (.cons (.cst (.int 7)) (.cons (.cst (.int 4)) (.cons (.cst (.int 1)) .nil)))) (.cons (.tup (.cons (.cst (.int 1)) (.cons (.cst (.int 14)) (.cons (.cst (.int 1)) .nil)))) (.cons (.tup (.cons (.cst (.int 1)) (.cons (.cst (.int 4)) .nil))) .nil))))))) .nil)) [some (.ro (ns.map .int)), some (.loc 1), some x, some (st h m l3), x4, x5, x6] (mk s5 []) = .ok [.loc 1, .lst badStores] (mk s5 []) := rfl
      have e8 := is_letter_err (W := W) (n := n + 7) (S := mk s6 []) (v := .non) hw2.1 hw2.2.1
      exact xcallE (xcons (xcall e7 e6) rfl) e8
  · obtain ⟨s1, x2, x3, x4, x5, x6, rfl, rfl, t1⟩ := hI
    exact OkSs.ret <| Ok.pu Pu.cst ⟨trivial, trivial, _, frz_und rfl, rfl⟩
theorem plain (ns : List Int) (h : ns.length ≤ 63) : ∃ S', callF prog 100000 40 33 [.ro (ns.map .int)] [] = .ok (.bl true) S' := by
  obtain ⟨d, S', e, rfl⟩ := (plain0 (W := 100000) (n := 28) (by decide) ns h).ex
  exact ⟨S', e⟩
end K05
open PySem PySem.W PyProof.Rows
set_option maxRecDepth 100000 in
set_option maxHeartbeats 0 in
theorem PySem.Challenge.cw_seenagreed_k05_disks_roads_and_letters_holds : PySem.Challenge.rw_seenagreed_k05_disks_roads_and_letters.Holds := by
  w_on; o_law; k_head; (case hw => w_witness2)
  k_fill
  refine Sa.walk_law (n := 63) (k := Sa.kf 40) (x := "script") rfl (by decide) rfl ⟨rfl, by decide, by decide⟩ (fun w h Y => PySem.W.km_in_of Y) ?F
  intro w mg fa h Y XX KX G hmg
  refine Sa.law_glue (D := K05.dat) (law := 33) (name := "law") (W := 100000) (m := 39) ?hB KX G (PySem.W.km_tabs_of Y) ?hv hmg fun ns h _ => K05.plain ns h
  case hB => kernel_rfl
  case hv =>
    intro p hp
    simp only [K05.dat, List.mem_singleton] at hp
    subst hp
    obtain ⟨v, e, r⟩ := XX.2.val ("MOST_NUMBER", .int 1000000000000000000) (by first | exact List.mem_cons_self | simp)
    cases r
    exact ⟨_, e⟩
