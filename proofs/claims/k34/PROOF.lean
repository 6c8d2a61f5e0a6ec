import PyProof.Rows.All
import Wide.All
import OpenK.AllK
import Wide.FinOn
import HandS.ForMost
import HandS.Deep
import HandS.Style
import HandS.IsInst
import HandS.TupLe
import HandS.TupAny
import HandS.Flow
import HandS.NoneIn
import HandS.Wide
import HandS.Defaults
import HandS.SortInts
import HandS.TupMul
import HandS.Dict
import HandS.More
import HandS.Iter
import HandS.DictComp
import HandS.Words
import HandS.Ends
import HandS.Head0
import HandS.Head1
import HandS.Head2
import HandS.HeadEnd
import HandS.HeadHook1
import HandS.HeadHook2
import PySem.Challenge.RW_wirestowords_k34_whole_asks_of_a_host_by
set_option Elab.async false
set_option linter.all false
set_option maxRecDepth 100000
set_option maxHeartbeats 4000000
namespace PV
open PySem
inductive D where
  | non | bl (b : Bool) | int (i : Int) | str (x : Str)
  | tup (ds : List D) | lst (ds : List D)
  | dct (ks : List D) (vs : List D)
  | cel (n : Nat)
  | scr (ns : List Int)
deriving Inhabited

mutual
def D.toP : D → PyData
  | .non => .none
  | .bl b => .bool b
  | .int i => .int i
  | .str x => .str x
  | .tup ds => .tuple (D.toPs ds)
  | .lst ds => .list (D.toPs ds)
  | .dct _ _ => .dict []
  | .cel _ => .dict []
  | .scr _ => .dict []
def D.toPs : List D → List PyData
  | [] => []
  | d :: ds => d.toP :: D.toPs ds
end
mutual
/-- data of depth below n: None, bools, intL, short texts, tuples, lists -/
def okD : Nat → D → Bool
  | 0, _ => false
  | _ + 1, .non => true
  | _ + 1, .bl _ => true
  | _ + 1, .int _ => true
  | _ + 1, .str x => PyData.strOk x
  | n + 1, .tup ds => okDs n ds
  | n + 1, .lst ds => okDs n ds
  | _ + 1, .dct _ _ => false
  | _ + 1, .cel _ => false
  | _ + 1, .scr _ => false
def okDs : Nat → List D → Bool
  | _, [] => true
  | n, d :: ds => okD n d && okDs n ds
end
mutual
def eqD : D → D → Bool
  | .non, .non => true
  | .bl a, .bl b => a == b
  | .bl a, .int j => (if a then 1 else 0) == j
  | .int i, .bl b => i == (if b then 1 else 0)
  | .int i, .int j => i == j
  | .str x, .str y => x == y
  | .lst xs, .lst ys => eqDs xs ys
  | .tup xs, .tup ys => eqDs xs ys
  | _, _ => false
def eqDs : List D → List D → Bool
  | [], [] => true
  | x :: xs, y :: ys => eqD x y && eqDs xs ys
  | _, _ => false
end
mutual
/-- the same data, letter by letter -/
def sameD : D → D → Bool
  | .non, .non => true
  | .bl a, .bl b => a == b
  | .int a, .int b => a == b
  | .str a, .str b => decide (a = b)
  | .tup a, .tup b => sameDs a b
  | _, _ => false
def sameDs : List D → List D → Bool
  | [], [] => true
  | a :: as, b :: bs => sameD a b && sameDs as bs
  | _, _ => false
end
mutual
theorem sameD_eq : ∀ a b : D, sameD a b = true → a = b
  | .non, b, h => by cases b <;> first | rfl | simp [sameD] at h
  | .bl x, b, h => by cases b <;> simp [sameD] at h; rw [h]
  | .int x, b, h => by cases b <;> simp [sameD] at h; rw [h]
  | .str x, b, h => by cases b <;> simp [sameD] at h; rw [h]
  | .tup x, b, h => by
    cases b with
    | tup y => rw [sameDs_eq x y (by simpa [sameD] using h)]
    | _ => simp [sameD] at h
  | .lst x, b, h => by cases b <;> simp [sameD] at h
  | .dct _ _, b, h => by cases b <;> simp [sameD] at h
  | .cel _, b, h => by cases b <;> simp [sameD] at h
  | .scr _, b, h => by cases b <;> simp [sameD] at h
theorem sameDs_eq : ∀ a b : List D, sameDs a b = true → a = b
  | [], [], _ => rfl
  | [], _ :: _, h => by simp [sameDs] at h
  | _ :: _, [], h => by simp [sameDs] at h
  | x :: xs, y :: ys, h => by
    have h2 : sameD x y = true ∧ sameDs xs ys = true := by simpa [sameDs] using h
    rw [sameD_eq x y h2.1, sameDs_eq xs ys h2.2]
end
/-- what a mutable object holds -/
inductive O where
  | lst (ds : List D)
  | dct (ks vs : List D)
/-- the state: what the mutable objects hold -/
abbrev S := List O
abbrev M (α : Type) := S → Option (α × S)
def M.pure {α : Type} (a : α) : M α := fun s => some (a, s)
def M.bind {α β : Type} (m : M α) (f : α → M β) : M β := fun s => match m s with
  | some (a, s') => f a s'
  | none => none
def M.fail {α : Type} : M α := fun _ => none
def M.of {α : Type} (o : Option α) : M α := fun s => match o with
  | some a => some (a, s)
  | none => none
theorem M.bind_some {α β : Type} {m : M α} {f : α → M β} {s : S} {r : β × S} (h : M.bind m f s = some r) : ∃ a s1, m s = some (a, s1) ∧ f a s1 = some r := by
  unfold M.bind at h
  cases q : m s with
  | none => rw [q] at h; cases h
  | some p => rw [q] at h; exact ⟨p.1, p.2, rfl, h⟩
theorem M.of_some {α : Type} {o : Option α} {s s' : S} {r : α} (h : M.of o s = some (r, s')) : o = some r ∧ s = s' := by
  unfold M.of at h
  cases o with
  | none => cases h
  | some a => cases h; exact ⟨rfl, rfl⟩
theorem M.pure_some {α : Type} {a r : α} {s s' : S} (h : M.pure a s = some (r, s')) : a = r ∧ s = s' := by
  unfold M.pure at h
  cases h; exact ⟨rfl, rfl⟩
/-- truth -/
def tru : D → Option Bool
  | .non => some false
  | .bl b => some b
  | .int i => some (i != 0)
  | .str x => if x.length ≤ 1000000 then some (x.length != 0) else none
  | .tup ds => some (!ds.isEmpty)
  | .lst ds => some (!ds.isEmpty)
  | _ => none
inductive BOp where
  | add | sub | mul | fdiv | mod | pow | shl | shr | and | or | xor
deriving DecidableEq
inductive COp where
  | eq | ne | lt | le | gt | ge | is | isnot | inn | notin
deriving DecidableEq
def line : Nat := 16777216
def pdiv (i j : Int) : Int := if 0 < j then i / j else i.fdiv j
def pmod (i j : Int) : Int := if 0 < j then i % j else i.fmod j
def small64 (i : Int) : Bool := decide (-(2 ^ 64) < i ∧ i < 2 ^ 64)
def bop : BOp → D → D → Option D
  | .add, .int i, .int j => some (.int (i + j))
  | .add, .tup xs, .tup ys => if xs.length + ys.length ≤ line then some (.tup (xs ++ ys)) else none
  | .add, .lst xs, .lst ys => if xs.length + ys.length ≤ line then some (.lst (xs ++ ys)) else none
  | .sub, .int i, .int j => some (.int (i - j))
  | .mul, .int i, .int j => if small64 i || small64 j then some (.int (i * j)) else none
  | .fdiv, .int i, .int j => if j ≠ 0 ∧ j.natAbs < 1073741824 then some (.int (pdiv i j)) else none
  | .mod, .int i, .int j => if j ≠ 0 then some (.int (pmod i j)) else none
  | .pow, .int i, .int j => if 0 ≤ j ∧ j ≤ 1000000 ∧ i.natAbs < 2 ^ 64 then some (.int (i ^ j.toNat)) else none
  | .shl, .int i, .int j => if 0 ≤ j ∧ j ≤ 1000000 ∧ i.natAbs < 2 ^ 64 then some (.int (i * 2 ^ j.toNat)) else none
  | .shr, .int i, .int j => if 0 ≤ j then some (.int (i / 2 ^ j.toNat)) else none
  | .mul, .tup xs, .int k => if xs ≠ [] ∧ 2 ≤ k ∧ k ≤ 1000 ∧ xs.length ≤ 1000 then some (.tup (List.replicate k.toNat xs).flatten) else none
  | .mul, .lst xs, .int k => if k < 2 ^ 62 ∧ -(2 ^ 62) < k ∧ xs.length * k.toNat ≤ line then some (.lst (List.replicate k.toNat xs).flatten) else none
  | .and, .int i, .int j => some (.int (Builtin.bitAnd i j))
  | .or, .int i, .int j => some (.int (Builtin.bitOr i j))
  | .xor, .int i, .int j => some (.int (Builtin.bitXor i j))
  | _, _, _ => none
/-- a key of a dict: an int or a text -/
def isKey : D → Bool
  | .int _ => true
  | .str _ => true
  | _ => false
/-- the place of a key among keys, by value -/
def keyAt (k : D) : List D → Option Nat
  | [] => none
  | x :: xs => if eqD x k then some 0 else (keyAt k xs).map (· + 1)
def dget (ks vs : List D) (k : D) : Option D := match keyAt k ks with
  | some i => vs[i]?
  | none => none
def isNon : D → Bool
  | .non => true
  | _ => false
def cop : COp → D → D → Option Bool
  | .eq, x, y => if okD 60 x && okD 60 y then some (eqD x y) else none
  | .ne, x, y => if okD 60 x && okD 60 y then some (!eqD x y) else none
  | .lt, .int i, .int j => some (decide (i < j))
  | .le, .int i, .int j => some (decide (i ≤ j))
  | .gt, .int i, .int j => some (decide (j < i))
  | .ge, .int i, .int j => some (decide (j ≤ i))
  | .is, x, .non => some (isNon x)
  | .isnot, x, .non => some (!isNon x)
  | .is, .bl a, .bl b => some (decide (a = b))
  | .isnot, .bl a, .bl b => some (!decide (a = b))
  | .inn, x, .lst ys => if okD 60 x && okDs 59 ys then some (ys.any fun z => eqD z x) else none
  | .notin, x, .lst ys => if okD 60 x && okDs 59 ys then some (!ys.any fun z => eqD z x) else none
  | .inn, x, .tup ys => if okD 60 x && okDs 59 ys then some (ys.any fun z => eqD z x) else none
  | .notin, x, .tup ys => if okD 60 x && okDs 59 ys then some (!ys.any fun z => eqD z x) else none
  | .inn, x, .dct ks _ => if isKey x then some (keyAt x ks).isSome else none
  | .notin, x, .dct ks _ => if isKey x then some (!(keyAt x ks).isSome) else none
  | _, _, _ => none
/-- a subscript -/
def seqAt (xs : List D) (i : Int) : Option D :=
  if 0 ≤ i then (if i < 2 ^ 62 then xs[i.toNat]? else none) else if -(xs.length : Int) ≤ i then xs[(i + xs.length).toNat]? else none
def sub : D → D → Option D
  | .lst xs, .int i => seqAt xs i
  | .tup xs, .int i => seqAt xs i
  | .dct ks vs, k => if isKey k then dget ks vs k else none
  | _, _ => none
def cut (xs : List D) (lo hi : Option Int) : List D := (xs.drop (HT.sIx xs.length 0 lo)).take (HT.sIx xs.length xs.length hi - HT.sIx xs.length 0 lo)
def slc : D → Option Int → Option Int → Option D
  | .lst xs, lo, hi => some (.lst (cut xs lo hi))
  | .tup xs, lo, hi => some (.tup (cut xs lo hi))
  | _, _, _ => none
inductive Ty where
  | int | bool | str | tuple | list | dict
deriving DecidableEq
def isTy : Ty → D → Option Bool
  | _, .cel _ => none
  | _, .scr _ => none
  | .int, .int _ => some true
  | .int, .bl _ => some true
  | .bool, .bl _ => some true
  | .str, .str _ => some true
  | .tuple, .tup _ => some true
  | .list, .lst _ => some true
  | .dict, .dct _ _ => some true
  | _, _ => some false
inductive Bi where
  | len | abs | int | list | tuple | all | any | sum | max2 | min2 | sorted | dict
deriving DecidableEq
def intL : List D → Option (List Int)
  | [] => some []
  | .int i :: ds => (intL ds).map (i :: ·)
  | _ :: _ => none
def blL : List D → Option (List Bool)
  | [] => some []
  | .bl b :: ds => (blL ds).map (b :: ·)
  | _ :: _ => none
/-- a key's value, in its place or at the end -/
def dput (ks vs : List D) (k d : D) : List D × List D :=
  if (ks.any fun x => eqD x k) = true then (ks, List.zipWith (fun x v => if eqD x k = true then d else v) ks vs) else (ks ++ [k], vs ++ [d])
/-- the pairs one after the other -/
def dputs : List (D × D) → List D × List D → List D × List D
  | [], r => r
  | p :: ps, r => dputs ps (dput r.1 r.2 p.1 p.2)
/-- pairs, if they are such with keys -/
def prL : List D → Option (List (D × D))
  | [] => some []
  | .tup [k, v] :: ds => if isKey k then (prL ds).map ((k, v) :: ·) else none
  | _ :: _ => none
def bi : Bi → List D → Option D
  | .len, [.tup ds] => some (.int ds.length)
  | .len, [.lst ds] => some (.int ds.length)
  | .len, [.dct ks _] => some (.int ks.length)
  | .abs, [.int i] => some (.int (if i < 0 then -i else i))
  | .int, [.int i] => some (.int i)
  | .int, [.bl b] => some (.int (if b then 1 else 0))
  | .list, [.scr ns] => some (.lst (ns.map .int))
  | .list, [.tup ds] => some (.lst ds)
  | .list, [.lst ds] => some (.lst ds)
  | .tuple, [.tup ds] => some (.tup ds)
  | .tuple, [.lst ds] => some (.tup ds)
  | .all, [.lst ds] => (blL ds).map fun bs => .bl (bs.all id)
  | .any, [.lst ds] => (blL ds).map fun bs => .bl (bs.any id)
  | .sum, [.lst ds] => (intL ds).map fun ns => .int ns.sum
  | .max2, [.int i, .int j] => some (.int (if j > i then j else i))
  | .min2, [.int i, .int j] => some (.int (if j < i then j else i))
  | .dict, [.lst ds] => (prL ds).map fun ps => .dct (dputs ps ([], [])).1 (dputs ps ([], [])).2
  | .dict, [.dct ks vs] => some (.dct ks vs)
  | .sorted, [.lst ds] => (intL ds).map fun ns => .lst ((ns.mergeSort fun a b => decide (a ≤ b)).map .int)
  | _, _ => none
inductive Me where
  | get1 | get2 | pop
deriving DecidableEq
/-! ### the program form -/
mutual
inductive E where
  | int (i : Int) | bl (b : Bool) | non | str (x : Str)
  | var (i : Nat)
  | bor (i : Nat)
  | glob (x : Str) (d : D)
  | bin (op : BOp) (a b : E)
  | neg (a : E)
  | nott (a : E)
  | cmp (op : COp) (a b : E)
  | chain (op op' : COp) (a b c : E)
  | and2 (a b : E)
  | or2 (a b : E)
  | ifx (c a b : E)
  | tup (es : Es)
  | lst (es : Es)
  | idx (a i : E)
  | slice (a : E) (lo hi : Pt)
  | call (f : Nat) (es : Es)
  | blt (b : Bi) (es : Es)
  | isi (a : E) (t : Ty)
  | comp (own : List Nat) (g : Tg) (it : It) (ifs : Es) (elt : E)
  | dct (ps : Ps)
  | meth (m : Me) (a : E) (es : Es)
  | dcomp (own : List Nat) (g : Tg) (it : It) (ifs : Es) (k v : E)
  | rev (a : E)
  | lk (i : Nat) (a : E)
inductive Es where
  | nil
  | cons (e : E) (es : Es)
inductive Ps where
  | nil
  | cons (k v : E) (ps : Ps)
inductive Pt where
  | no
  | at (e : E)
inductive It where
  | seq (e : E)
  | rng1 (a : E)
  | rng2 (a b : E)
  | rng3 (a b c : E)
  | keys (e : E)
  | keysL (i : Nat)
inductive Tg where
  | name (i : Nat)
  | tup (ts : Tgs)
inductive Tgs where
  | nil
  | cons (t : Tg) (ts : Tgs)
end
inductive Slot where
  | no
  | val (d : D)
  | own (ds : List D)
  | ownd (ks vs : List D)
  | lockd (ks vs : List D)
def Slot.isOwn : Slot → Bool
  | .own _ => true
  | .ownd _ _ => true
  | .lockd _ _ => true
  | _ => false
abbrev Env := List Slot
def Env.get (ρ : Env) (i : Nat) : Option D := match ρ[i]? with
  | some (.val d) => some d
  | _ => none
def Env.bor (ρ : Env) (i : Nat) : Option D := match ρ[i]? with
  | some (.val d) => some d
  | some (.own ds) => some (.lst ds)
  | some (.ownd ks vs) => some (.dct ks vs)
  | some (.lockd ks vs) => some (.dct ks vs)
  | _ => none
mutual
/-- a target takes a value -/
def bind : Tg → D → Env → Option Env
  | .name i, d, ρ => some (ρ.set i (.val d))
  | .tup ts, .tup ds, ρ => binds ts ds ρ
  | .tup ts, .lst ds, ρ => binds ts ds ρ
  | .tup _, _, _ => none
def binds : Tgs → List D → Env → Option Env
  | .nil, [], ρ => some ρ
  | .cons t ts, d :: ds, ρ => (bind t d ρ).bind (binds ts ds)
  | _, _, _ => none
end
def consO : Option D → List D → List D
  | some y, r => y :: r
  | none, r => r
/-- a comprehension's walk -/
def mapMd (f : D → M (Option D)) : List D → M (List D)
  | [], s => some ([], s)
  | d :: ds, s => match f d s with
    | some (o, s1) => (match mapMd f ds s1 with
      | some (r, s2) => some (consO o r, s2)
      | none => none)
    | none => none
def rngD (lo : Int) (n : Nat) : List D := (List.range n).map fun i => .int (lo + (i : Nat))
def rngOk (lo hi : Int) : Bool := decide (-(2 ^ 61) ≤ lo) && decide (lo < 2 ^ 61) && decide (-(2 ^ 61) ≤ hi) && decide (hi < 2 ^ 61)
def wipeE (ρ : Env) : List Nat → Env
  | [] => ρ
  | v :: vs => (wipeE ρ vs).set v .no
def asPart : D → Option (Option Int)
  | .int i => some (some i)
  | _ => none
/-- x[y], x perhaps a mutable object -/
def subM (x y : D) : M D := match x with
  | .cel n => (match y with
    | .int k => fun s => match s[n]? with
      | some (.lst xs) => (match seqAt xs k with
        | some d => some (d, s)
        | none => none)
      | _ => none
    | _ => M.fail)
  | x => M.of (sub x y)
/-- a list without its k-th item -/
def popAt (xs : List D) (k : Int) : Option (D × List D) :=
  if 0 ≤ k ∧ k < xs.length ∧ k < 2 ^ 62 then (xs[k.toNat]?).map fun d => (d, xs.eraseIdx k.toNat) else none
/-- what a method asks of its object, before its arguments -/
def meK : Me → D → M Unit
  | .pop, .cel n => fun s => match s[n]? with
      | some (.lst _) => some ((), s)
      | _ => none
  | .pop, _ => M.fail
  | _, _ => M.pure ()
/-- a method's call -/
def meM : Me → D → List D → M D
  | .get1, .dct ks vs, [k] => if isKey k then M.pure ((dget ks vs k).getD .non) else M.fail
  | .get2, .dct ks vs, [k, d] => if isKey k then M.pure ((dget ks vs k).getD d) else M.fail
  | .pop, .cel n, [.int k] => fun s => match s[n]? with
      | some (.lst xs) => (match popAt xs k with
        | some (d, xs') => some (d, s.set n (.lst xs'))
        | none => none)
      | _ => none
  | _, _, _ => M.fail
/-- the walk of a range with a step -/
def rngC (lo hi st : Int) : Bool := decide (st ≠ 0) && (decide (st.natAbs < 1073741824) && (Builtin.Range.small lo hi st && decide (0 ≤ Builtin.Range.rangeSize lo hi st)))
def rngSt (lo st : Int) (n : Nat) : List D := (List.range n).map fun i => .int (lo + (i : Nat) * st)
section
variable (call : Nat → List D → M D)
mutual
/-- b: whether a list that is still being changed may be looked at -/
def ev : E → Bool → Env → M D
  | .int i, _, _ => M.pure (.int i)
  | .bl b, _, _ => M.pure (.bl b)
  | .non, _, _ => M.pure .non
  | .str x, _, _ => M.pure (.str x)
  | .var i, _, ρ => M.of (ρ.get i)
  | .bor i, b, ρ => if b then M.of (ρ.bor i) else M.fail
  | .glob _ d, _, _ => M.pure d
  | .bin op a b, _, ρ => M.bind (ev a true ρ) fun x => M.bind (ev b true ρ) fun y => M.of (bop op x y)
  | .neg a, _, ρ => M.bind (ev a false ρ) fun x => match x with
    | .int i => M.pure (.int (-i))
    | _ => M.fail
  | .nott a, _, ρ => M.bind (ev a true ρ) fun x => M.bind (M.of (tru x)) fun b => M.pure (.bl (!b))
  | .cmp op a b, _, ρ => M.bind (ev a true ρ) fun x => M.bind (ev b true ρ) fun y => M.bind (M.of (cop op x y)) fun r => M.pure (.bl r)
  | .chain op op' a b c, _, ρ => M.bind (ev a true ρ) fun x => M.bind (ev b true ρ) fun y => M.bind (M.of (cop op x y)) fun r =>
      if r then M.bind (ev c true ρ) fun z => M.bind (M.of (cop op' y z)) fun r' => M.pure (.bl r') else M.pure (.bl false)
  | .and2 a b, _, ρ => M.bind (ev a false ρ) fun x => M.bind (M.of (tru x)) fun t => if t then ev b false ρ else M.pure x
  | .or2 a b, _, ρ => M.bind (ev a false ρ) fun x => M.bind (M.of (tru x)) fun t => if t then M.pure x else ev b false ρ
  | .ifx c a b, _, ρ => M.bind (ev c true ρ) fun x => M.bind (M.of (tru x)) fun t => if t then ev a false ρ else ev b false ρ
  | .tup es, _, ρ => M.bind (evs es false ρ) fun ds => if ds.length ≤ line then M.pure (.tup ds) else M.fail
  | .lst es, _, ρ => M.bind (evs es false ρ) fun ds => if ds.length ≤ line then M.pure (.lst ds) else M.fail
  | .idx a i, _, ρ => M.bind (ev a true ρ) fun x => M.bind (ev i false ρ) fun y => subM x y
  | .slice a lo hi, _, ρ => M.bind (ev a true ρ) fun x => M.bind (evP lo ρ) fun l => M.bind (evP hi ρ) fun h => M.of (slc x l h)
  | .call f es, _, ρ => M.bind (evs es false ρ) fun ds => call f ds
  | .blt b es, _, ρ => M.bind (evs es true ρ) fun ds => M.of (bi b ds)
  | .isi a t, _, ρ => M.bind (ev a false ρ) fun x => M.bind (M.of (isTy t x)) fun r => M.pure (.bl r)
  | .comp own g it ifs elt, _, ρ => M.bind (evI it true ρ) fun items => M.bind (mapMd (fun d => M.bind (M.of (bind g d (wipeE ρ own))) fun ρ' =>
      M.bind (tests ifs ρ') fun t => if t then M.bind (ev elt false ρ') fun y => M.pure (some y) else M.pure none) items) fun r => if r.length ≤ line then M.pure (.lst r) else M.fail
  | .dct ps, _, ρ => M.bind (evPs ps ρ) fun kvs => if kvs.length ≤ 15 then M.pure (.dct (dputs kvs ([], [])).1 (dputs kvs ([], [])).2) else M.fail
  | .meth m a es, _, ρ => M.bind (ev a true ρ) fun x => M.bind (meK m x) fun _ => M.bind (evs es false ρ) fun ds => meM m x ds
  | .dcomp own g it ifs k v, _, ρ => M.bind (evI it true ρ) fun items => M.bind (mapMd (fun d => M.bind (M.of (bind g d (wipeE ρ own))) fun ρ' =>
      M.bind (tests ifs ρ') fun t => if t then M.bind (ev k false ρ') fun x => M.bind (ev v false ρ') fun y => if isKey x then M.pure (some (.tup [x, y])) else M.fail else M.pure none) items) fun r =>
        M.bind (M.of (prL r)) fun ps => if ps.length ≤ line then M.pure (.dct (dputs ps ([], [])).1 (dputs ps ([], [])).2) else M.fail
  | .rev a, _, ρ => M.bind (ev a true ρ) fun x => match x with
    | .lst ds => M.pure (.lst ds.reverse)
    | _ => M.fail
  | .lk i a, _, ρ => match ρ[i]? with
    | some (.ownd ks vs) => ev a false (ρ.set i (.lockd ks vs))
    | _ => M.fail
def evPs : Ps → Env → M (List (D × D))
  | .nil, _ => M.pure []
  | .cons k v ps, ρ => M.bind (ev k false ρ) fun x => M.bind (ev v false ρ) fun y => if isKey x then M.bind (evPs ps ρ) fun r => M.pure ((x, y) :: r) else M.fail
def evs : Es → Bool → Env → M (List D)
  | .nil, _, _ => M.pure []
  | .cons e es, b, ρ => M.bind (ev e b ρ) fun d => M.bind (evs es b ρ) fun ds => M.pure (d :: ds)
def evP : Pt → Env → M (Option Int)
  | .no, _ => M.pure none
  | .at e, ρ => M.bind (ev e false ρ) fun d => M.of (asPart d)
def tests : Es → Env → M Bool
  | .nil, _ => M.pure true
  | .cons e es, ρ => M.bind (ev e true ρ) fun x => M.bind (M.of (tru x)) fun t => if t then tests es ρ else M.pure false
def evI : It → Bool → Env → M (List D)
  | .seq e, b, ρ => M.bind (ev e b ρ) fun x => match x with
    | .lst ds => M.pure ds
    | .tup ds => M.pure ds
    | _ => M.fail
  | .keys e, _, ρ => M.bind (ev e false ρ) fun x => match x with
    | .dct ks _ => M.pure ks
    | _ => M.fail
  | .keysL i, b, ρ => if b then (match ρ[i]? with
    | some (.lockd ks _) => M.pure ks
    | _ => M.fail) else M.fail
  | .rng1 a, _, ρ => M.bind (ev a false ρ) fun x => match x with
    | .int n => if rngOk 0 n then M.pure (rngD 0 n.toNat) else M.fail
    | _ => M.fail
  | .rng2 a b, _, ρ => M.bind (ev a false ρ) fun x => M.bind (ev b false ρ) fun y => match x, y with
    | .int lo, .int hi => if rngOk lo hi then M.pure (rngD lo (hi - lo).toNat) else M.fail
    | _, _ => M.fail
  | .rng3 a b c, _, ρ => M.bind (ev a false ρ) fun x => M.bind (ev b false ρ) fun y => M.bind (ev c false ρ) fun z => match x, y, z with
    | .int lo, .int hi, .int st => if rngC lo hi st then M.pure (rngSt lo st (Builtin.Range.rangeSize lo hi st).toNat) else M.fail
    | _, _, _ => M.fail
end
end
end PV
set_option Elab.async false
set_option linter.all false
set_option autoImplicit false
set_option maxRecDepth 100000
set_option maxHeartbeats 4000000
namespace PV
open PySem PySem.Spec L2
open PyProof.Rows hiding St
def kD : Key → D
  | .inl i => .int i
  | .inr x => .str x
mutual
inductive Rep (K : PySem.W.Frag) (G : Hp) (cs : List Addr) : D → V → Prop
  | non : Rep K G cs .non .non
  | bl (b : Bool) : Rep K G cs (.bl b) (.bl b)
  | int (i : Int) : Rep K G cs (.int i) (.int i)
  | str (x : Str) : Rep K G cs (.str x) (.str x)
  | lst {a : Addr} {xs : List V} {ds : List D} : G a = some (.lst xs) → RepAll K G cs ds xs → Rep K G cs (.lst ds) (.ref a)
  | tup {a : Addr} {xs : List V} {ds : List D} : SqT K G a xs → RepAll K G cs ds xs → Rep K G cs (.tup ds) (.ref a)
  | dct {a : Addr} {o : Obj} {kvs : List (Key × V)} {vs : List D} : G a = some (.frz o (.dK kvs)) → RepAll K G cs vs (kvs.map Prod.snd) → Rep K G cs (.dct (kvs.map fun p => kD p.1) vs) (.ref a)
  | cel {n : Nat} {a : Addr} : cs[n]? = some a → Rep K G cs (.cel n) (.ref a)
  | scr {a : Addr} {ns : List Int} : SqL K G a (ns.map V.int) → Rep K G cs (.scr ns) (.ref a)
inductive RepAll (K : PySem.W.Frag) (G : Hp) (cs : List Addr) : List D → List V → Prop
  | nil : RepAll K G cs [] []
  | cons {d : D} {ds : List D} {v : V} {vs : List V} : Rep K G cs d v → RepAll K G cs ds vs → RepAll K G cs (d :: ds) (v :: vs)
end
section
variable {K : PySem.W.Frag} {G G' H H' : Hp} {cs cs' : List Addr}
theorem sqT_same {a : Addr} {xs : List V} (e : Same G G') (h : SqT K G a xs) : SqT K G' a xs := by
  rcases h with (h | ⟨o, h⟩) | h
  · exact .inl (.inl (e _ _ h))
  · exact .inl (.inr ⟨o, e _ _ h⟩)
  · exact .inr h
theorem sqL_same {a : Addr} {xs : List V} (e : Same G G') (h : SqL K G a xs) : SqL K G' a xs := by
  rcases h with (h | ⟨o, h⟩) | h
  · exact .inl (.inl (e _ _ h))
  · exact .inl (.inr ⟨o, e _ _ h⟩)
  · exact .inr h
theorem pre_get {n : Nat} {a : Addr} (p : cs <+: cs') (h : cs[n]? = some a) : cs'[n]? = some a := by
  obtain ⟨t, rfl⟩ := p
  have hn : n < cs.length := (List.getElem?_eq_some_iff.mp h).1
  rw [List.getElem?_append_left hn]; exact h
mutual
theorem Rep.mono (e : Same G G') (p : cs <+: cs') : ∀ {d : D} {v : V}, Rep K G cs d v → Rep K G' cs' d v
  | _, _, .non => .non
  | _, _, .bl b => .bl b
  | _, _, .int i => .int i
  | _, _, .str x => .str x
  | _, _, .lst h r => .lst (e _ _ h) (RepAll.mono e p r)
  | _, _, .scr h => .scr (sqL_same e h)
  | _, _, .tup h r => .tup (sqT_same e h) (RepAll.mono e p r)
  | _, _, .dct h r => .dct (e _ _ h) (RepAll.mono e p r)
  | _, _, .cel h => .cel (pre_get p h)
theorem RepAll.mono (e : Same G G') (p : cs <+: cs') : ∀ {ds : List D} {vs : List V}, RepAll K G cs ds vs → RepAll K G' cs' ds vs
  | _, _, .nil => .nil
  | _, _, .cons h r => .cons (Rep.mono e p h) (RepAll.mono e p r)
end
theorem RepAll.length : ∀ {ds : List D} {vs : List V}, RepAll K G cs ds vs → ds.length = vs.length
  | _, _, .nil => rfl
  | _, _, .cons _ r => by rw [List.length_cons, List.length_cons, RepAll.length r]
theorem RepAll.get : ∀ {ds : List D} {vs : List V} {i : Nat} {d : D}, RepAll K G cs ds vs → ds[i]? = some d → ∃ v, vs[i]? = some v ∧ Rep K G cs d v
  | _, _, _, _, .nil, e => by simp at e
  | _, _, 0, _, .cons h _, e => by simp at e; subst e; exact ⟨_, rfl, h⟩
  | _, _, i + 1, d, .cons _ r, e => by
    obtain ⟨v, h1, h2⟩ := RepAll.get (i := i) (d := d) r (by simpa using e)
    exact ⟨v, by simpa using h1, h2⟩
theorem RepAll.append : ∀ {ds es : List D} {vs us : List V}, RepAll K G cs ds vs → RepAll K G cs es us → RepAll K G cs (ds ++ es) (vs ++ us)
  | _, _, _, _, .nil, s => s
  | _, _, _, _, .cons h r, s => .cons h (RepAll.append r s)
theorem RepAll.take : ∀ {ds : List D} {vs : List V} (n : Nat), RepAll K G cs ds vs → RepAll K G cs (ds.take n) (vs.take n)
  | _, _, 0, _ => .nil
  | _, _, _ + 1, .nil => .nil
  | _, _, n + 1, .cons h r => .cons h (RepAll.take n r)
theorem RepAll.drop : ∀ {ds : List D} {vs : List V} (n : Nat), RepAll K G cs ds vs → RepAll K G cs (ds.drop n) (vs.drop n)
  | _, _, 0, r => r
  | _, _, _ + 1, .nil => .nil
  | _, _, n + 1, .cons _ r => RepAll.drop n r
theorem RepAll.set {d : D} {v : V} (h : Rep K G cs d v) : ∀ {ds : List D} {vs : List V} (i : Nat), RepAll K G cs ds vs → RepAll K G cs (ds.set i d) (vs.set i v)
  | _, _, _, .nil => .nil
  | _, _, 0, .cons _ r => .cons h r
  | _, _, i + 1, .cons q r => .cons q (RepAll.set h i r)

/-- a mutable object's contents -/
inductive RepO (K : PySem.W.Frag) (G : Hp) (cs : List Addr) : O → HO → Prop
  | lst {ds : List D} {xs : List V} : RepAll K G cs ds xs → RepO K G cs (.lst ds) (.lst xs)
  | dct {kvs : List (Key × V)} {vs : List D} : RepAll K G cs vs (kvs.map Prod.snd) → RepO K G cs (.dct (kvs.map fun p => kD p.1) vs) (.dK kvs)
theorem RepO.mono (e : Same G G') (p : cs <+: cs') {o : O} {ho : HO} (h : RepO K G cs o ho) : RepO K G' cs' o ho := by
  cases h with
  | lst r => exact .lst (r.mono e p)
  | dct r => exact .dct (r.mono e p)
theorem RepO.l {ds : List D} {ho : HO} (h : RepO K G cs (.lst ds) ho) : ∃ xs, ho = .lst xs ∧ RepAll K G cs ds xs := by
  cases h with
  | lst r => exact ⟨_, rfl, r⟩
theorem RepO.d {ks vs : List D} {ho : HO} (h : RepO K G cs (.dct ks vs) ho) : ∃ kvs, ho = .dK kvs ∧ ks = kvs.map (fun p => kD p.1) ∧ RepAll K G cs vs (kvs.map Prod.snd) := by
  cases h with
  | dct r => exact ⟨_, rfl, rfl, r⟩
/-! ### the state -/
/-- G: what is fixed for ever; H: all that is tracked; cs: the mutable objects; s: what they hold -/
structure StOk (K : PySem.W.Frag) (G H : Hp) (cs : List Addr) (s : S) : Prop where
  sub : Same G H
  len : cs.length = s.length
  nd : cs.Nodup
  cell : ∀ (n : Nat) (a : Addr) (o : O), cs[n]? = some a → s[n]? = some o → G a = none ∧ ∃ ho, H a = some ho ∧ RepO K G cs o ho
/-- from one moment to a later one -/
structure Go (G H : Hp) (cs : List Addr) (G' H' : Hp) (cs' : List Addr) : Prop where
  g : Same G G'
  c : cs <+: cs'
  keep : ∀ a o, a ∉ cs → H a = some o → H' a = some o
  newG : ∀ a o, G' a = some o → G a = some o ∨ H a = none
  newC : ∀ a, a ∈ cs' → a ∈ cs ∨ H a = none
theorem Go.refl : Go G H cs G H cs := ⟨Same.refl _, List.prefix_refl _, fun _ _ _ h => h, fun _ _ h => .inl h, fun _ h => .inl h⟩
theorem StOk.notG {s : S} (ok : StOk K G H cs s) {a : Addr} (h : a ∈ cs) : G a = none := by
  obtain ⟨n, hn, e⟩ := List.getElem_of_mem h
  have e1 : cs[n]? = some a := by rw [List.getElem?_eq_getElem hn, e]
  have hs : n < s.length := by rw [← ok.len]; exact hn
  exact (ok.cell n a _ e1 (List.getElem?_eq_getElem hs)).1
theorem StOk.inH {s : S} (ok : StOk K G H cs s) {a : Addr} (h : a ∈ cs) : ∃ ho, H a = some ho := by
  obtain ⟨n, hn, e⟩ := List.getElem_of_mem h
  have e1 : cs[n]? = some a := by rw [List.getElem?_eq_getElem hn, e]
  have hs : n < s.length := by rw [← ok.len]; exact hn
  obtain ⟨_, xs, h, _⟩ := ok.cell n a _ e1 (List.getElem?_eq_getElem hs)
  exact ⟨xs, h⟩
theorem Go.trans {G2 H2 : Hp} {c2 : List Addr} {s s' : S} (ok' : StOk K G' H' cs' s') (ok : StOk K G H cs s) (x : Go G H cs G' H' cs') (y : Go G' H' cs' G2 H2 c2) : Go G H cs G2 H2 c2 where
  g := x.g.trans y.g
  c := x.c.trans y.c
  keep := fun a o hn h => y.keep a o (fun hm => by
    rcases x.newC a hm with z | z
    · exact hn z
    · rw [z] at h; cases h) (x.keep a o hn h)
  newG := fun a o h => by
    rcases y.newG a o h with z | z
    · exact x.newG a o z
    · right
      by_cases hc : a ∈ cs
      · have hc' : a ∈ cs' := x.c.subset hc
        obtain ⟨xs, e⟩ := ok'.inH hc'
        rw [z] at e; cases e
      · cases q : H a with
        | none => rfl
        | some u => rw [x.keep a u hc q] at z; cases z
  newC := fun a h => by
    rcases y.newC a h with z | z
    · exact x.newC a z
    · by_cases hc : a ∈ cs
      · exact .inl hc
      · right
        cases q : H a with
        | none => rfl
        | some u => rw [x.keep a u hc q] at z; cases z
/-- a new fixed object -/
def addG (G : Hp) (p : Addr) (o : HO) : Hp := upd G p o
theorem same_upd {p : Addr} {o : HO} (h : G p = none) : Same G (upd G p o) := fun b x e => by
  rw [upd_ne (ne_of_none e h)]; exact e
theorem go_new {s : S} {p : Addr} {o : HO} (ok : StOk K G H cs s) (hp : H p = none) : Go G H cs (upd G p o) (upd H p o) cs ∧ StOk K (upd G p o) (upd H p o) cs s := by
  have hg : G p = none := ok.sub.free hp
  have nc : ∀ a, a ∈ cs → a ≠ p := fun a ha e => by
    obtain ⟨xs, q⟩ := ok.inH ha
    rw [e, hp] at q; cases q
  refine ⟨⟨same_upd hg, List.prefix_refl _, fun a x _ h => ?_, fun a x h => ?_, fun a h => .inl h⟩, ⟨fun a x h => ?_, ok.len, ok.nd, fun n a ds h1 h2 => ?_⟩⟩
  · rw [upd_ne (ne_of_none h hp)]; exact h
  · by_cases e : a = p
    · right; rw [e]; exact hp
    · rw [upd_ne e] at h; exact .inl h
  · by_cases e : a = p
    · subst e; rw [upd_same] at h ⊢; exact h
    · rw [upd_ne e] at h ⊢; exact ok.sub a x h
  · obtain ⟨z, xs, h3, h4⟩ := ok.cell n a ds h1 h2
    have ne := nc a (List.mem_of_getElem? h1)
    exact ⟨by rw [upd_ne ne]; exact z, xs, by rw [upd_ne ne]; exact h3, h4.mono (same_upd hg) (List.prefix_refl _)⟩

/-! ### slots -/
def SlotOk (K : PySem.W.Frag) (G H : Hp) (cs : List Addr) : Slot → Option V → Prop
  | .no, _ => True
  | .val d, ov => ∃ v, ov = some v ∧ Rep K G cs d v
  | .own ds, ov => ∃ a xs, ov = some (.ref a) ∧ H a = some (.lst xs) ∧ G a = none ∧ a ∉ cs ∧ RepAll K G cs ds xs
  | .ownd ks vs, ov => ∃ a kvs, ov = some (.ref a) ∧ H a = some (.dK kvs) ∧ G a = none ∧ a ∉ cs ∧ ks = kvs.map (fun p => kD p.1) ∧ RepAll K G cs vs (kvs.map Prod.snd)
  | .lockd ks vs, ov => ∃ a o kvs, ov = some (.ref a) ∧ H a = some (.frz o (.dK kvs)) ∧ G a = none ∧ a ∉ cs ∧ ks = kvs.map (fun p => kD p.1) ∧ RepAll K G cs vs (kvs.map Prod.snd)
structure EnvOk (K : PySem.W.Frag) (G H : Hp) (cs : List Addr) (ρ : Env) (σ : St) : Prop where
  len : ρ.length = σ.length
  at_ : ∀ (i : Nat) (sl : Slot) (ov : Option V), ρ[i]? = some sl → σ[i]? = some ov → SlotOk K G H cs sl ov
  ap : ∀ (i j : Nat) (si sj : Slot) (v : Option V), i ≠ j → ρ[i]? = some si → ρ[j]? = some sj → si.isOwn = true → sj.isOwn = true → σ[i]? = some v → σ[j]? ≠ some v
theorem Go.own (x : Go G H cs G' H' cs') {a : Addr} {o : HO} (h1 : H a = some o) (h2 : G a = none) (h3 : a ∉ cs) : H' a = some o ∧ G' a = none ∧ a ∉ cs' := by
  refine ⟨x.keep a _ h3 h1, ?_, fun hm => ?_⟩
  · cases q : G' a with
    | none => rfl
    | some o =>
      rcases x.newG a o q with z | z
      · rw [h2] at z; cases z
      · rw [h1] at z; cases z
  · rcases x.newC a hm with z | z
    · exact h3 z
    · rw [h1] at z; cases z
theorem SlotOk.go {s s' : S} (ok : StOk K G H cs s) (x : Go G H cs G' H' cs') {sl : Slot} {ov : Option V} (h : SlotOk K G H cs sl ov) : SlotOk K G' H' cs' sl ov := by
  cases sl with
  | no => trivial
  | val d => obtain ⟨v, e, r⟩ := h; exact ⟨v, e, r.mono x.g x.c⟩
  | own ds =>
    obtain ⟨a, xs, e, h1, h2, h3, r⟩ := h
    obtain ⟨k1, k2, k3⟩ := x.own h1 h2 h3
    exact ⟨a, xs, e, k1, k2, k3, r.mono x.g x.c⟩
  | ownd ks vs =>
    obtain ⟨a, kvs, e, h1, h2, h3, ek, r⟩ := h
    obtain ⟨k1, k2, k3⟩ := x.own h1 h2 h3
    exact ⟨a, kvs, e, k1, k2, k3, ek, r.mono x.g x.c⟩
  | lockd ks vs =>
    obtain ⟨a, o, kvs, e, h1, h2, h3, ek, r⟩ := h
    obtain ⟨k1, k2, k3⟩ := x.own h1 h2 h3
    exact ⟨a, o, kvs, e, k1, k2, k3, ek, r.mono x.g x.c⟩
theorem EnvOk.go {s : S} {ρ : Env} {σ : St} (ok : StOk K G H cs s) (x : Go G H cs G' H' cs') (h : EnvOk K G H cs ρ σ) : EnvOk K G' H' cs' ρ σ :=
  ⟨h.len, fun i sl ov h1 h2 => (h.at_ i sl ov h1 h2).go (s' := s) ok x, h.ap⟩
theorem EnvOk.val {ρ : Env} {σ : St} (h : EnvOk K G H cs ρ σ) {i : Nat} {d : D} (e : ρ.get i = some d) : ∃ v, σ[i]? = some (some v) ∧ Rep K G cs d v := by
  unfold Env.get at e
  cases q : ρ[i]? with
  | none => rw [q] at e; cases e
  | some sl =>
    rw [q] at e
    cases sl with
    | val d' =>
      cases e
      have hi : i < σ.length := by rw [← h.len]; exact (List.getElem?_eq_some_iff.mp q).1
      obtain ⟨v, e1, r⟩ := h.at_ i _ _ q (List.getElem?_eq_getElem hi)
      exact ⟨v, by rw [List.getElem?_eq_getElem hi, e1], r⟩
    | _ => cases e
/-- data that may be looked at: fixed, or a list that is still being changed -/
def RepB (K : PySem.W.Frag) (G H : Hp) (cs : List Addr) (d : D) (v : V) : Prop :=
  Rep K G cs d v ∨ (∃ a xs ds, d = .lst ds ∧ v = .ref a ∧ H a = some (.lst xs) ∧ a ∉ cs ∧ RepAll K G cs ds xs) ∨
    ∃ a kvs vs, d = .dct (kvs.map fun p => kD p.1) vs ∧ v = .ref a ∧ Rd H a (.dK kvs) ∧ a ∉ cs ∧ RepAll K G cs vs (kvs.map Prod.snd)
theorem EnvOk.bor {ρ : Env} {σ : St} (h : EnvOk K G H cs ρ σ) {i : Nat} {d : D} (e : ρ.bor i = some d) : ∃ v, σ[i]? = some (some v) ∧ RepB K G H cs d v := by
  unfold Env.bor at e
  cases q : ρ[i]? with
  | none => rw [q] at e; cases e
  | some sl =>
    rw [q] at e
    have hi : i < σ.length := by rw [← h.len]; exact (List.getElem?_eq_some_iff.mp q).1
    cases sl with
    | val d' =>
      cases e
      obtain ⟨v, e1, r⟩ := h.at_ i _ _ q (List.getElem?_eq_getElem hi)
      exact ⟨v, by rw [List.getElem?_eq_getElem hi, e1], .inl r⟩
    | own ds =>
      cases e
      obtain ⟨a, xs, e1, h1, _, nc, r⟩ := h.at_ i _ _ q (List.getElem?_eq_getElem hi)
      exact ⟨_, by rw [List.getElem?_eq_getElem hi, e1], .inr (.inl ⟨a, xs, ds, rfl, rfl, h1, nc, r⟩)⟩
    | ownd ks vs =>
      cases e
      obtain ⟨a, kvs, e1, h1, _, nc, rfl, r⟩ := h.at_ i _ _ q (List.getElem?_eq_getElem hi)
      exact ⟨_, by rw [List.getElem?_eq_getElem hi, e1], .inr (.inr ⟨a, kvs, vs, rfl, rfl, .inl h1, nc, r⟩)⟩
    | lockd ks vs =>
      cases e
      obtain ⟨a, o, kvs, e1, h1, _, nc, rfl, r⟩ := h.at_ i _ _ q (List.getElem?_eq_getElem hi)
      exact ⟨_, by rw [List.getElem?_eq_getElem hi, e1], .inr (.inr ⟨a, kvs, vs, rfl, rfl, .inr ⟨o, h1⟩, nc, r⟩)⟩
    | no => cases e
/-- what a list is, by its data -/
theorem RepB.lst {ds : List D} {v : V} {s : S} (ok : StOk K G H cs s) (h : RepB K G H cs (.lst ds) v) : ∃ a xs, v = .ref a ∧ H a = some (.lst xs) ∧ RepAll K G cs ds xs := by
  rcases h with h | ⟨a, xs, ds', e, rfl, h1, nc, r⟩ | ⟨a, kvs, vs, e, rfl, h1, nc, r⟩
  · cases h with
    | lst h r => exact ⟨_, _, rfl, ok.sub _ _ h, r⟩
  · cases e
    exact ⟨a, xs, rfl, h1, r⟩
  · cases e
theorem RepB.tup {ds : List D} {v : V} {s : S} (ok : StOk K G H cs s) (h : RepB K G H cs (.tup ds) v) : ∃ a xs, v = .ref a ∧ SqT K H a xs ∧ RepAll K G cs ds xs := by
  rcases h with h | ⟨a, xs, ds', e, rfl, h1, nc, r⟩ | ⟨a, kvs, vs, e, rfl, h1, nc, r⟩
  · cases h with
    | tup h r => exact ⟨_, _, rfl, sqT_same ok.sub h, r⟩
  · cases e
  · cases e
theorem RepB.dct {ks vs : List D} {v : V} {s : S} (ok : StOk K G H cs s) (h : RepB K G H cs (.dct ks vs) v) : ∃ a kvs, v = .ref a ∧ Rd H a (.dK kvs) ∧ ks = kvs.map (fun p => kD p.1) ∧ RepAll K G cs vs (kvs.map Prod.snd) := by
  rcases h with h | ⟨a, xs, ds', e, rfl, h1, nc, r⟩ | ⟨a, kvs, vs', e, rfl, h1, nc, r⟩
  · cases h with
    | dct h r => exact ⟨_, _, rfl, .inr ⟨_, ok.sub _ _ h⟩, rfl, r⟩
  · cases e
  · cases e
    exact ⟨a, kvs, rfl, h1, rfl, r⟩
theorem RepB.proper {d : D} {v : V} (h : RepB K G H cs d v) (n : ∀ ds, d ≠ .lst ds) (m : ∀ ks vs, d ≠ .dct ks vs) : Rep K G cs d v := by
  rcases h with h | ⟨a, xs, ds, e, _⟩ | ⟨a, kvs, vs, e, _⟩
  · exact h
  · exact absurd e (n ds)
  · exact absurd e (m _ vs)
theorem RepB.go {d : D} {v : V} (x : Go G H cs G' H' cs') (h : RepB K G H cs d v) : RepB K G' H' cs' d v := by
  rcases h with h | ⟨a, xs, ds, e, rfl, h1, nc, r⟩ | ⟨a, kvs, vs, e, rfl, h1, nc, r⟩
  · exact .inl (h.mono x.g x.c)
  · refine .inr (.inl ⟨a, xs, ds, e, rfl, x.keep a _ nc h1, fun hm => ?_, r.mono x.g x.c⟩)
    rcases x.newC a hm with z | z
    · exact nc z
    · rw [h1] at z; cases z
  · rcases h1 with h1 | ⟨o, h1⟩
    · refine .inr (.inr ⟨a, kvs, vs, e, rfl, .inl (x.keep a _ nc h1), fun hm => ?_, r.mono x.g x.c⟩)
      rcases x.newC a hm with z | z
      · exact nc z
      · rw [h1] at z; cases z
    · refine .inr (.inr ⟨a, kvs, vs, e, rfl, .inr ⟨o, x.keep a _ nc h1⟩, fun hm => ?_, r.mono x.g x.c⟩)
      rcases x.newC a hm with z | z
      · exact nc z
      · rw [h1] at z; cases z
end
end PV
set_option Elab.async false
set_option linter.all false
set_option autoImplicit false
set_option maxRecDepth 100000
set_option maxHeartbeats 4000000
namespace PV
open PySem PySem.Spec L2
open PyProof.Rows hiding St
section
variable {K : PySem.W.Frag} {G G' H H' : Hp} {cs cs' : List Addr} {s s' : S}
theorem line_eq : line = sizeLine := by rw [sizeLine_eq]; rfl
/-! ### data as the library's data -/
mutual
theorem rep_dp (ok : StOk K G H cs s) : ∀ (n : Nat) (d : D) (v : V), okD n d = true → Rep K G cs d v → Dp K H v d.toP
  | 0, d, _, h, _ => by unfold okD at h; cases h
  | n + 1, .non, _, _, r => by cases r; exact .non
  | n + 1, .bl b, _, _, r => by cases r; exact .bl b
  | n + 1, .int i, _, _, r => by cases r; exact .int i
  | n + 1, .str x, _, _, r => by cases r; exact .str x
  | n + 1, .tup ds, _, h, r => by
    cases r with
    | tup hs ra => exact .tup (sqT_same ok.sub hs) (rep_dps ok n ds _ (by simpa [okD] using h) ra)
  | n + 1, .lst ds, _, h, r => by
    cases r with
    | lst hs ra => exact .lst (.inl (.inl (ok.sub _ _ hs))) (rep_dps ok n ds _ (by simpa [okD] using h) ra)
  | n + 1, .dct _ _, _, h, _ => by simp [okD] at h
  | n + 1, .cel _, _, h, _ => by simp [okD] at h
  | n + 1, .scr _, _, h, _ => by simp [okD] at h
theorem rep_dps (ok : StOk K G H cs s) : ∀ (n : Nat) (ds : List D) (vs : List V), okDs n ds = true → RepAll K G cs ds vs → DpAll K H vs (D.toPs ds)
  | _, [], _, _, r => by cases r; exact .nil
  | n, d :: ds, _, h, r => by
    cases r with
    | cons r1 r2 =>
      have h2 : okD n d = true ∧ okDs n ds = true := by simpa [okDs] using h
      exact .cons (rep_dp ok n d _ h2.1 r1) (rep_dps ok n ds _ h2.2 r2)
end
theorem repB_dp (ok : StOk K G H cs s) {n : Nat} {d : D} {v : V} (h : okD (n + 1) d = true) (r : RepB K G H cs d v) : Dp K H v d.toP := by
  rcases r with r | ⟨a, xs, ds, rfl, rfl, h1, _, ra⟩ | ⟨a, kvs, vs, rfl, _⟩
  · exact rep_dp ok _ d v h r
  · exact .lst (.inl (.inl h1)) (rep_dps ok n ds _ (by simpa [okD] using h) ra)
  · simp [okD] at h
mutual
theorem okD_lay : ∀ (n : Nat) (d : D), okD n d = true → d.toP.canLay0 = true ∧ d.toP.depth ≤ n
  | 0, d, h => by unfold okD at h; cases h
  | n + 1, .non, _ => ⟨rfl, by simp [D.toP, PyData.depth]⟩
  | n + 1, .bl b, _ => ⟨rfl, by simp [D.toP, PyData.depth]⟩
  | n + 1, .int i, _ => ⟨rfl, by simp [D.toP, PyData.depth]⟩
  | n + 1, .str x, h => ⟨by simpa [okD, D.toP, PyData.canLay0] using h, by simp [D.toP, PyData.depth]⟩
  | n + 1, .tup ds, h => by
    obtain ⟨h1, h2⟩ := okDs_lay n ds (by simpa [okD] using h)
    exact ⟨by simpa [D.toP, PyData.canLay0] using h1, by simp only [D.toP, PyData.depth]; omega⟩
  | n + 1, .lst ds, h => by
    obtain ⟨h1, h2⟩ := okDs_lay n ds (by simpa [okD] using h)
    exact ⟨by simpa [D.toP, PyData.canLay0] using h1, by simp only [D.toP, PyData.depth]; omega⟩
  | n + 1, .dct _ _, h => by simp [okD] at h
  | n + 1, .cel _, h => by simp [okD] at h
  | n + 1, .scr _, h => by simp [okD] at h
theorem okDs_lay : ∀ (n : Nat) (ds : List D), okDs n ds = true → PyData.canLayAll0 (D.toPs ds) = true ∧ PyData.depthAll (D.toPs ds) ≤ n
  | _, [], _ => ⟨rfl, by simp [D.toPs, PyData.depthAll]⟩
  | n, d :: ds, h => by
    have h2 : okD n d = true ∧ okDs n ds = true := by simpa [okDs] using h
    obtain ⟨a1, a2⟩ := okD_lay n d h2.1
    obtain ⟨b1, b2⟩ := okDs_lay n ds h2.2
    exact ⟨by simp [D.toPs, PyData.canLayAll0, a1, b1], by simp only [D.toPs, PyData.depthAll]; omega⟩
end
theorem okD_shaped {n : Nat} (hn : n ≤ 64) {d : D} (h : okD n d = true) : SeqAt.shaped d.toP = true := by
  obtain ⟨h1, h2⟩ := okD_lay n d h
  unfold SeqAt.shaped
  rw [h1, decide_eq_true (by omega)]; rfl
mutual
theorem eqD_eqv : ∀ (n : Nat) (d e : D), okD n d = true → okD n e = true → PyData.eqv d.toP e.toP = eqD d e
  | 0, d, _, h, _ => by unfold okD at h; cases h
  | n + 1, .tup xs, .tup ys, h, h' => by
    rw [D.toP, D.toP, PyData.eqv, eqD]; exact eqDs_eqv n xs ys (by simpa [okD] using h) (by simpa [okD] using h')
  | n + 1, .lst xs, .lst ys, h, h' => by
    rw [D.toP, D.toP, PyData.eqv, eqD]; exact eqDs_eqv n xs ys (by simpa [okD] using h) (by simpa [okD] using h')
  | n + 1, .dct _ _, _, h, _ => by simp [okD] at h
  | n + 1, .cel _, _, h, _ => by simp [okD] at h
  | n + 1, .scr _, _, h, _ => by simp [okD] at h
  | n + 1, .non, e, _, h' => by cases e <;> first | rfl | (simp [okD] at h'; done)
  | n + 1, .bl b, e, _, h' => by cases e <;> first | rfl | (simp [okD] at h'; done)
  | n + 1, .int i, e, _, h' => by cases e <;> first | rfl | (simp [okD] at h'; done)
  | n + 1, .str x, e, _, h' => by cases e <;> first | rfl | (simp [okD] at h'; done)
  | n + 1, .tup xs, .non, _, _ => rfl
  | n + 1, .tup xs, .bl _, _, _ => rfl
  | n + 1, .tup xs, .int _, _, _ => rfl
  | n + 1, .tup xs, .str _, _, _ => rfl
  | n + 1, .tup xs, .lst _, _, _ => rfl
  | n + 1, .tup xs, .dct _ _, _, h' => by simp [okD] at h'
  | n + 1, .tup xs, .cel _, _, h' => by simp [okD] at h'
  | n + 1, .tup xs, .scr _, _, h' => by simp [okD] at h'
  | n + 1, .lst xs, .non, _, _ => rfl
  | n + 1, .lst xs, .bl _, _, _ => rfl
  | n + 1, .lst xs, .int _, _, _ => rfl
  | n + 1, .lst xs, .str _, _, _ => rfl
  | n + 1, .lst xs, .tup _, _, _ => rfl
  | n + 1, .lst xs, .dct _ _, _, h' => by simp [okD] at h'
  | n + 1, .lst xs, .cel _, _, h' => by simp [okD] at h'
  | n + 1, .lst xs, .scr _, _, h' => by simp [okD] at h'
theorem eqDs_eqv : ∀ (n : Nat) (ds es : List D), okDs n ds = true → okDs n es = true → PyData.eqvAll (D.toPs ds) (D.toPs es) = eqDs ds es
  | _, [], [], _, _ => rfl
  | _, [], _ :: _, _, _ => rfl
  | _, _ :: _, [], _, _ => rfl
  | n, d :: ds, e :: es, h, h' => by
    have h2 : okD n d = true ∧ okDs n ds = true := by simpa [okDs] using h
    have h3 : okD n e = true ∧ okDs n es = true := by simpa [okDs] using h'
    rw [D.toPs, D.toPs, PyData.eqvAll, eqDs, eqD_eqv n d e h2.1 h3.1, eqDs_eqv n ds es h2.2 h3.2]
end
/-! ### results -/
/-- what is asked of a result d, from a moment on -/
def Res (K : PySem.W.Frag) (G H : Hp) (cs : List Addr) (s : S) (d : D) (Q : VK) : Prop :=
  ∀ G' H' cs' v, Go G H cs G' H' cs' → StOk K G' H' cs' s → Rep K G' cs' d v → Q v H'
theorem Res.now {d : D} {v : V} {Q : VK} (q : Res K G H cs s d Q) (ok : StOk K G H cs s) (r : Rep K G cs d v) : Q v H := q G H cs v .refl ok r
theorem Res.tup {ds : List D} {xs : List V} {p : Addr} {Q : VK} (q : Res K G H cs s (.tup ds) Q) (ok : StOk K G H cs s) (hp : H p = none) (r : RepAll K G cs ds xs) : Q (.ref p) (upd H p (.tup xs)) := by
  obtain ⟨g, o⟩ := go_new (o := .tup xs) ok hp
  exact q _ _ _ _ g o (.tup (.inl (.inl upd_same)) (r.mono g.g g.c))
theorem Res.lst {ds : List D} {xs : List V} {p : Addr} {Q : VK} (q : Res K G H cs s (.lst ds) Q) (ok : StOk K G H cs s) (hp : H p = none) (r : RepAll K G cs ds xs) : Q (.ref p) (upd H p (.lst xs)) := by
  obtain ⟨g, o⟩ := go_new (o := .lst xs) ok hp
  exact q _ _ _ _ g o (.lst upd_same (r.mono g.g g.c))
theorem upd_upd {H : Hp} {p : Addr} {o u : HO} : upd (upd H p o) p u = upd H p u := by
  funext b
  by_cases e : b = p
  · subst e; rw [upd_same, upd_same]
  · rw [upd_ne e, upd_ne e, upd_ne e]
theorem Res.dct {kvs : List (Key × V)} {vs : List D} {p : Addr} {Q : VK} (q : Res K G H cs s (.dct (kvs.map fun p => kD p.1) vs) Q) (ok : StOk K G H cs s) (hp : H p = none) (r : RepAll K G cs vs (kvs.map Prod.snd)) : ∀ od, Q (.ref p) (upd (upd H p (.dK kvs)) p (.frz od (.dK kvs))) := by
  intro od
  rw [upd_upd]
  obtain ⟨g, o⟩ := go_new (o := .frz od (.dK kvs)) ok hp
  exact q _ _ _ _ g o (.dct upd_same (r.mono g.g g.c))
/-- a new dict that is locked for ever -/
def LkQ (Q : VK) : VK := fun v H' => ∃ a kvs, v = .ref a ∧ H' a = some (.dK kvs) ∧ ∀ od, Q v (upd H' a (.frz od (.dK kvs)))
theorem LkQ.at {kvs : List (Key × V)} {vs : List D} {p : Addr} {Q : VK} (q : Res K G H cs s (.dct (kvs.map fun p => kD p.1) vs) Q) (ok : StOk K G H cs s) (hp : H p = none) (r : RepAll K G cs vs (kvs.map Prod.snd)) : LkQ Q (.ref p) (upd H p (.dK kvs)) :=
  ⟨p, kvs, rfl, upd_same, q.dct ok hp r⟩
theorem EP.lk {X : Cx} {pins : List (Addr × Obj)} {σ : St} {Q : VK} {v : Value} {s : Shared} (h : EP X pins σ (LkQ Q) v s) : EP X pins σ Q v s := by
  obtain ⟨x, H', I, r, a, kvs, e, hH, q⟩ := h
  obtain ⟨od, I2⟩ := I.lock hH trivial
  exact ⟨x, _, I2, r, q od⟩
theorem PE.lk {X : Cx} {e : Expr} {t : TE} (h : PE X e t) : PE X e (fun σ H Q => t σ H (LkQ Q)) := ⟨fun pins s σ H Q I hw => thn (h.run pins s σ H _ I hw) fun _ _ q => EP.lk q⟩
theorem CallR.lk {X : Cx} {f : Value} {r : List V → Hp → VK → Prop} (h : CallR X f r) : CallR X f (fun vs H Q => r vs H (LkQ Q)) := fun pins s σ H xs us Q I rv hw => thn (h pins s σ H xs us _ I rv hw) fun _ _ q => EP.lk q
def opA : BOp → Operator
  | .add => .Add | .sub => .Sub | .mul => .Mult | .fdiv => .FloorDiv | .mod => .Mod | .pow => .Pow | .shl => .LShift | .shr => .RShift | .and => .BitAnd | .or => .BitOr | .xor => .BitXor
def rBop (K : PySem.W.Frag) (op : BOp) : R2 := fun v w H Q => ∃ G cs s x y d, StOk K G H cs s ∧ RepB K G H cs x v ∧ RepB K G H cs y w ∧ bop op x y = some d ∧ Res K G H cs s d Q
theorem RepB.int {i : Int} {v : V} (h : RepB K G H cs (.int i) v) : v = .int i := by
  have h := h.proper (fun _ e => by cases e) (fun _ _ e => by cases e)
  cases h; rfl
theorem RepB.bl {b : Bool} {v : V} (h : RepB K G H cs (.bl b) v) : v = .bl b := by
  have h := h.proper (fun _ e => by cases e) (fun _ _ e => by cases e)
  cases h; rfl
theorem RepB.non {v : V} (h : RepB K G H cs .non v) : v = .non := by
  have h := h.proper (fun _ e => by cases e) (fun _ _ e => by cases e)
  cases h; rfl
theorem fdivZ {i j : Int} : pdiv i j = i.fdiv j := by
  unfold pdiv
  split
  · rename_i h; rw [Int.fdiv_eq_ediv_of_nonneg i (by omega)]
  · rfl
theorem fmodZ {i j : Int} : pmod i j = i.fmod j := by
  unfold pmod
  split
  · rename_i h; rw [Int.fmod_eq_emod_of_nonneg i (by omega)]
  · rfl
theorem RepAll.flat {ds : List D} {xs : List V} (r : RepAll K G cs ds xs) : ∀ k : Nat, RepAll K G cs (List.replicate k ds).flatten (List.replicate k xs).flatten
  | 0 => .nil
  | k + 1 => by
    rw [List.replicate_succ, List.replicate_succ, List.flatten_cons, List.flatten_cons]
    exact r.append (r.flat k)
theorem RepAll.nil_iff {ds : List D} {xs : List V} (r : RepAll K G cs ds xs) : xs = [] ↔ ds = [] := by
  cases r <;> simp
end
section
variable {X : Cx}
theorem op_bop (op : BOp) : OpR X (binaryOp (opA op)) (rBop X.K op) := by
  intro pins st σ H v w u1 u2 Q I r1 r2 h
  obtain ⟨G, cs, s, x, y, d, ok, rx, ry, e, q⟩ := h
  have two : ∀ {i j : Int}, x = .int i → y = .int j → v = .int i ∧ w = .int j := fun {i j} e1 e2 => ⟨RepB.int (e1 ▸ rx), RepB.int (e2 ▸ ry)⟩
  have gI : ∀ {g : Int} {i j : Int}, d = .int g → Q (.int g) H := fun {g i j} e => q.now ok (e ▸ .int g)
  cases op with
  | add =>
    cases x with
    | int i =>
      cases y with
      | int j =>
        obtain ⟨rfl, rfl⟩ := two rfl rfl
        cases (show some (D.int (i + j)) = some d from e)
        exact op_add pins st σ H _ _ u1 u2 Q I r1 r2 ⟨i, j, rfl, rfl, q.now ok (.int _)⟩
      | _ => cases (show (none : Option D) = some d from e)
    | tup xs =>
      cases y with
      | tup ys =>
        have e : (if xs.length + ys.length ≤ line then some (D.tup (xs ++ ys)) else none) = some d := e
        split at e
        · rename_i hl
          cases e
          obtain ⟨a, vs, rfl, ha, ra⟩ := rx.tup ok
          obtain ⟨b, ws, rfl, hb, rb⟩ := ry.tup ok
          rw [line_eq] at hl
          refine op_catA pins st σ H _ _ u1 u2 Q I r1 r2 ⟨a, b, vs, ws, rfl, rfl, ha, hb, by rw [← ra.length, ← rb.length]; exact hl, fun e0 => ?_, fun _ e0 => ?_, fun _ _ p hp => q.tup ok hp (ra.append rb)⟩
          · have e1 : xs = [] := ra.nil_iff.mp e0
            subst e1
            exact q.now ok (ry.proper (fun _ e => by cases e) (fun _ _ e => by cases e))
          · have e1 : ys = [] := rb.nil_iff.mp e0
            subst e1
            rw [List.append_nil] at q
            exact q.now ok (rx.proper (fun _ e => by cases e) (fun _ _ e => by cases e))
        · cases e
      | _ => cases (show (none : Option D) = some d from e)
    | lst xs =>
      cases y with
      | lst ys =>
        have e : (if xs.length + ys.length ≤ line then some (D.lst (xs ++ ys)) else none) = some d := e
        split at e
        · rename_i hl
          cases e
          obtain ⟨a, vs, rfl, ha, ra⟩ := rx.lst ok
          obtain ⟨b, ws, rfl, hb, rb⟩ := ry.lst ok
          rw [line_eq] at hl
          exact op_cat pins st σ H _ _ u1 u2 Q I r1 r2 ⟨a, b, vs, ws, rfl, rfl, ha, hb, by rw [← ra.length, ← rb.length]; exact hl, fun p hp => q.lst ok hp (ra.append rb)⟩
        · cases e
      | _ => cases (show (none : Option D) = some d from e)
    | _ => cases y <;> cases (show (none : Option D) = some d from e)
  | mul =>
    cases x with
    | int i =>
      cases y with
      | int j =>
        obtain ⟨rfl, rfl⟩ := two rfl rfl
        have e : (if small64 i || small64 j then some (D.int (i * j)) else none) = some d := e
        split at e
        · rename_i hc
          cases e
          refine op_mul pins st σ H _ _ u1 u2 Q I r1 r2 ⟨i, j, rfl, rfl, ?_, q.now ok (.int _)⟩
          rcases Bool.or_eq_true_iff.mp hc with h | h
          · exact .inl (of_decide_eq_true h)
          · exact .inr (of_decide_eq_true h)
        · cases e
      | _ => cases (show (none : Option D) = some d from e)
    | lst xs =>
      cases y with
      | int k =>
        have e : (if k < 2 ^ 62 ∧ -(2 ^ 62) < k ∧ xs.length * k.toNat ≤ line then some (D.lst (List.replicate k.toNat xs).flatten) else none) = some d := e
        split at e
        · rename_i hl
          cases e
          obtain ⟨a, vs, rfl, ha, ra⟩ := rx.lst ok
          obtain rfl := ry.int
          obtain ⟨h1, h2, h3⟩ := hl
          rw [line_eq] at h3
          exact op_rep pins st σ H _ _ u1 u2 Q I r1 r2 ⟨a, k, vs, rfl, rfl, ha, by omega, by omega, by rw [← ra.length]; exact h3, fun p hp => q.lst ok hp (ra.flat _)⟩
        · cases e
      | _ => cases (show (none : Option D) = some d from e)
    | tup xs =>
      cases y with
      | int k =>
        have e : (if xs ≠ [] ∧ 2 ≤ k ∧ k ≤ 1000 ∧ xs.length ≤ 1000 then some (D.tup (List.replicate k.toNat xs).flatten) else none) = some d := e
        split at e
        · rename_i hl
          cases e
          obtain ⟨a, vs, rfl, ha, ra⟩ := rx.tup ok
          obtain rfl := ry.int
          obtain ⟨h0, h1, h2, h3⟩ := hl
          exact op_repT pins st σ H _ _ u1 u2 Q I r1 r2 ⟨a, k, vs, rfl, rfl, ha, fun e => h0 (ra.nil_iff.mp e), h1, h2, by rw [← ra.length]; exact h3, fun p hp => q.tup ok hp (ra.flat _)⟩
        · cases e
      | _ => cases (show (none : Option D) = some d from e)
    | _ => cases y <;> cases (show (none : Option D) = some d from e)
  | sub =>
    cases x with
    | int i =>
      cases y with
      | int j =>
        obtain ⟨rfl, rfl⟩ := two rfl rfl
        cases (show some (D.int (i - j)) = some d from e)
        exact op_sub pins st σ H _ _ u1 u2 Q I r1 r2 ⟨i, j, rfl, rfl, q.now ok (.int _)⟩
      | _ => cases (show (none : Option D) = some d from e)
    | _ => cases y <;> cases (show (none : Option D) = some d from e)
  | fdiv =>
    cases x with
    | int i =>
      cases y with
      | int j =>
        obtain ⟨rfl, rfl⟩ := two rfl rfl
        have e : (if j ≠ 0 ∧ j.natAbs < 1073741824 then some (D.int (pdiv i j)) else none) = some d := e
        split at e
        · rename_i hc
          cases e
          exact op_fdivN pins st σ H _ _ u1 u2 Q I r1 r2 ⟨i, j, rfl, rfl, hc, by have := q.now ok (.int _); rw [fdivZ] at this; exact this⟩
        · cases e
      | _ => cases (show (none : Option D) = some d from e)
    | _ => cases y <;> cases (show (none : Option D) = some d from e)
  | mod =>
    cases x with
    | int i =>
      cases y with
      | int j =>
        obtain ⟨rfl, rfl⟩ := two rfl rfl
        have e : (if j ≠ 0 then some (D.int (pmod i j)) else none) = some d := e
        split at e
        · rename_i hc
          cases e
          exact op_modN pins st σ H _ _ u1 u2 Q I r1 r2 ⟨i, j, rfl, rfl, hc, by have := q.now ok (.int _); rw [fmodZ] at this; exact this⟩
        · cases e
      | _ => cases (show (none : Option D) = some d from e)
    | _ => cases y <;> cases (show (none : Option D) = some d from e)
  | pow =>
    cases x with
    | int i =>
      cases y with
      | int j =>
        obtain ⟨rfl, rfl⟩ := two rfl rfl
        have e : (if 0 ≤ j ∧ j ≤ 1000000 ∧ i.natAbs < 2 ^ 64 then some (D.int (i ^ j.toNat)) else none) = some d := e
        split at e
        · rename_i hc
          cases e
          exact op_pow pins st σ H _ _ u1 u2 Q I r1 r2 ⟨i, j, rfl, rfl, hc, q.now ok (.int _)⟩
        · cases e
      | _ => cases (show (none : Option D) = some d from e)
    | _ => cases y <;> cases (show (none : Option D) = some d from e)
  | shl =>
    cases x with
    | int i =>
      cases y with
      | int j =>
        obtain ⟨rfl, rfl⟩ := two rfl rfl
        have e : (if 0 ≤ j ∧ j ≤ 1000000 ∧ i.natAbs < 2 ^ 64 then some (D.int (i * 2 ^ j.toNat)) else none) = some d := e
        split at e
        · rename_i hc
          cases e
          exact op_shl pins st σ H _ _ u1 u2 Q I r1 r2 ⟨i, j, rfl, rfl, hc, q.now ok (.int _)⟩
        · cases e
      | _ => cases (show (none : Option D) = some d from e)
    | _ => cases y <;> cases (show (none : Option D) = some d from e)
  | shr =>
    cases x with
    | int i =>
      cases y with
      | int j =>
        obtain ⟨rfl, rfl⟩ := two rfl rfl
        have e : (if 0 ≤ j then some (D.int (i / 2 ^ j.toNat)) else none) = some d := e
        split at e
        · rename_i hc
          cases e
          exact op_shr pins st σ H _ _ u1 u2 Q I r1 r2 ⟨i, j, rfl, rfl, hc, q.now ok (.int _)⟩
        · cases e
      | _ => cases (show (none : Option D) = some d from e)
    | _ => cases y <;> cases (show (none : Option D) = some d from e)
  | and =>
    cases x with
    | int i =>
      cases y with
      | int j =>
        obtain ⟨rfl, rfl⟩ := two rfl rfl
        cases (show some (D.int (Builtin.bitAnd i j)) = some d from e)
        exact op_and pins st σ H _ _ u1 u2 Q I r1 r2 ⟨i, j, rfl, rfl, q.now ok (.int _)⟩
      | _ => cases (show (none : Option D) = some d from e)
    | _ => cases y <;> cases (show (none : Option D) = some d from e)
  | or =>
    cases x with
    | int i =>
      cases y with
      | int j =>
        obtain ⟨rfl, rfl⟩ := two rfl rfl
        cases (show some (D.int (Builtin.bitOr i j)) = some d from e)
        exact op_or pins st σ H _ _ u1 u2 Q I r1 r2 ⟨i, j, rfl, rfl, q.now ok (.int _)⟩
      | _ => cases (show (none : Option D) = some d from e)
    | _ => cases y <;> cases (show (none : Option D) = some d from e)
  | xor =>
    cases x with
    | int i =>
      cases y with
      | int j =>
        obtain ⟨rfl, rfl⟩ := two rfl rfl
        cases (show some (D.int (Builtin.bitXor i j)) = some d from e)
        exact op_xor pins st σ H _ _ u1 u2 Q I r1 r2 ⟨i, j, rfl, rfl, q.now ok (.int _)⟩
      | _ => cases (show (none : Option D) = some d from e)
    | _ => cases y <;> cases (show (none : Option D) = some d from e)
end
end PV
set_option Elab.async false
set_option linter.all false
set_option autoImplicit false
set_option maxRecDepth 100000
set_option maxHeartbeats 4000000
namespace PV
open PySem PySem.Spec L2
open PyProof.Rows hiding St
section
variable {K : PySem.W.Frag} {G G' H H' : Hp} {cs cs' : List Addr} {s s' : S}
def cA : COp → CmpOp
  | .eq => .Eq | .ne => .NotEq | .lt => .Lt | .le => .LtE | .gt => .Gt | .ge => .GtE | .is => .Is | .isnot => .IsNot | .inn => .In | .notin => .NotIn
def rCop (K : PySem.W.Frag) (op : COp) : R2 := fun v w H Q => ∃ G cs s x y b, StOk K G H cs s ∧ RepB K G H cs x v ∧ RepB K G H cs y w ∧ cop op x y = some b ∧ Q (.bl b) H
theorem toPs_any (x : D) {n : Nat} (hx : okD (n + 1) x = true) : ∀ (ys : List D), okDs (n + 1) ys = true → ((D.toPs ys).any fun z => PyData.eqv z x.toP) = ys.any fun z => eqD z x
  | [], _ => rfl
  | y :: ys, h => by
    have h2 : okD (n + 1) y = true ∧ okDs (n + 1) ys = true := by simpa [okDs] using h
    rw [D.toPs, List.any_cons, List.any_cons, toPs_any x hx ys h2.2, eqD_eqv (n + 1) y x h2.1 hx]
mutual
theorem okD_le : ∀ (n m : Nat) (d : D), n ≤ m → okD n d = true → okD m d = true
  | 0, _, d, _, h => by unfold okD at h; cases h
  | n + 1, 0, _, l, _ => by omega
  | n + 1, m + 1, .non, _, _ => rfl
  | n + 1, m + 1, .bl _, _, _ => rfl
  | n + 1, m + 1, .int _, _, _ => rfl
  | n + 1, m + 1, .str x, _, h => by simpa [okD] using h
  | n + 1, m + 1, .tup ds, l, h => by
    have := okDs_le n m ds (by omega) (by simpa [okD] using h)
    simpa [okD] using this
  | n + 1, m + 1, .lst ds, l, h => by
    have := okDs_le n m ds (by omega) (by simpa [okD] using h)
    simpa [okD] using this
  | n + 1, m + 1, .dct _ _, _, h => by simp [okD] at h
  | n + 1, m + 1, .cel _, _, h => by simp [okD] at h
  | n + 1, m + 1, .scr _, _, h => by simp [okD] at h
theorem okDs_le : ∀ (n m : Nat) (ds : List D), n ≤ m → okDs n ds = true → okDs m ds = true
  | _, _, [], _, _ => by simp [okDs]
  | n, m, d :: ds, l, h => by
    have h2 : okD n d = true ∧ okDs n ds = true := by simpa [okDs] using h
    simp [okDs, okD_le n m d l h2.1, okDs_le n m ds l h2.2]
end
theorem eqD_kD {k j : Key} : eqD (kD k) (kD j) = decide (k = j) := by
  rcases k with i | x <;> rcases j with i' | x'
  · show (i == i') = _
    rw [key_ll]
  · show false = _
    rw [key_lr]
  · show false = _
    rw [key_rl]
  · show (x == x') = _
    rw [key_rr]; by_cases e : x = x' <;> simp [e]
theorem isKey_of {d : D} (h : isKey d = true) : ∃ k, d = kD k := by
  cases d with
  | int i => exact ⟨.inl i, rfl⟩
  | str x => exact ⟨.inr x, rfl⟩
  | _ => cases h
theorem keyAt_val {k : Key} : ∀ {kvs : List (Key × V)}, (keyAt (kD k) (kvs.map fun p => kD p.1)).isSome = (valV kvs k).isSome
  | [] => rfl
  | p :: r => by
    rw [List.map_cons, keyAt, eqD_kD]
    unfold valV
    rw [List.find?_cons]
    by_cases e : p.1 = k
    · simp [e]
    · have ih := keyAt_val (k := k) (kvs := r)
      unfold valV at ih
      simp only [decide_eq_false e, Bool.false_eq_true, if_false, Option.isSome_map] at ih ⊢
      exact ih
theorem keyAt_get {k : Key} : ∀ {kvs : List (Key × V)} {i : Nat}, keyAt (kD k) (kvs.map fun p => kD p.1) = some i → ∃ v, valV kvs k = some v ∧ (kvs.map Prod.snd)[i]? = some v
  | [], _, h => by cases h
  | p :: r, i, h => by
    rw [List.map_cons, keyAt, eqD_kD] at h
    unfold valV
    rw [List.find?_cons]
    by_cases e : p.1 = k
    · simp only [e, decide_true, if_true] at h ⊢
      cases h
      exact ⟨p.2, rfl, rfl⟩
    · simp only [decide_eq_false e, Bool.false_eq_true, if_false] at h ⊢
      cases q : keyAt (kD k) (r.map fun p => kD p.1) with
      | none => rw [q] at h; cases h
      | some j =>
        rw [q] at h
        cases h
        obtain ⟨v, h1, h2⟩ := keyAt_get q
        exact ⟨v, h1, by simpa using h2⟩
theorem RepB.kD {k : Key} {v : V} (h : RepB K G H cs (kD k) v) : v = kV k := by
  rcases k with i | x
  · exact RepB.int h
  · have h := h.proper (fun _ e => by cases e) (fun _ _ e => by cases e)
    cases h; rfl
end
section
variable {X : Cx}
theorem op_inT (hu : X.A.units + 65 < cLine) : OpR X (compareOp .In) (fun x y H Q => ∃ d ds, Dp X.K H x d ∧ Dp X.K H y (.tuple ds) ∧ SeqAt.shaped d = true ∧ SeqAt.shaped (.tuple ds) = true ∧ Q (.bl (ds.any fun z => PyData.eqv z d)) H) := by
  intro pins s σ H x y v u Q I rx ry h
  obtain ⟨d, ds, hd, he, sd, se, q⟩ := h
  obtain ⟨as, r1⟩ := Dp.reads I d x v hd rx
  obtain ⟨bs, r2⟩ := Dp.reads I (.tuple ds) y u he ry
  exact SeqAt.in_tuple_reads r2 r1 (SeqAt.canLay_of_shaped se) (SeqAt.canLay_of_shaped sd) (room_in_shaped sd hu) ⟨.bl _, H, I, rfl, q⟩
theorem op_notInT (hu : X.A.units + 65 < cLine) : OpR X (compareOp .NotIn) (fun x y H Q => ∃ d ds, Dp X.K H x d ∧ Dp X.K H y (.tuple ds) ∧ SeqAt.shaped d = true ∧ SeqAt.shaped (.tuple ds) = true ∧ Q (.bl (!ds.any fun z => PyData.eqv z d)) H) := by
  intro pins s σ H x y v u Q I rx ry h
  obtain ⟨d, ds, hd, he, sd, se, q⟩ := h
  obtain ⟨as, r1⟩ := Dp.reads I d x v hd rx
  obtain ⟨bs, r2⟩ := Dp.reads I (.tuple ds) y u he ry
  exact SeqAt.notIn_tuple_reads r2 r1 (SeqAt.canLay_of_shaped se) (SeqAt.canLay_of_shaped sd) (room_in_shaped sd hu) ⟨.bl _, H, I, rfl, q⟩
theorem okB {a b : Bool} (h : (if a && b then some (true : Bool) else none) = some true) : a = true ∧ b = true := by
  cases a <;> cases b <;> first | exact ⟨rfl, rfl⟩ | cases h
theorem isnon_dec {K : PySem.W.Frag} {G H : Hp} {cs : List Addr} {x : D} {v : V} (r : RepB K G H cs x v) : isNon x = decide (v = V.non) := by
  rcases r with r | ⟨a, xs, ds, rfl, rfl, _⟩ | ⟨a, kvs, vs, rfl, rfl, _⟩
  · cases r <;> simp [isNon]
  · simp [isNon]
  · simp [isNon]
theorem op_cop (hu : X.A.units + 66 < cLine) (op : COp) : OpR X (compareOp (cA op)) (rCop X.K op) := by
  intro pins st σ H v w u1 u2 Q I r1 r2 h
  obtain ⟨G, cs, s, x, y, b, ok, rx, ry, e, q⟩ := h
  have two : ∀ {i j : Int}, x = .int i → y = .int j → v = .int i ∧ w = .int j := fun {i j} e1 e2 => ⟨RepB.int (e1 ▸ rx), RepB.int (e2 ▸ ry)⟩
  have cmpI : ∀ {f : Int → Int → Bool} {o : CmpOp}, OpR X (compareOp o) (rI0 fun i j => .bl (f i j)) → (∀ i j, x = .int i → y = .int j → b = f i j) → (∃ i j, x = .int i ∧ y = .int j) →
      wpAny (model X.prog X.w) X.A (compareOp o u1 u2) (EP X pins σ Q) X.xe st := fun {f o} ho hb ⟨i, j, e1, e2⟩ => by
    obtain ⟨rfl, rfl⟩ := two e1 e2
    refine ho pins st σ H _ _ u1 u2 Q I r1 r2 ⟨i, j, rfl, rfl, ?_⟩
    show Q (.bl (f i j)) H
    rw [← hb i j e1 e2]; exact q
  cases op with
  | eq =>
    have e : (if okD 60 x && okD 60 y then some (eqD x y) else none) = some b := e
    split at e
    · rename_i hc
      obtain ⟨h1, h2⟩ := Bool.and_eq_true_iff.mp hc
      cases e
      exact op_eqD (by omega) pins st σ H v w u1 u2 Q I r1 r2 ⟨_, _, repB_dp ok h1 rx, repB_dp ok h2 ry, okD_shaped (by decide) h1, okD_shaped (by decide) h2, by rw [eqD_eqv 60 x y h1 h2]; exact q⟩
    · cases e
  | ne =>
    have e : (if okD 60 x && okD 60 y then some (!eqD x y) else none) = some b := e
    split at e
    · rename_i hc
      obtain ⟨h1, h2⟩ := Bool.and_eq_true_iff.mp hc
      cases e
      exact op_neD (by omega) pins st σ H v w u1 u2 Q I r1 r2 ⟨_, _, repB_dp ok h1 rx, repB_dp ok h2 ry, okD_shaped (by decide) h1, okD_shaped (by decide) h2, by rw [eqD_eqv 60 x y h1 h2]; exact q⟩
    · cases e
  | lt =>
    refine cmpI (f := fun i j => decide (i < j)) op_lt (fun i j e1 e2 => ?_) ?_
    · subst e1 e2; exact (Option.some.inj e).symm
    · cases x <;> cases y <;> first | exact ⟨_, _, rfl, rfl⟩ | cases (show (none : Option Bool) = some b from e)
  | le =>
    refine cmpI (f := fun i j => decide (i ≤ j)) op_le (fun i j e1 e2 => ?_) ?_
    · subst e1 e2; exact (Option.some.inj e).symm
    · cases x <;> cases y <;> first | exact ⟨_, _, rfl, rfl⟩ | cases (show (none : Option Bool) = some b from e)
  | gt =>
    refine cmpI (f := fun i j => decide (j < i)) op_gt (fun i j e1 e2 => ?_) ?_
    · subst e1 e2; exact (Option.some.inj e).symm
    · cases x <;> cases y <;> first | exact ⟨_, _, rfl, rfl⟩ | cases (show (none : Option Bool) = some b from e)
  | ge =>
    refine cmpI (f := fun i j => decide (j ≤ i)) op_ge (fun i j e1 e2 => ?_) ?_
    · subst e1 e2; exact (Option.some.inj e).symm
    · cases x <;> cases y <;> first | exact ⟨_, _, rfl, rfl⟩ | cases (show (none : Option Bool) = some b from e)
  | is =>
    cases y with
    | non =>
      obtain rfl := ry.non
      have e : some (isNon x) = some b := by cases x <;> exact e
      rw [isnon_dec rx] at e
      cases e
      exact op_isN pins st σ H v _ u1 u2 Q I r1 r2 ⟨rfl, q⟩
    | bl j =>
      cases x with
      | bl i =>
        obtain rfl := ry.bl
        obtain rfl := rx.bl
        cases (show some (decide (i = j)) = some b from e)
        exact op_isBl pins st σ H _ _ u1 u2 Q I r1 r2 ⟨i, j, rfl, rfl, q⟩
      | _ => cases (show (none : Option Bool) = some b from e)
    | _ => cases x <;> cases (show (none : Option Bool) = some b from e)
  | isnot =>
    cases y with
    | non =>
      obtain rfl := ry.non
      have e : some (!isNon x) = some b := by cases x <;> exact e
      rw [isnon_dec rx] at e
      cases e
      exact op_notN pins st σ H v _ u1 u2 Q I r1 r2 ⟨rfl, q⟩
    | bl j =>
      cases x with
      | bl i =>
        obtain rfl := ry.bl
        obtain rfl := rx.bl
        cases (show some (!decide (i = j)) = some b from e)
        exact op_notBl pins st σ H _ _ u1 u2 Q I r1 r2 ⟨i, j, rfl, rfl, q⟩
      | _ => cases (show (none : Option Bool) = some b from e)
    | _ => cases x <;> cases (show (none : Option Bool) = some b from e)
  | inn =>
    cases y with
    | lst ys =>
      have e : (if okD 60 x && okDs 59 ys then some (ys.any fun z => eqD z x) else none) = some b := e
      split at e
      · rename_i hc
        obtain ⟨h1, h2⟩ := Bool.and_eq_true_iff.mp hc
        cases e
        have h3 : okD 60 (.lst ys) = true := by simpa [okD] using h2
        refine op_inD (by omega) pins st σ H v w u1 u2 Q I r1 r2 ⟨x.toP, D.toPs ys, repB_dp ok h1 rx, by have := repB_dp ok h3 ry; rwa [D.toP] at this, okD_shaped (by decide) h1, by have := okD_shaped (by decide) h3; rwa [D.toP] at this, ?_⟩
        rw [toPs_any x h1 ys (okDs_le 59 60 ys (by decide) h2)]; exact q
      · cases e
    | tup ys =>
      have e : (if okD 60 x && okDs 59 ys then some (ys.any fun z => eqD z x) else none) = some b := e
      split at e
      · rename_i hc
        obtain ⟨h1, h2⟩ := Bool.and_eq_true_iff.mp hc
        cases e
        have h3 : okD 60 (.tup ys) = true := by simpa [okD] using h2
        refine op_inT (by omega) pins st σ H v w u1 u2 Q I r1 r2 ⟨x.toP, D.toPs ys, repB_dp ok h1 rx, by have := repB_dp ok h3 ry; rwa [D.toP] at this, okD_shaped (by decide) h1, by have := okD_shaped (by decide) h3; rwa [D.toP] at this, ?_⟩
        rw [toPs_any x h1 ys (okDs_le 59 60 ys (by decide) h2)]; exact q
      · cases e
    | dct ks vs =>
      have e : (if isKey x then some (keyAt x ks).isSome else none) = some b := e
      split at e
      · rename_i hk
        cases e
        obtain ⟨k, rfl⟩ := isKey_of hk
        obtain ⟨a, kvs, rfl, hH, rfl, _⟩ := ry.dct ok
        obtain rfl := rx.kD
        cases r2
        refine d_in (by omega) I (.inl ⟨kvs, k, hH, rfl, rfl⟩) r1 fun s3 I3 => ⟨.bl _, H, I3, rfl, ?_⟩
        rw [← keyAt_val]; exact q
      · cases e
    | _ => cases (show (none : Option Bool) = some b from e)
  | notin =>
    cases y with
    | lst ys =>
      have e : (if okD 60 x && okDs 59 ys then some (!ys.any fun z => eqD z x) else none) = some b := e
      split at e
      · rename_i hc
        obtain ⟨h1, h2⟩ := Bool.and_eq_true_iff.mp hc
        cases e
        have h3 : okD 60 (.lst ys) = true := by simpa [okD] using h2
        refine op_notInD (by omega) pins st σ H v w u1 u2 Q I r1 r2 ⟨x.toP, D.toPs ys, repB_dp ok h1 rx, by have := repB_dp ok h3 ry; rwa [D.toP] at this, okD_shaped (by decide) h1, by have := okD_shaped (by decide) h3; rwa [D.toP] at this, ?_⟩
        rw [toPs_any x h1 ys (okDs_le 59 60 ys (by decide) h2)]; exact q
      · cases e
    | tup ys =>
      have e : (if okD 60 x && okDs 59 ys then some (!ys.any fun z => eqD z x) else none) = some b := e
      split at e
      · rename_i hc
        obtain ⟨h1, h2⟩ := Bool.and_eq_true_iff.mp hc
        cases e
        have h3 : okD 60 (.tup ys) = true := by simpa [okD] using h2
        refine op_notInT (by omega) pins st σ H v w u1 u2 Q I r1 r2 ⟨x.toP, D.toPs ys, repB_dp ok h1 rx, by have := repB_dp ok h3 ry; rwa [D.toP] at this, okD_shaped (by decide) h1, by have := okD_shaped (by decide) h3; rwa [D.toP] at this, ?_⟩
        rw [toPs_any x h1 ys (okDs_le 59 60 ys (by decide) h2)]; exact q
      · cases e
    | dct ks vs =>
      have e : (if isKey x then some (!(keyAt x ks).isSome) else none) = some b := e
      split at e
      · rename_i hk
        cases e
        obtain ⟨k, rfl⟩ := isKey_of hk
        obtain ⟨a, kvs, rfl, hH, rfl, _⟩ := ry.dct ok
        obtain rfl := rx.kD
        cases r2
        refine d_notIn (by omega) I (.inl ⟨kvs, k, hH, rfl, rfl⟩) r1 fun s3 I3 => ⟨.bl _, H, I3, rfl, ?_⟩
        rw [← keyAt_val]; exact q
      · cases e
    | _ => cases (show (none : Option Bool) = some b from e)
end
end PV
set_option Elab.async false
set_option linter.all false
set_option autoImplicit false
set_option maxRecDepth 100000
set_option maxHeartbeats 4000000
namespace PV
open PySem PySem.Spec L2
open PyProof.Rows hiding St
def RB (b : Bool) (K : PySem.W.Frag) (G H : Hp) (cs : List Addr) (d : D) (v : V) : Prop := if b = true then RepB K G H cs d v else Rep K G cs d v
inductive RBs (b : Bool) (K : PySem.W.Frag) (G H : Hp) (cs : List Addr) : List D → List V → Prop
  | nil : RBs b K G H cs [] []
  | cons {d : D} {ds : List D} {v : V} {vs : List V} : RB b K G H cs d v → RBs b K G H cs ds vs → RBs b K G H cs (d :: ds) (v :: vs)
section
variable {K : PySem.W.Frag} {G G' H H' : Hp} {cs cs' : List Addr} {s s' : S} {b : Bool}
theorem RB.B {d : D} {v : V} (h : RB b K G H cs d v) : RepB K G H cs d v := by
  unfold RB at h
  split at h
  · exact h
  · exact .inl h
theorem RB.of {d : D} {v : V} (h : Rep K G cs d v) : RB b K G H cs d v := by
  unfold RB
  split
  · exact .inl h
  · exact h
theorem RB.go {d : D} {v : V} (x : Go G H cs G' H' cs') (h : RB b K G H cs d v) : RB b K G' H' cs' d v := by
  unfold RB at h ⊢
  split
  · rename_i e; rw [if_pos e] at h; exact h.go x
  · rename_i e; rw [if_neg e] at h; exact h.mono x.g x.c
theorem RBs.go {ds : List D} {vs : List V} (x : Go G H cs G' H' cs') (h : RBs b K G H cs ds vs) : RBs b K G' H' cs' ds vs := by
  induction h with
  | nil => exact .nil
  | cons h _ ih => exact .cons (h.go x) ih
theorem RBs.all {ds : List D} {vs : List V} (h : RBs false K G H cs ds vs) : RepAll K G cs ds vs := by
  induction h with
  | nil => exact .nil
  | cons h _ ih => exact .cons h ih
theorem RBs.length {ds : List D} {vs : List V} (h : RBs b K G H cs ds vs) : ds.length = vs.length := by
  induction h with
  | nil => rfl
  | cons h _ ih => rw [List.length_cons, List.length_cons, ih]
theorem RBs.one {d : D} {vs : List V} (h : RBs b K G H cs [d] vs) : ∃ v, vs = [v] ∧ RepB K G H cs d v := by
  cases h with
  | cons h t => cases t; exact ⟨_, rfl, h.B⟩
theorem RBs.two {d e : D} {vs : List V} (h : RBs b K G H cs [d, e] vs) : ∃ v w, vs = [v, w] ∧ RepB K G H cs d v ∧ RepB K G H cs e w := by
  cases h with
  | cons h t =>
    cases t with
    | cons h' t => cases t; exact ⟨_, _, rfl, h.B, h'.B⟩
theorem RepAll.bls : ∀ {ds : List D} {xs : List V} {bs : List Bool}, RepAll K G cs ds xs → blL ds = some bs → xs = bs.map V.bl
  | _, _, _, .nil, e => by cases e; rfl
  | .bl c :: ds, _, bs, .cons h r, e => by
    cases h
    cases q : blL ds with
    | none => simp [blL, q] at e
    | some cs' =>
      have e : some (c :: cs') = some bs := by simpa [blL, q] using e
      cases e
      rw [List.map_cons, RepAll.bls r q]
  | .non :: _, _, _, _, e => by simp [blL] at e
  | .int _ :: _, _, _, _, e => by simp [blL] at e
  | .str _ :: _, _, _, _, e => by simp [blL] at e
  | .tup _ :: _, _, _, _, e => by simp [blL] at e
  | .lst _ :: _, _, _, _, e => by simp [blL] at e
  | .dct _ _ :: _, _, _, _, e => by simp [blL] at e
  | .cel _ :: _, _, _, _, e => by simp [blL] at e
  | .scr _ :: _, _, _, _, e => by simp [blL] at e
theorem RepAll.ints : ∀ {ds : List D} {xs : List V} {ns : List Int}, RepAll K G cs ds xs → intL ds = some ns → xs = ns.map V.int
  | _, _, _, .nil, e => by cases e; rfl
  | .int c :: ds, _, ns, .cons h r, e => by
    cases h
    cases q : intL ds with
    | none => simp [intL, q] at e
    | some cs' =>
      have e : some (c :: cs') = some ns := by simpa [intL, q] using e
      cases e
      rw [List.map_cons, RepAll.ints r q]
  | .non :: _, _, _, _, e => by simp [intL] at e
  | .bl _ :: _, _, _, _, e => by simp [intL] at e
  | .str _ :: _, _, _, _, e => by simp [intL] at e
  | .tup _ :: _, _, _, _, e => by simp [intL] at e
  | .lst _ :: _, _, _, _, e => by simp [intL] at e
  | .dct _ _ :: _, _, _, _, e => by simp [intL] at e
  | .cel _ :: _, _, _, _, e => by simp [intL] at e
  | .scr _ :: _, _, _, _, e => by simp [intL] at e
theorem repAll_ints : ∀ ns : List Int, RepAll K G cs (ns.map D.int) (ns.map V.int)
  | [] => .nil
  | n :: ns => .cons (.int n) (repAll_ints ns)
/-! ### truth -/
theorem tru_ok' (ok : StOk K G H cs s) {d : D} {v : V} {c : Bool} (e : tru d = some c) (r : RepB K G H cs d v) : TruV K v H c := by
  have hs : sizeLine = 16777216 := sizeLine_eq
  cases d with
  | non => obtain rfl := r.non; cases e; rfl
  | bl k => obtain rfl := r.bl; cases e; rfl
  | int i => obtain rfl := r.int; cases e; rfl
  | str x =>
    have r := r.proper (fun _ e => by cases e) (fun _ _ e => by cases e)
    cases r
    have e : (if x.length ≤ 1000000 then some (x.length != 0) else none) = some c := e
    split at e
    · rename_i h
      cases e
      refine ⟨by omega, ?_⟩
      by_cases z : x.length = 0
      · rw [z]; rfl
      · have z2 : (x.length : Int) ≠ 0 := by omega
        rw [bne_iff_ne.mpr z, bne_iff_ne.mpr z2]
    · cases e
  | tup ds =>
    cases e
    obtain ⟨a, xs, rfl, h1, ra⟩ := r.tup ok
    refine .inr (.inl ⟨xs, h1, ?_⟩)
    cases ra <;> rfl
  | lst ds =>
    cases e
    obtain ⟨a, xs, rfl, h1, ra⟩ := r.lst ok
    refine .inl ⟨xs, .inl (.inl h1), ?_⟩
    cases ra <;> rfl
  | dct ks vs => cases e
  | cel n => cases e
  | scr n => cases e
/-! ### subscripts -/
theorem seqAt_atI {ds : List D} {xs : List V} {i : Int} {d : D} (ra : RepAll K G cs ds xs) (hz : xs.length ≤ sizeLine) (e : seqAt ds i = some d) : ∃ v, atI xs i = some v ∧ Rep K G cs d v := by
  unfold seqAt at e
  have hl := ra.length
  split at e
  · rename_i h0
    split at e
    · rename_i h1
      have hlt : i.toNat < ds.length := (List.getElem?_eq_some_iff.mp e).1
      obtain ⟨v, hv, rv⟩ := ra.get e
      refine ⟨v, ?_, rv⟩
      unfold atI ixN
      rw [if_pos h0, if_pos (by omega)]
      exact hv
    · cases e
  · rename_i h0
    split at e
    · rename_i h1
      obtain ⟨v, hv, rv⟩ := ra.get e
      refine ⟨v, ?_, rv⟩
      unfold atI ixN
      rw [if_neg h0, if_pos (by omega), ← hl]
      exact hv
    · cases e
/-- x[y] for data and the mutable objects -/
def rSub (K : PySem.W.Frag) : R2 := fun v w H Q => ∃ G cs s s' x y d, StOk K G H cs s ∧ RepB K G H cs x v ∧ RepB K G H cs y w ∧ subM x y s = some (d, s') ∧ Res K G H cs s' d Q
end
section
variable {X : Cx}
theorem ix_dct (hu : X.A.units + 1 < cLine) : IxR X (fun x y H Q => ∃ a v, x = .ref a ∧ DGet H a y (some v) ∧ Q v H) := by
  intro value slice pins s σ H x y v u Q I rx ry h hs
  obtain ⟨a, z, rfl, g, q⟩ := h
  cases rx
  exact tail_any (dict_typeIs I g) PySem.F.slot_dict_getitem.lookup (d_getItem hu I g ry fun w' s' I' rw' => ⟨z, H, I', rw', q⟩) hs
theorem ix_sub (hu : X.A.units + 1 < cLine) : IxR X (rSub X.K) := by
  intro value slice pins st σ H v w u1 u2 Q I r1 r2 h hs
  obtain ⟨G, cs, s, s', x, y, d, ok, rx, ry, e, q⟩ := h
  have pure : ∀ {o : Option D}, M.of o s = some (d, s') → o = some d ∧ s' = s := fun {o} e => by
    cases o with
    | none => cases e
    | some z => cases e; exact ⟨rfl, rfl⟩
  cases x with
  | cel n =>
    cases y with
    | int k =>
      have e : (match s[n]? with
        | some (.lst xs) => (match seqAt xs k with
          | some d => some (d, s)
          | none => none)
        | _ => none) = some (d, s') := e
      cases hn : s[n]? with
      | none => rw [hn] at e; cases e
      | some o =>
        rw [hn] at e
        cases o with
        | dct _ _ => cases e
        | lst ds =>
        have e : (match seqAt ds k with
          | some d => some (d, s)
          | none => none) = some (d, s') := e
        cases hk : seqAt ds k with
        | none => rw [hk] at e; cases e
        | some d' =>
          rw [hk] at e
          cases e
          have rx := rx.proper (fun _ e => by cases e) (fun _ _ e => by cases e)
          cases rx with
          | cel hc =>
            obtain ⟨_, _, hH, ro⟩ := ok.cell n _ _ hc hn
            obtain ⟨xs, rfl, ra⟩ := ro.l
            obtain ⟨_, _, hz⟩ := I.list (.inl (.inl hH))
            obtain ⟨z, hz1, rz⟩ := seqAt_atI ra hz.2 hk
            obtain rfl := ry.int
            exact ix_list value slice pins st σ H _ _ u1 u2 Q I r1 r2 ⟨_, _, _, _, rfl, rfl, .inl (.inl hH), hz1, q.now ok rz⟩ hs
    | _ => cases (show (none : Option (D × S)) = some (d, s') from e)
  | lst ds =>
    obtain ⟨e2, rfl⟩ := pure (o := sub (.lst ds) y) e
    cases y with
    | int k =>
      obtain ⟨a, xs, rfl, hH, ra⟩ := rx.lst ok
      obtain ⟨_, _, hz⟩ := I.list (.inl (.inl hH))
      obtain ⟨z, hz1, rz⟩ := seqAt_atI ra hz.2 e2
      obtain rfl := ry.int
      exact ix_list value slice pins st σ H _ _ u1 u2 Q I r1 r2 ⟨_, _, _, _, rfl, rfl, .inl (.inl hH), hz1, q.now ok rz⟩ hs
    | _ => cases (show (none : Option D) = some d from e2)
  | tup ds =>
    obtain ⟨e2, rfl⟩ := pure (o := sub (.tup ds) y) e
    cases y with
    | int k =>
      obtain ⟨a, xs, rfl, hH, ra⟩ := rx.tup ok
      obtain ⟨_, _, hz⟩ := I.tuple hH
      obtain ⟨z, hz1, rz⟩ := seqAt_atI ra hz.2 e2
      obtain rfl := ry.int
      exact ix_tup value slice pins st σ H _ _ u1 u2 Q I r1 r2 ⟨_, _, _, _, rfl, rfl, hH, hz1, q.now ok rz⟩ hs
    | _ => cases (show (none : Option D) = some d from e2)
  | dct ks vs =>
    obtain ⟨e2, rfl⟩ := pure (o := sub (.dct ks vs) y) e
    have e3 : (if isKey y then dget ks vs y else none) = some d := by cases y <;> exact e2
    split at e3
    · rename_i hk
      obtain ⟨k, rfl⟩ := isKey_of hk
      obtain ⟨a, kvs, rfl, hH, rfl, ra⟩ := rx.dct ok
      unfold dget at e3
      cases hi : keyAt (kD k) (kvs.map fun p => kD p.1) with
      | none => rw [hi] at e3; cases e3
      | some i =>
        rw [hi] at e3
        obtain ⟨z, hz, hz2⟩ := keyAt_get hi
        obtain ⟨z', hz', rz⟩ := ra.get e3
        rw [hz2] at hz'
        cases hz'
        obtain rfl := ry.kD
        exact ix_dct hu value slice pins st σ H _ _ u1 u2 Q I r1 r2 ⟨a, z, rfl, by rw [← hz]; exact .inl ⟨kvs, k, hH, rfl, rfl⟩, q.now ok rz⟩ hs
    · cases e3
  | non => cases y <;> cases (show (none : Option (D × S)) = some (d, s') from e)
  | bl _ => cases y <;> cases (show (none : Option (D × S)) = some (d, s') from e)
  | int _ => cases y <;> cases (show (none : Option (D × S)) = some (d, s') from e)
  | str _ => cases y <;> cases (show (none : Option (D × S)) = some (d, s') from e)
  | scr _ => cases y <;> cases (show (none : Option (D × S)) = some (d, s') from e)
end
end PV
set_option Elab.async false
set_option linter.all false
set_option autoImplicit false
set_option maxRecDepth 100000
set_option maxHeartbeats 4000000
namespace PV
open PySem PySem.Spec L2
open PyProof.Rows hiding St
section
variable {K : PySem.W.Frag} {G G' H H' : Hp} {cs cs' : List Addr} {s s' : S} {b : Bool}
theorem cut_all (xs : List D) (lo hi : Option Int) (h1 : HT.sIx xs.length 0 lo = 0) (h2 : HT.sIx xs.length xs.length hi = xs.length) : cut xs lo hi = xs := by
  unfold cut
  rw [h1, h2, List.drop_zero, Nat.sub_zero, List.take_length]
theorem RepAll.cut {ds : List D} {xs : List V} (ra : RepAll K G cs ds xs) (lo hi : Option Int) : RepAll K G cs (cut ds lo hi) (cutV xs lo hi) := by
  unfold PV.cut cutV
  rw [ra.length]
  exact (ra.drop _).take _
def rSlc (K : PySem.W.Frag) : V → Option Int → Option Int → Hp → VK → Prop := fun v lo hi H Q => ∃ G cs s x d, StOk K G H cs s ∧ RepB K G H cs x v ∧ slc x lo hi = some d ∧ Res K G H cs s d Q
def tyN : Ty → String
  | .int => "int" | .bool => "bool" | .str => "str" | .tuple => "tuple" | .list => "list" | .dict => "dict"
def rIsT (K : PySem.W.Frag) (t : Ty) : List V → Hp → VK → Prop := fun vs H Q => ∃ G cs s x v b, vs = [v, .ty (tyN t)] ∧ StOk K G H cs s ∧ RepB K G H cs x v ∧ isTy t x = some b ∧ Q (.bl b) H
end
section
variable {X : Cx}
theorem sl_slc : SlR X (rSlc X.K) := by
  intro pins st σ H v u vl vu lo hi sl Q I r1 hs pl pu h
  obtain ⟨G, cs, s, x, d, ok, rx, e, q⟩ := h
  cases x with
  | lst ds =>
    cases (show some (D.lst (cut ds lo hi)) = some d from e)
    obtain ⟨a, xs, rfl, hH, ra⟩ := rx.lst ok
    exact sl_list pins st σ H _ u vl vu lo hi sl Q I r1 hs pl pu ⟨a, xs, rfl, .inl (.inl hH), fun p hp => q.lst ok hp (ra.cut lo hi)⟩
  | tup ds =>
    cases (show some (D.tup (cut ds lo hi)) = some d from e)
    have rp := rx.proper (fun _ e => by cases e) (fun _ _ e => by cases e)
    obtain ⟨a, xs, rfl, hH, ra⟩ := rx.tup ok
    refine sl_tupA pins st σ H _ u vl vu lo hi sl Q I r1 hs pl pu ⟨a, xs, rfl, hH, fun h => ?_, fun _ p hp => q.tup ok hp (ra.cut lo hi)⟩
    rw [← ra.length] at h
    rw [cut_all ds lo hi h.1 h.2] at q
    exact q.now ok rp
  | _ => cases (show (none : Option D) = some d from e)
theorem kit1 {K : PySem.W.Frag} {a b : String} {r : Bool} (h : kitB a b = some r) : PySem.W.kitOne K (.type a) (.type b) = some r := kit_ty h
theorem kits : ∀ t : Ty, (kitB "NoneType" (tyN t) = some false) ∧ (kitB "bool" (tyN t) = some (decide (t = .int ∨ t = .bool))) ∧ (kitB "int" (tyN t) = some (decide (t = .int))) ∧ (kitB "str" (tyN t) = some (decide (t = .str))) ∧
    (kitB "tuple" (tyN t) = some (decide (t = .tuple))) ∧ (kitB "list" (tyN t) = some (decide (t = .list))) ∧ (kitB "dict" (tyN t) = some (decide (t = .dict))) := by
  intro t
  cases t <;> decide +kernel
theorem isTy_of {t : Ty} {x : D} {c : Bool} (e : isTy t x = some c) : match x with
    | .non => c = false
    | .bl _ => c = decide (t = .int ∨ t = .bool)
    | .int _ => c = decide (t = .int)
    | .str _ => c = decide (t = .str)
    | .tup _ => c = decide (t = .tuple)
    | .lst _ => c = decide (t = .list)
    | .dct _ _ => c = decide (t = .dict)
    | .cel _ => False
    | .scr _ => False := by
  cases x <;> cases t <;> simp [isTy] at e ⊢ <;> exact e
theorem call_isT (t : Ty) : CallR X (.builtin "isinstance") (rIsT X.K t) := by
  intro pins st σ H vs us Q I r h
  obtain ⟨G, cs, s, x, v, c, rfl, ok, rx, e, q⟩ := h
  obtain ⟨k0, k1, k2, k3, k4, k5, k6⟩ := kits t
  have e2 := isTy_of e
  have fin : ∀ {n : String}, TyX X.K H v (.type n) → kitB n (tyN t) = some c → wpAny (model X.prog X.w) X.A (call (.builtin "isinstance") us) (EP X pins σ Q) X.xe st := fun {n} ty hk =>
    call_isi pins st σ H _ us Q I r ⟨v, .ty (tyN t), .type n, .type (tyN t), c, rfl, .ty _, ty, kit1 hk, q⟩
  cases x with
  | non => obtain rfl := rx.non; exact fin (.base .non) (by rw [k0, e2])
  | bl i => obtain rfl := rx.bl; exact fin (.base (.bl _)) (by rw [k1, e2])
  | int i => obtain rfl := rx.int; exact fin (.base (.int _)) (by rw [k2, e2])
  | str i =>
    have r := rx.proper (fun _ e => by cases e) (fun _ _ e => by cases e)
    cases r
    exact fin (.base (.str _)) (by rw [k3, e2])
  | tup ds =>
    obtain ⟨a, xs, rfl, hH, ra⟩ := rx.tup ok
    rcases hH with (hH | ⟨o, hH⟩) | ⟨o, its, n, hk, hc, _⟩
    · exact fin (.base (.tup hH)) (by rw [k4, e2])
    · exact fin (.fTuple hH) (by rw [k4, e2])
    · exact fin (.kTuple hk hc) (by rw [k4, e2])
  | lst ds =>
    obtain ⟨a, xs, rfl, hH, ra⟩ := rx.lst ok
    exact fin (.base (.lst hH)) (by rw [k5, e2])
  | dct ks vs =>
    obtain ⟨a, kvs, rfl, hH, _⟩ := rx.dct ok
    rcases hH with hH | ⟨o, hH⟩
    · exact fin (.base (.dK hH)) (by rw [k6, e2])
    · exact fin (.fDict hH) (by rw [k6, e2])
  | cel n => exact e2.elim
  | scr n => exact e2.elim
/-! ### dicts -/
theorem dput_ok {kvs : List (Key × V)} {k : Key} {v : V} {vs : List D} {d : D} {K : PySem.W.Frag} {G : Hp} {cs : List Addr} (ra : RepAll K G cs vs (kvs.map Prod.snd)) (r : Rep K G cs d v) :
    (dput (kvs.map fun p => kD p.1) vs (kD k) d).1 = (putK kvs k v).map (fun p => kD p.1) ∧ RepAll K G cs (dput (kvs.map fun p => kD p.1) vs (kD k) d).2 ((putK kvs k v).map Prod.snd) := by
  have e : (kvs.map fun p => kD p.1).any (fun x => eqD x (kD k)) = kvs.any fun kv => decide (kv.1 = k) := by
    rw [List.any_map]
    congr 1
    funext p
    exact eqD_kD
  unfold dput putK
  rw [e]
  by_cases hc : (kvs.any fun kv => decide (kv.1 = k)) = true
  · rw [if_pos hc, if_pos hc]
    refine ⟨?_, ?_⟩
    · rw [List.map_map]
      refine List.map_congr_left fun p _ => ?_
      simp only [Function.comp]
      split <;> rfl
    · clear e hc
      induction kvs generalizing vs with
      | nil => cases ra; exact .nil
      | cons p ps ih =>
        cases ra with
        | cons h t =>
          simp only [List.map_cons, List.zipWith_cons_cons]
          refine .cons ?_ (ih t)
          rw [eqD_kD]
          by_cases hk : p.1 = k
          · rw [if_pos hk, if_pos (decide_eq_true hk)]; exact r
          · rw [if_neg hk, if_neg (by simpa using hk)]; exact h
  · rw [if_neg hc, if_neg hc]
    exact ⟨by simp, by rw [List.map_append]; exact ra.append (.cons r .nil)⟩
/-- pairs of data as the heap's -/
def RepKv (K : PySem.W.Frag) (G : Hp) (cs : List Addr) : List (D × D) → List (Key × V) → Prop := Paired fun p kv => p.1 = kD kv.1 ∧ Rep K G cs p.2 kv.2
theorem dputs_ok {K : PySem.W.Frag} {G : Hp} {cs : List Addr} : ∀ {ps : List (D × D)} {kvs acc : List (Key × V)} {vs : List D}, RepAll K G cs vs (acc.map Prod.snd) → RepKv K G cs ps kvs →
    (dputs ps (acc.map (fun p => kD p.1), vs)).1 = (mergeK acc kvs).map (fun p => kD p.1) ∧ RepAll K G cs (dputs ps (acc.map (fun p => kD p.1), vs)).2 ((mergeK acc kvs).map Prod.snd)
  | [], _, _, _, ra, .nil => ⟨rfl, ra⟩
  | p :: ps, _, acc, vs, ra, .cons (b := kv) h t => by
    obtain ⟨d1, d2⟩ := dput_ok (k := kv.1) ra h.2
    have ih := dputs_ok (acc := putK acc kv.1 kv.2) d2 t
    have e : dputs (p :: ps) (acc.map (fun p => kD p.1), vs) = dputs ps ((putK acc kv.1 kv.2).map (fun p => kD p.1), (dput (acc.map fun p => kD p.1) vs (kD kv.1) p.2).2) := by
      show dputs ps (dput (acc.map fun p => kD p.1) vs p.1 p.2) = _
      rw [h.1, ← d1]
    rw [e]
    exact ih
theorem RepAll.one {K : PySem.W.Frag} {G : Hp} {cs : List Addr} {x y : D} {xs : List V} (r : RepAll K G cs [x, y] xs) : ∃ a b, xs = [a, b] ∧ Rep K G cs x a ∧ Rep K G cs y b := by
  cases r with
  | cons h t => cases t with
    | cons h2 t2 => cases t2; exact ⟨_, _, rfl, h, h2⟩
theorem Rep.kD {K : PySem.W.Frag} {G : Hp} {cs : List Addr} {k : Key} {v : V} (r : Rep K G cs (kD k) v) : v = kV k := by
  cases k <;> cases r <;> rfl
theorem prL_ok {K : PySem.W.Frag} {G H : Hp} {cs : List Addr} {s : S} (ok : StOk K G H cs s) : ∀ {ds : List D} {ps : List (D × D)} {xs : List V}, prL ds = some ps → RepAll K G cs ds xs →
    ∃ (as : List Addr) (kvs : List (Key × V)), xs = as.map V.ref ∧ Paired (fun p kv => SqT K H p [kV kv.1, kv.2]) as kvs ∧ RepKv K G cs ps kvs
  | [], _, _, e, .nil => by cases e; exact ⟨[], [], rfl, .nil, .nil⟩
  | d :: ds, ps, _, e, .cons r rs => by
    unfold prL at e
    split at e
    · rename_i e2
      cases e2
    · rename_i k v ds' e2
      cases e2
      split at e
      · rename_i hk
        obtain ⟨qs, hq, rfl⟩ := Option.map_eq_some_iff.mp e
        obtain ⟨as, kvs, rfl, h1, h2⟩ := prL_ok ok hq rs
        obtain ⟨key, rfl⟩ := isKey_of hk
        cases r with
        | tup hG ra =>
          obtain ⟨a, b, rfl, r1, r2⟩ := ra.one
          obtain rfl := r1.kD
          exact ⟨_ :: as, (key, b) :: kvs, rfl, .cons (sqT_same ok.sub hG) h1, .cons ⟨rfl, r2⟩ h2⟩
      · cases e
    · cases e
theorem call_lenR : CallR X (.builtin "len") (fun xs H Q => ∃ a kvs, xs = [V.ref a] ∧ Rd H a (.dK kvs) ∧ Q (.int kvs.length) H) := by
  intro pins s σ H xs us Q I r h
  obtain ⟨a, kvs, rfl, ha, q⟩ := h
  obtain ⟨u, rfl, ru⟩ := vals1 r
  cases ru
  exact d_len I ha fun t s' I' => ⟨.int kvs.length, H, I', ⟨t, rfl⟩, q⟩
/-! ### built-ins -/
inductive BiK where
  | fn (id : String) | ty (id : String)
def biK : Bi → BiK
  | .len => .fn "len" | .abs => .fn "abs" | .int => .ty "int" | .list => .ty "list" | .tuple => .ty "tuple" | .all => .fn "all" | .any => .fn "any" | .sum => .fn "sum"
  | .max2 => .fn "max" | .min2 => .fn "min" | .sorted => .fn "sorted" | .dict => .ty "dict"
def BiK.v : BiK → Value
  | .fn id => .builtin id
  | .ty id => .type id
def rBi (K : PySem.W.Frag) (f : Bi) : List V → Hp → VK → Prop := fun vs H Q => ∃ G cs s ds d, StOk K G H cs s ∧ RBs true K G H cs ds vs ∧ bi f ds = some d ∧ Res K G H cs s d Q
theorem bi_none1 {f : Bi} {d : D} (h : bi f [] = some d) : False := by cases f <;> cases h
theorem sorted_one {ns ns' : List Int} (p : ns'.Perm ns) (s : ns'.Pairwise (· ≤ ·)) : ns' = ns.mergeSort fun a b => decide (a ≤ b) := by
  have h1 := List.pairwise_mergeSort (le := fun a b : Int => decide (a ≤ b)) (fun a b c h1 h2 => by simp at *; omega) (fun a b => by simp; omega) ns
  have h2 := List.mergeSort_perm ns (fun a b => decide (a ≤ b))
  refine List.Perm.eq_of_pairwise (le := fun a b : Int => a ≤ b) (fun a b _ _ h1 h2 => by omega) s (h1.imp fun h => by simpa using h) (p.trans h2.symm)
theorem call_bi (hcm : X.calm = true) (f : Bi) : CallR X (biK f).v (rBi X.K f) := by
  intro pins st σ H vs us Q I r h
  obtain ⟨G, cs, s, ds, d, ok, rd, e, q⟩ := h
  have one : ∀ {x : D}, ds = [x] → ∃ v, vs = [v] ∧ RepB X.K G H cs x v := fun {x} e => (e ▸ rd).one
  have two : ∀ {x y : D}, ds = [x, y] → ∃ v w, vs = [v, w] ∧ RepB X.K G H cs x v ∧ RepB X.K G H cs y w := fun {x y} e => (e ▸ rd).two
  unfold bi at e
  split at e
  · cases e
    obtain ⟨v, rfl, rx⟩ := one rfl
    obtain ⟨a, xs, rfl, hH, ra⟩ := rx.tup ok
    exact call_len_seq pins st σ H _ us Q I r ⟨a, xs, rfl, .inr hH, by rw [← ra.length]; exact q.now ok (.int _)⟩
  · cases e
    obtain ⟨v, rfl, rx⟩ := one rfl
    obtain ⟨a, xs, rfl, hH, ra⟩ := rx.lst ok
    exact call_len_seq pins st σ H _ us Q I r ⟨a, xs, rfl, .inl (.inl (.inl hH)), by rw [← ra.length]; exact q.now ok (.int _)⟩
  · cases e
    obtain ⟨v, rfl, rx⟩ := one rfl
    obtain ⟨a, kvs, rfl, hH, rfl, ra⟩ := rx.dct ok
    exact call_lenR pins st σ H _ us Q I r ⟨a, kvs, rfl, hH, by have := q.now ok (.int _); simpa using this⟩
  · cases e
    obtain ⟨v, rfl, rx⟩ := one rfl
    obtain rfl := rx.int
    exact call_abs pins st σ H _ us Q I r ⟨_, rfl, q.now ok (.int _)⟩
  · cases e
    obtain ⟨v, rfl, rx⟩ := one rfl
    obtain rfl := rx.int
    exact call_int1 pins st σ H _ us Q I r (.inl ⟨_, rfl, q.now ok (.int _)⟩)
  · cases e
    obtain ⟨v, rfl, rx⟩ := one rfl
    obtain rfl := rx.bl
    exact call_int1 pins st σ H _ us Q I r (.inr ⟨_, rfl, q.now ok (.int _)⟩)
  · cases e
    obtain ⟨v, rfl, rx⟩ := one rfl
    have rx := rx.proper (fun _ e => by cases e) (fun _ _ e => by cases e)
    cases rx with
    | scr hG => exact call_list_of pins st σ H _ us Q I r ⟨_, _, rfl, .inl (sqL_same ok.sub hG), fun p hp => q.lst ok hp (repAll_ints _)⟩
  · cases e
    obtain ⟨v, rfl, rx⟩ := one rfl
    obtain ⟨a, xs, rfl, hH, ra⟩ := rx.tup ok
    exact call_list_of pins st σ H _ us Q I r ⟨a, xs, rfl, .inr hH, fun p hp => q.lst ok hp ra⟩
  · cases e
    obtain ⟨v, rfl, rx⟩ := one rfl
    obtain ⟨a, xs, rfl, hH, ra⟩ := rx.lst ok
    exact call_list_of pins st σ H _ us Q I r ⟨a, xs, rfl, .inl (.inl (.inl hH)), fun p hp => q.lst ok hp ra⟩
  · cases e
    obtain ⟨v, rfl, rx⟩ := one rfl
    have rp := rx.proper (fun _ e => by cases e) (fun _ _ e => by cases e)
    obtain ⟨a, xs, rfl, hH, ra⟩ := rx.tup ok
    exact call_tuple_of pins st σ H _ us Q I r ⟨a, xs, rfl, .inr ⟨hH, q.now ok rp⟩⟩
  · cases e
    obtain ⟨v, rfl, rx⟩ := one rfl
    obtain ⟨a, xs, rfl, hH, ra⟩ := rx.lst ok
    exact call_tuple_of pins st σ H _ us Q I r ⟨a, xs, rfl, .inl ⟨.inl (.inl hH), fun p hp => q.tup ok hp ra⟩⟩
  · obtain ⟨v, rfl, rx⟩ := one rfl
    obtain ⟨a, xs, rfl, hH, ra⟩ := rx.lst ok
    obtain ⟨bs, hb, rfl⟩ := Option.map_eq_some_iff.mp e
    obtain rfl := ra.bls hb
    exact cr_all hcm pins st σ H _ us Q I r ⟨a, bs, rfl, .inl (.inl hH), q.now ok (.bl _)⟩
  · obtain ⟨v, rfl, rx⟩ := one rfl
    obtain ⟨a, xs, rfl, hH, ra⟩ := rx.lst ok
    obtain ⟨bs, hb, rfl⟩ := Option.map_eq_some_iff.mp e
    obtain rfl := ra.bls hb
    exact cr_any hcm pins st σ H _ us Q I r ⟨a, bs, rfl, .inl (.inl hH), q.now ok (.bl _)⟩
  · obtain ⟨v, rfl, rx⟩ := one rfl
    obtain ⟨a, xs, rfl, hH, ra⟩ := rx.lst ok
    obtain ⟨ns, hb, rfl⟩ := Option.map_eq_some_iff.mp e
    obtain rfl := ra.ints hb
    exact cr_sum hcm pins st σ H _ us Q I r ⟨a, ns, rfl, .inl (.inl hH), q.now ok (.int _)⟩
  · cases e
    obtain ⟨v, w, rfl, rx, ry⟩ := two rfl
    obtain rfl := rx.int
    obtain rfl := ry.int
    exact call_max2 hcm pins st σ H _ us Q I r ⟨_, _, rfl, q.now ok (.int _)⟩
  · cases e
    obtain ⟨v, w, rfl, rx, ry⟩ := two rfl
    obtain rfl := rx.int
    obtain rfl := ry.int
    exact call_min2 hcm pins st σ H _ us Q I r ⟨_, _, rfl, q.now ok (.int _)⟩
  · obtain ⟨v, rfl, rx⟩ := one rfl
    obtain ⟨a, xs, rfl, hH, ra⟩ := rx.lst ok
    obtain ⟨ps, hb, rfl⟩ := Option.map_eq_some_iff.mp e
    obtain ⟨as, kvs, rfl, hp, rp⟩ := prL_ok ok hb ra
    obtain ⟨d1, d2⟩ := dputs_ok (acc := []) (vs := []) .nil rp
    have d1 : (dputs ps ([], [])).1 = (mergeK [] kvs).map fun p => kD p.1 := d1
    rw [d1] at q
    exact CallR.lk (call_dictP hcm) pins st σ H _ us Q I r ⟨a, as, kvs, rfl, .inl (.inl hH), hp, fun p hp => LkQ.at q ok hp d2⟩
  · cases e
    obtain ⟨v, rfl, rx⟩ := one rfl
    obtain ⟨a, kvs, rfl, hH, rfl, ra⟩ := rx.dct ok
    exact CallR.lk call_dictD pins st σ H _ us Q I r ⟨a, kvs, rfl, hH, fun p hp => LkQ.at q ok hp ra⟩
  · obtain ⟨v, rfl, rx⟩ := one rfl
    obtain ⟨a, xs, rfl, hH, ra⟩ := rx.lst ok
    obtain ⟨ns, hb, rfl⟩ := Option.map_eq_some_iff.mp e
    obtain rfl := ra.ints hb
    refine cr_sortedI pins st σ H _ us Q I r ⟨a, ns, rfl, .inl (.inl hH), fun ns' p hp hs hn => ?_⟩
    rw [sorted_one hp hs]
    exact q.lst ok hn (repAll_ints _)
  · cases e
end
end PV
set_option Elab.async false
set_option linter.all false
set_option autoImplicit false
set_option maxRecDepth 100000
set_option maxHeartbeats 4000000
namespace PV
open PySem PySem.Spec L2
open PyProof.Rows hiding St
/-- the program's defs (name, how many parameters) and constants -/
structure Pr where
  fns : List (Str × Nat)
  gl : List (Str × D)
def okName (x : Str) : Bool := !(x == ("__debug__" : Str)) && !(x == ("__classdict__" : Str)) && !(x == ("__name__" : Str))
def vis (sc : Scope) (x : Str) : Bool := match sc.names.lookup x with
  | some .local => true
  | some .cell => true
  | some .free => true
  | _ => false
def gim (sc : Scope) (x : Str) : Bool := decide (sc.names.lookup x = some .globalImplicit)
def loc (sc : Scope) (x : Str) : Bool := match sc.names.lookup x with
  | some .local => true
  | some .cell => true
  | _ => false
def noStar : Expr → Bool
  | .Starred .. => false
  | _ => true
def noSlice : Expr → Bool
  | .Slice .. => false
  | _ => true
def noSet : Expr → Bool
  | .Set .. => false
  | _ => true
def biN : Bi → Str
  | .len => "len" | .abs => "abs" | .int => "int" | .list => "list" | .tuple => "tuple" | .all => "all" | .any => "any" | .sum => "sum" | .max2 => "max" | .min2 => "min" | .sorted => "sorted" | .dict => "dict"
def meN : Me → Str × Nat
  | .get1 => ("get", 1) | .get2 => ("get", 2) | .pop => ("pop", 1)
/-- not super() -/
def attrOk : Expr → Bool
  | .Call (.Name _ _) [] [] _ => false
  | _ => true
/-- an expression that is tested by its value -/
def plainT : Expr → Bool
  | .UnaryOp .Not _ _ => false
  | .BoolOp .. => false
  | .IfExp .. => false
  | .Compare .. => false
  | _ => true
def tyS : Ty → Str
  | .int => "int" | .bool => "bool" | .str => "str" | .tuple => "tuple" | .list => "list" | .dict => "dict"
def bltNames : List Str := ["len", "abs", "int", "list", "tuple", "all", "any", "sum", "max", "min", "sorted", "bool", "str", "dict", "isinstance", "range", "zip", "enumerate", "reversed", "divmod", "set", "repr"]
def isI : Const → Option Int
  | .int i => some i
  | _ => none
def isB : Const → Option Bool
  | .bool i => some i
  | _ => none
def isS : Const → Option Str
  | .str i => some i
  | _ => none
def isN : Const → Bool
  | .none => true
  | _ => false
mutual
/-- the slots that a target names -/
def tgOwn (vs : List Nat) : Tg → Bool
  | .name i => vs.contains i
  | .tup ts => tgOwns vs ts
def tgOwns (vs : List Nat) : Tgs → Bool
  | .nil => true
  | .cons t ts => tgOwn vs t && tgOwns vs ts
end
section
variable (p : Pr) (N : List Str)
mutual
def chkE : Nat → Scope → Expr → E → Bool
  | 0, _, _, _ => false
  | n + 1, sc, ast, e => (match e with
    | .lk _ e => plainT ast && chkE n sc ast e
    | _ => false) || chkM n sc ast e
def chkM : Nat → Scope → Expr → E → Bool
  | 0, _, _, _ => false
  | n + 1, sc, ast, e => match ast with
    | .BoolOp op vs pos => (match vs with
      | [] => false
      | [a] => chkE n sc a e
      | a :: c :: r => (match op, e with
        | .And, .and2 x y => chkE n sc a x && chkE n sc (.BoolOp .And (c :: r) pos) y
        | .Or, .or2 x y => chkE n sc a x && chkE n sc (.BoolOp .Or (c :: r) pos) y
        | _, _ => false))
    | .BinOp a o c _ => (match e with
      | .bin op x y => decide (o = opA op) && (chkE n sc a x && chkE n sc c y)
      | _ => false)
    | .UnaryOp o a _ => (match o, e with
      | .USub, .neg x => chkE n sc a x
      | .Not, .nott x => chkE n sc a x
      | _, _ => false)
    | .IfExp c a d _ => (match e with
      | .ifx z x y => chkE n sc c z && (chkE n sc a x && chkE n sc d y)
      | _ => false)
    | .Compare a ops cs _ => (match ops, cs, e with
      | [o], [c], .cmp op x y => decide (o = cA op) && (noSet c && (chkE n sc a x && chkE n sc c y))
      | [o, o'], [c, d], .chain op op' x y z => decide (o = cA op) && (decide (o' = cA op') && (noSet d && (chkE n sc a x && (chkE n sc c y && chkE n sc d z))))
      | _, _, _ => false)
    | .Constant c _ _ => (match e with
      | .int i => decide (isI c = some i)
      | .bl i => decide (isB c = some i)
      | .str i => decide (isS c = some i)
      | .non => isN c
      | _ => false)
    | .Name x _ => (match e with
      | .var i => decide (N[i]? = some x) && (vis sc x && okName x)
      | .bor i => decide (N[i]? = some x) && (vis sc x && okName x)
      | .glob y d => decide (x = y) && (gim sc x && (okName x && p.gl.any fun q => decide (q.1 = x) && sameD q.2 d))
      | _ => false)
    | .Tuple es _ _ => (match e with
      | .tup xs => chkEs n sc es xs
      | _ => false)
    | .List es _ => (match e with
      | .lst xs => chkEs n sc es xs
      | _ => false)
    | .Subscript a i _ => (match i, e with
      | .Slice none none (some (.UnaryOp .USub (.Constant (.int 1) _ _) _)) _, .rev x => chkE n sc a x
      | .Slice lo hi st _, .slice x l h => st.isNone && (chkE n sc a x && (chkP n sc lo l && chkP n sc hi h))
      | i, .idx x y => noSlice i && (chkE n sc a x && chkE n sc i y)
      | _, _ => false)
    | .Call f as ks pos => (match f, ks, e with
      | .Name x _, [], .call k xs => decide ((p.fns[k]?).map Prod.fst = some x) && (gim sc x && (okName x && chkEs n sc as xs))
      | .Name x _, [], .blt b xs => decide (biN b = x) && (gim sc x && (!as.isEmpty && chkEs n sc as xs))
      | .Name x _, [], .isi y t => decide (x = ("isinstance" : Str)) && (gim sc x && (match as with
        | [a, .Name c _] => noStar a && (chkE n sc a y && (decide (c = tyS t) && gim sc c))
        | _ => false))
      | .Attribute o nm pa, [], .meth m x xs => decide (nm = (meN m).1) && (decide (as.length = (meN m).2) && (pa.endLine == pos.line && (attrOk o && (chkE n sc o x && chkEs n sc as xs))))
      | _, _, _ => false)
    | .Dict ks vs _ => (match e with
      | .dct ps => decide (ks.length ≤ 15) && chkPs n sc ks vs ps
      | _ => false)
    | .DictComp ke ve gs scope _ => (match gs, e with
      | [⟨tg, iter, ifs, 0⟩], .dcomp own g it tests x y => blkC N sc scope (own.map fun i => (N[i]?.getD "", i)) && (tgOwn own g && (chkI n sc iter it && (chkT n scope tg g && (chkC n (relS scope sc) ifs tests && (chkE n (relS scope sc) ke x && chkE n (relS scope sc) ve y)))))
      | _, _ => false)
    | .ListComp elt gs scope _ => (match gs, e with
      | [⟨tg, iter, ifs, 0⟩], .comp own g it tests x => blkC N sc scope (own.map fun i => (N[i]?.getD "", i)) && (tgOwn own g && (chkI n sc iter it && (chkT n scope tg g && (chkC n (relS scope sc) ifs tests && chkE n (relS scope sc) elt x))))
      | _, _ => false)
    | _ => false
def chkEs : Nat → Scope → List Expr → Es → Bool
  | 0, _, _, _ => false
  | n + 1, sc, as, xs => match as, xs with
    | [], .nil => true
    | a :: as, .cons x xs => noStar a && (chkE n sc a x && chkEs n sc as xs)
    | _, _ => false
def chkPs : Nat → Scope → List (Option Expr) → List Expr → Ps → Bool
  | 0, _, _, _, _ => false
  | n + 1, sc, ks, vs, ps => match ks, vs, ps with
    | [], [], .nil => true
    | some k :: ks, v :: vs, .cons x y ps => chkE n sc k x && (chkE n sc v y && chkPs n sc ks vs ps)
    | _, _, _ => false
def chkP : Nat → Scope → Option Expr → Pt → Bool
  | 0, _, _, _ => false
  | n + 1, sc, a, x => match a, x with
    | none, .no => true
    | some a, .at x => chkE n sc a x
    | _, _ => false
/-- no test, or one -/
def chkC : Nat → Scope → List Expr → Es → Bool
  | 0, _, _, _ => false
  | n + 1, sc, as, xs => match as, xs with
    | [], .nil => true
    | [a], .cons x .nil => chkE n sc a x
    | _, _ => false
def chkI : Nat → Scope → Expr → It → Bool
  | 0, _, _, _ => false
  | n + 1, sc, a, it => match it with
    | .seq x => noSet a && chkE n sc a x
    | .rng1 x => (match a with
      | .Call (.Name f _) [a] [] _ => decide (f = ("range" : Str)) && (gim sc f && (noStar a && chkE n sc a x))
      | _ => false)
    | .rng2 x y => (match a with
      | .Call (.Name f _) [a, c] [] _ => decide (f = ("range" : Str)) && (gim sc f && (noStar a && (noStar c && (chkE n sc a x && chkE n sc c y))))
      | _ => false)
    | .keys x => noSet a && chkE n sc a x
    | .keysL i => (match a with
      | .Name x _ => decide (N[i]? = some x) && (vis sc x && okName x)
      | _ => false)
    | .rng3 x y z => (match a with
      | .Call (.Name f _) [a, c, d] [] _ => decide (f = ("range" : Str)) && (gim sc f && (noStar a && (noStar c && (noStar d && (chkE n sc a x && (chkE n sc c y && chkE n sc d z))))))
      | _ => false)
def chkT : Nat → Scope → Expr → Tg → Bool
  | 0, _, _, _ => false
  | n + 1, sc, a, t => match a, t with
    | .Name x _, .name i => decide (N[i]? = some x) && loc sc x
    | .Tuple es _ _, .tup ts => chkTs n sc es ts
    | _, _ => false
def chkTs : Nat → Scope → List Expr → Tgs → Bool
  | 0, _, _, _ => false
  | n + 1, sc, as, ts => match as, ts with
    | [], .nil => true
    | a :: as, .cons t ts => noStar a && (chkT n sc a t && chkTs n sc as ts)
    | _, _ => false
end
end
/-! ### readings -/
/-- what is being changed stands where it stood -/
def OwnSame (ρ : Env) (σ : St) (ρ' : Env) (σ' : St) : Prop := ∀ (i : Nat) (sl : Slot), ρ'[i]? = some sl → sl.isOwn = true → ρ[i]? = some sl ∧ σ'[i]? = σ[i]?
section
variable (K : PySem.W.Frag)
def tM (b : Bool) (m : Env → M D) : TE := fun σ H Q => ∃ G cs s ρ d s', StOk K G H cs s ∧ EnvOk K G H cs ρ σ ∧ m ρ s = some (d, s') ∧
  ∀ G' H' cs' v, Go G H cs G' H' cs' → StOk K G' H' cs' s' → RB b K G' H' cs' d v → Q v H'
def tMs (b : Bool) (m : Env → M (List D)) : TA := fun σ H Q => ∃ G cs s ρ d s', StOk K G H cs s ∧ EnvOk K G H cs ρ σ ∧ m ρ s = some (d, s') ∧
  ∀ G' H' cs' v, Go G H cs G' H' cs' → StOk K G' H' cs' s' → RBs b K G' H' cs' d v → Q v H'
def tT (m : Env → M Bool) : TT := fun σ H Q => ∃ G cs s ρ d s', StOk K G H cs s ∧ EnvOk K G H cs ρ σ ∧ m ρ s = some (d, s') ∧
  ∀ G' H' cs', Go G H cs G' H' cs' → StOk K G' H' cs' s' → Q d H'
def tP (m : Env → M (Option Int)) : TO := fun σ H Q => ∃ G cs s ρ d s', StOk K G H cs s ∧ EnvOk K G H cs ρ σ ∧ m ρ s = some (d, s') ∧
  ∀ G' H' cs', Go G H cs G' H' cs' → StOk K G' H' cs' s' → Q d H'
/-- what a walk gives at each turn -/
structure WD (G H0 : Hp) (cs : List Addr) (b : Bool) (J : L2.It) (items : List D) : Prop where
  go : ∀ i H, i < items.length → (if b = true then (∀ a o, a ∉ cs → H0 a = some o → H a = some o) else Same G H) → J.go i H
  stop : ∀ H, (if b = true then (∀ a o, a ∉ cs → H0 a = some o → H a = some o) else Same G H) → J.stop items.length H
  yld : ∀ i H x H', i < items.length → (if b = true then (∀ a o, a ∉ cs → H0 a = some o → H a = some o) else Same G H) → J.yld i H x H' →
    ∃ d, items[i]? = some d ∧ ((H' = H ∧ Rep K G cs d x) ∨ ∃ T xs ds, x = .ref T ∧ H T = none ∧ H' = upd H T (.tup xs) ∧ d = .tup ds ∧ RepAll K G cs ds xs)
def tI (b : Bool) (m : Env → M (List D)) : TI := fun σ H R => ∃ G cs s ρ items s', StOk K G H cs s ∧ EnvOk K G H cs ρ σ ∧ m ρ s = some (items, s') ∧
  ∀ G' H' cs' J, Go G H cs G' H' cs' → StOk K G' H' cs' s' → WD K G' H' cs' b J items → R J H'
def tG (g : Tg) : TG := fun v σ H Q => ∃ G cs s ρ d ρ', StOk K G H cs s ∧ EnvOk K G H cs ρ σ ∧ Rep K G cs d v ∧ bind g d ρ = some ρ' ∧ ∀ σ', EnvOk K G H cs ρ' σ' → (∀ vs, tgOwn vs g = true → wipe σ' vs = wipe σ vs) → OwnSame ρ σ ρ' σ' → Q σ' H
def tGs (g : Tgs) : TGs := fun us σ H Q => ∃ G cs s ρ ds ρ', StOk K G H cs s ∧ EnvOk K G H cs ρ σ ∧ RepAll K G cs ds us ∧ binds g ds ρ = some ρ' ∧ ∀ σ', EnvOk K G H cs ρ' σ' → (∀ vs, tgOwns vs g = true → wipe σ' vs = wipe σ vs) → OwnSame ρ σ ρ' σ' → Q σ' H
/-- a def's promise -/
def spM (np : Nat) (m : List D → M D) : Sp := fun vs H Q _ => ∃ G cs s ds d s', StOk K G H cs s ∧ RepAll K G cs ds vs ∧ ds.length = np ∧ m ds s = some (d, s') ∧ Res K G H cs s' d Q
end
/-- a call's facts -/
structure CallOk (X : Cx) (n : Nat) (x : Str) (np : Nat) (m : List D → M D) : Prop where
  ex : ∃ (f : Addr) (fd : FuncData) (ps : List Str), ps.length = np ∧ FnOk X.prog X.w X.K X.mg X.base CX0 n f fd ps (spM X.K np m) ∧ X.mg x = some (.ref f) ∧ PySem.W.keepIn X.K (.ref f) = true ∧ Binds X.K fd ps []
structure XOk (p : Pr) (N : List Str) (call : Nat → List D → M D) (n : Nat) (sc : Scope) (X : Cx) : Prop where
  nN : X.N = N
  nd : N.Nodup
  calm : X.calm = true
  room : Room n X.A
  sc : X.env.scope = sc
  free : ∀ x ∈ bltNames, X.mg x = none
  glob : ∀ q ∈ p.gl, ∃ u v, X.mg q.1 = some u ∧ RelV v u ∧ ∀ G cs, Rep X.K G cs q.2 v
  fns : ∀ (i : Nat) (q : Str × Nat), p.fns[i]? = some q → CallOk X n q.1 q.2 (call i)
end PV
set_option Elab.async false
set_option linter.all false
set_option autoImplicit false
set_option maxRecDepth 100000
set_option maxHeartbeats 4000000
namespace PV
open PySem PySem.Spec L2
open PyProof.Rows hiding St
section
variable {X : Cx} {K : PySem.W.Frag}
theorem PE.cq {e : Expr} {t t' : TE} (h : PE X e t) (c : ∀ σ H Q, t' σ H Q → t σ H Q) : PE X e t' := ⟨fun pins s σ H Q I hw => h.run pins s σ H Q I (c σ H Q hw)⟩
theorem PT.cq {e : Expr} {t t' : TT} (h : PT X e t) (c : ∀ σ H Q, t' σ H Q → t σ H Q) : PT X e t' := ⟨fun pins s σ H Q I hw => h.run pins s σ H Q I (c σ H Q hw)⟩
theorem PW.cq {e : Expr} {t t' : TT} (h : PW X e t) (c : ∀ σ H Q, t' σ H Q → t σ H Q) : PW X e t' := ⟨fun wh pins s σ H Q I hw => h.run wh pins s σ H Q I (c σ H Q hw)⟩
theorem PA.cq {e : List Expr} {t t' : TA} (h : PA X e t) (c : ∀ σ H Q, t' σ H Q → t σ H Q) : PA X e t' := ⟨fun pos pins s σ H Q I hw => h.run pos pins s σ H Q I (c σ H Q hw)⟩
theorem PO.cq {e : Option Expr} {t t' : TO} (h : PO X e t) (c : ∀ σ H Q, t' σ H Q → t σ H Q) : PO X e t' := ⟨fun pins s σ H Q I hw => h.run pins s σ H Q I (c σ H Q hw)⟩
theorem pt_ifx {c a b : Expr} {pos : Pos} {tc ta tb : TT} (hc : PT X c tc) (ha : PT X a ta) (hb : PT X b tb) : PT X (.IfExp c a b pos) (fun σ H Q => tc σ H fun k H1 => if k = true then ta σ H1 Q else tb σ H1 Q) := by
  refine ⟨fun pins s σ H Q I h => ?_⟩
  show wpAny _ _ (do if ← isTrue c X.env (eval c X.env) then isTrue a X.env (eval a X.env) else isTrue b X.env (eval b X.env)) _ _ _
  refine wpAny_bind (thn (hc.run pins s σ H _ I h) fun d s1 ⟨H1, I1, q1⟩ => ?_)
  cases d with
  | true => exact ha.run pins s1 σ H1 Q I1 q1
  | false => exact hb.run pins s1 σ H1 Q I1 q1
theorem star_ok {e : Expr} {es : List Expr} {env : PySem.Env} (h : noStar e = true) : starEach (e :: es) env = (false, eval e env) :: starEach es env := by
  cases e <;> first | rfl | cases h
theorem slice_ok {b : Expr} (h : noSlice b = true) : PlainIx b := by
  intro o i
  cases b <;> first | rfl | cases h
theorem set_ok {b : Expr} {op : CmpOp} (h : noSet b = true) : behindInMarks op b = false := by
  cases b <;> first | rfl | cases h
theorem setI_ok {e : Expr} (h : noSet e = true) (env : PySem.Env) (x : Value) : foldedSetIterable e env x = pure x := by
  cases e <;> first | rfl | cases h
theorem chain_ok {op op' : CmpOp} {b c : Expr} (h : noSet c = true) : lastMarks [op, op'] [b, c] = false := set_ok h
/-- no star among them -/
def noStars : List Expr → Bool
  | [] => true
  | e :: es => noStar e && noStars es
theorem anyStar {env : PySem.Env} {pos : Pos} : ∀ {es : List Expr}, noStars es = true → (backTo pos (starEach es env)).any (·.1) = false
  | [], _ => rfl
  | e :: es, h => by
    obtain ⟨h1, h2⟩ := Bool.and_eq_true_iff.mp (show (noStar e && noStars es) = true from h)
    rw [star_ok h1]
    cases es with
    | nil => rfl
    | cons e' es' =>
      have ih := anyStar (env := env) (pos := pos) h2
      exact ih
theorem plainT_ok {e : Expr} {env : PySem.Env} (h : plainT e = true) : ∀ whole, isTrue e env whole = (do let v ← whole; standAt e.pos; holding [v] (truthy v)) := by
  intro whole
  cases e with
  | UnaryOp o a p => cases o <;> first | rfl | cases h
  | _ => first | rfl | cases h
theorem vis_ok {sc : Scope} {x : Str} (h : vis sc x = true) : Vis sc x := by
  unfold vis at h
  split at h
  · exact .inl (by assumption)
  · exact .inr (.inl (by assumption))
  · exact .inr (.inr (by assumption))
  · cases h
theorem loc_ok {sc : Scope} {x : Str} (h : loc sc x = true) : Loc sc x := by
  unfold loc at h
  split at h
  · exact .inl (by assumption)
  · exact .inr (by assumption)
  · cases h
theorem okName_ok {x : Str} (h : okName x = true) : (x == ("__debug__" : Str)) = false ∧ (x == ("__classdict__" : Str)) = false ∧ x ≠ "__name__" := by
  unfold okName at h
  simp only [Bool.and_eq_true, Bool.not_eq_true'] at h
  exact ⟨h.1.1, h.1.2, fun e => by rw [e] at h; simp at h⟩
end
section
variable {p : Pr} {N : List Str} {call : Nat → List D → M D} {X : Cx} {lv : Nat} {sc : Scope}
/-- evaluated -/
abbrev tE (call : Nat → List D → M D) (X : Cx) (e : E) (b : Bool) : TE := tM X.K b (ev call e b)
/-- tested -/
def evT (call : Nat → List D → M D) (e : E) : Env → M Bool := fun ρ => M.bind (ev call e true ρ) fun x => M.of (tru x)
abbrev tTE (call : Nat → List D → M D) (X : Cx) (e : E) : TT := tT X.K (evT call e)
theorem pt_of {e : Expr} {x : E} (h : PE X e (tE call X x true)) (hp : plainT e = true) : PT X e (tTE call X x) := by
  refine PT.cq (pt_truth h (plainT_ok hp)) fun σ H Q hq => ?_
  obtain ⟨G, cs, s, ρ, d, s', ok, en, m, k⟩ := hq
  obtain ⟨x1, s1, m1, m⟩ := M.bind_some m
  obtain ⟨e3, rfl⟩ := M.of_some m
  exact ⟨G, cs, s, ρ, x1, s1, ok, en, m1, fun G' H' cs' v go ok' r => ⟨d, tru_ok' ok' e3 r.B, k G' H' cs' go ok'⟩⟩
/-- what is known of an expression -/
structure Sd (call : Nat → List D → M D) (X : Cx) (a : Expr) (e : E) : Prop where
  pe : ∀ b, PE X a (tE call X e b)
  pt : PT X a (tTE call X e)
  pw : ∀ op vs pos, a = .BoolOp op vs pos → PW X a (tTE call X e)
theorem Sd.plain {a : Expr} {e : E} (h : ∀ b, PE X a (tE call X e b)) (hp : plainT a = true) : Sd call X a e := ⟨h, pt_of (h true) hp, fun op vs pos q => by subst q; cases hp⟩
/-- a value that asks nothing -/
theorem Sd.const {a : Expr} {e : E} {d : D} {v : V} (hv : ∀ b ρ, ev call e b ρ = M.pure d) (h : PE X a (tC v)) (r : ∀ G cs, Rep X.K G cs d v) (hp : plainT a = true) : Sd call X a e := by
  refine .plain (fun b => PE.cq h fun σ H Q hq => ?_) hp
  obtain ⟨G, cs, s, ρ, d', s', ok, en, m, k⟩ := hq
  rw [hv] at m
  obtain ⟨rfl, rfl⟩ := M.pure_some m
  exact k G H cs v .refl ok (.of (r G cs))
theorem sd_bin {op : BOp} {a c : Expr} {x y : E} {pos : Pos} (ha : Sd call X a x) (hc : Sd call X c y) : Sd call X (.BinOp a (opA op) c pos) (.bin op x y) := by
  refine .plain (fun b => PE.cq (pe_op (op_bop op) (ha.pe true) (hc.pe true)) fun σ H Q hq => ?_) rfl
  obtain ⟨G, cs, s, ρ, d, s', ok, en, m, k⟩ := hq
  obtain ⟨x1, s1, m1, m⟩ := M.bind_some m
  obtain ⟨x2, s2, m2, m⟩ := M.bind_some m
  obtain ⟨e3, rfl⟩ := M.of_some m
  refine ⟨G, cs, s, ρ, x1, s1, ok, en, m1, fun G1 H1 c1 v1 go1 ok1 r1 => ⟨G1, c1, s1, ρ, x2, s2, ok1, en.go ok go1, m2, fun G2 H2 c2 v2 go2 ok2 r2 => ?_⟩⟩
  exact ⟨G2, c2, s2, x1, x2, d, ok2, r1.B.go go2, r2.B, e3, fun G3 H3 c3 v go3 ok3 r => k G3 H3 c3 v ((go1.trans ok1 ok go2).trans ok2 ok go3) ok3 (.of r)⟩
theorem sd_neg {a : Expr} {x : E} {pos : Pos} (ha : Sd call X a x) : Sd call X (.UnaryOp .USub a pos) (.neg x) := by
  refine .plain (fun b => PE.cq (pe_un un_neg (ha.pe false)) fun σ H Q hq => ?_) rfl
  obtain ⟨G, cs, s, ρ, d, s', ok, en, m, k⟩ := hq
  obtain ⟨x1, s1, m1, m⟩ := M.bind_some m
  refine ⟨G, cs, s, ρ, x1, s1, ok, en, m1, fun G1 H1 c1 v1 go1 ok1 r1 => ?_⟩
  cases x1 with
  | int i =>
    obtain rfl := r1.B.int
    obtain ⟨rfl, rfl⟩ := M.pure_some m
    exact ⟨i, rfl, k G1 H1 c1 _ go1 ok1 (.of (.int _))⟩
  | _ => cases m
theorem sd_not {a : Expr} {x : E} {pos : Pos} (ha : Sd call X a x) : Sd call X (.UnaryOp .Not a pos) (.nott x) := by
  refine ⟨fun b => PE.cq (pe_notT (ha.pe true)) fun σ H Q hq => ?_, PT.cq (pt_not ha.pt) fun σ H Q hq => ?_, fun op vs pos q => by cases q⟩
  · obtain ⟨G, cs, s, ρ, d, s', ok, en, m, k⟩ := hq
    obtain ⟨x1, s1, m1, m⟩ := M.bind_some m
    obtain ⟨t, s2, m2, m⟩ := M.bind_some m
    obtain ⟨e3, rfl⟩ := M.of_some m2
    obtain ⟨rfl, rfl⟩ := M.pure_some m
    exact ⟨G, cs, s, ρ, x1, _, ok, en, m1, fun G1 H1 c1 v1 go1 ok1 r1 => ⟨t, tru_ok' ok1 e3 r1.B, k G1 H1 c1 _ go1 ok1 (.of (.bl _))⟩⟩
  · obtain ⟨G, cs, s, ρ, d, s', ok, en, m, k⟩ := hq
    obtain ⟨x1, s1, m1, m⟩ := M.bind_some m
    obtain ⟨x2, s2, m2, m1⟩ := M.bind_some m1
    obtain ⟨t, s3, m3, m4⟩ := M.bind_some m1
    obtain ⟨rfl, rfl⟩ := M.pure_some m4
    obtain ⟨e5, rfl⟩ := M.of_some m
    obtain rfl : (!t) = d := Option.some.inj e5
    exact ⟨G, cs, s, ρ, t, _, ok, en, by unfold evT M.bind; rw [m2]; exact m3, fun G1 H1 c1 go1 ok1 => k G1 H1 c1 go1 ok1⟩
theorem sd_cmp (hr : Room lv X.A) {op : COp} {a c : Expr} {x y : E} {pos : Pos} (hs : noSet c = true) (ha : Sd call X a x) (hc : Sd call X c y) : Sd call X (.Compare a [cA op] [c] pos) (.cmp op x y) := by
  have hu : X.A.units + 66 < cLine := by have := hr.un; omega
  refine ⟨fun b => PE.cq (pe_cmpR (op_cop hu op) (ha.pe true) (hc.pe true) (set_ok hs)) fun σ H Q hq => ?_, PT.cq (pt_cmpR (op_cop hu op) (ha.pe true) (hc.pe true) (set_ok hs)) fun σ H Q hq => ?_, fun op vs pos q => by cases q⟩
  · obtain ⟨G, cs, s, ρ, d, s', ok, en, m, k⟩ := hq
    obtain ⟨x1, s1, m1, m⟩ := M.bind_some m
    obtain ⟨x2, s2, m2, m⟩ := M.bind_some m
    obtain ⟨t, s3, m3, m⟩ := M.bind_some m
    obtain ⟨e4, rfl⟩ := M.of_some m3
    obtain ⟨rfl, rfl⟩ := M.pure_some m
    refine ⟨G, cs, s, ρ, x1, s1, ok, en, m1, fun G1 H1 c1 v1 go1 ok1 r1 => ⟨G1, c1, s1, ρ, x2, _, ok1, en.go ok go1, m2, fun G2 H2 c2 v2 go2 ok2 r2 => ?_⟩⟩
    exact ⟨G2, c2, _, x1, x2, t, ok2, r1.B.go go2, r2.B, e4, k G2 H2 c2 _ (go1.trans ok1 ok go2) ok2 (.of (.bl _))⟩
  · obtain ⟨G, cs, s, ρ, d, s', ok, en, m, k⟩ := hq
    obtain ⟨z, s0, m0, m⟩ := M.bind_some m
    obtain ⟨x1, s1, m1, m0⟩ := M.bind_some m0
    obtain ⟨x2, s2, m2, m0⟩ := M.bind_some m0
    obtain ⟨t, s3, m3, m0⟩ := M.bind_some m0
    obtain ⟨e4, rfl⟩ := M.of_some m3
    obtain ⟨rfl, rfl⟩ := M.pure_some m0
    obtain ⟨e6, rfl⟩ := M.of_some m
    obtain rfl : t = d := Option.some.inj e6
    refine ⟨G, cs, s, ρ, x1, s1, ok, en, m1, fun G1 H1 c1 v1 go1 ok1 r1 => ⟨G1, c1, s1, ρ, x2, _, ok1, en.go ok go1, m2, fun G2 H2 c2 v2 go2 ok2 r2 => ?_⟩⟩
    exact ⟨G2, c2, _, x1, x2, t, ok2, r1.B.go go2, r2.B, e4, t, rfl, k G2 H2 c2 (go1.trans ok1 ok go2) ok2⟩
theorem sd_chain (hr : Room lv X.A) {op op' : COp} {a b c : Expr} {x y z : E} {pos : Pos} (hs : noSet c = true) (ha : Sd call X a x) (hb : Sd call X b y) (hc : Sd call X c z) :
    Sd call X (.Compare a [cA op, cA op'] [b, c] pos) (.chain op op' x y z) := by
  have hu : X.A.units + 66 < cLine := by have := hr.un; omega
  have go_ : ∀ {σ : St} {H : Hp} {Q : VK} (bb : Bool), tM X.K bb (ev call (.chain op op' x y z) bb) σ H Q → tChain (rCop X.K op) (rCop X.K op') (tE call X x true) (tE call X y true) (tE call X z true) σ H Q := fun {σ H Q} bb hq => by
    obtain ⟨G, cs, s, ρ, d, s', ok, en, m, k⟩ := hq
    obtain ⟨x1, s1, m1, m⟩ := M.bind_some m
    obtain ⟨x2, s2, m2, m⟩ := M.bind_some m
    obtain ⟨t, s3, m3, m⟩ := M.bind_some m
    obtain ⟨e4, rfl⟩ := M.of_some m3
    refine ⟨G, cs, s, ρ, x1, s1, ok, en, m1, fun G1 H1 c1 v1 go1 ok1 r1 => ⟨G1, c1, s1, ρ, x2, _, ok1, en.go ok go1, m2, fun G2 H2 c2 v2 go2 ok2 r2 => ?_⟩⟩
    refine ⟨G2, c2, _, x1, x2, t, ok2, r1.B.go go2, r2.B, e4, t, rfl, ?_⟩
    have go12 := go1.trans ok1 ok go2
    cases t with
    | false =>
      simp only [Bool.false_eq_true, if_false] at m ⊢
      obtain ⟨rfl, rfl⟩ := M.pure_some m
      exact k G2 H2 c2 _ go12 ok2 (.of (.bl _))
    | true =>
      simp only [if_true] at m ⊢
      obtain ⟨x3, s4, m4, m⟩ := M.bind_some m
      obtain ⟨t', s5, m5, m⟩ := M.bind_some m
      obtain ⟨e6, rfl⟩ := M.of_some m5
      obtain ⟨rfl, rfl⟩ := M.pure_some m
      exact ⟨G2, c2, _, ρ, x3, _, ok2, (en.go ok go12), m4, fun G3 H3 c3 v3 go3 ok3 r3 => ⟨G3, c3, _, x2, x3, t', ok3, r2.B.go go3, r3.B, e6, k G3 H3 c3 _ (go12.trans ok2 ok go3) ok3 (.of (.bl _))⟩⟩
  refine ⟨fun bb => PE.cq (pe_chain (op_cop hu op) (op_cop hu op') (ha.pe true) (hb.pe true) (hc.pe true) (chain_ok hs)) fun σ H Q hq => go_ bb hq, PT.cq (pt_chain (op_cop hu op) (op_cop hu op') (ha.pe true) (hb.pe true) (hc.pe true) (chain_ok hs)) fun σ H Q hq => ?_, fun op vs pos q => by cases q⟩
  obtain ⟨G, cs, s, ρ, d, s', ok, en, m, k⟩ := hq
  obtain ⟨w, s0, m0, m⟩ := M.bind_some m
  obtain ⟨e6, rfl⟩ := M.of_some m
  refine go_ true ⟨G, cs, s, ρ, w, _, ok, en, m0, fun G1 H1 c1 v go1 ok1 r => ?_⟩
  have hw : ∃ t, w = .bl t := by
    obtain ⟨x1, s1, m1, m0⟩ := M.bind_some m0
    obtain ⟨x2, s2, m2, m0⟩ := M.bind_some m0
    obtain ⟨t, s3, m3, m0⟩ := M.bind_some m0
    cases t with
    | false => exact ⟨_, (M.pure_some m0).1.symm⟩
    | true =>
      obtain ⟨x3, s4, m4, m0⟩ := M.bind_some m0
      obtain ⟨t', s5, m5, m0⟩ := M.bind_some m0
      exact ⟨_, (M.pure_some m0).1.symm⟩
  obtain ⟨t, rfl⟩ := hw
  obtain rfl := r.B.bl
  cases e6
  exact ⟨_, rfl, k G1 H1 c1 go1 ok1⟩
theorem sd_one {op : BoolOp} {a : Expr} {x : E} {pos : Pos} (ha : Sd call X a x) : Sd call X (.BoolOp op [a] pos) x := by
  refine ⟨fun b => pe_one (ha.pe b), ?_, fun op' vs' pos' q => ?_⟩
  · cases op with
    | And => exact (pw_and1 ha.pt).pt
    | Or => exact (pw_or1 ha.pt).pt
  · cases op with
    | And => exact pw_and1 ha.pt
    | Or => exact pw_or1 ha.pt
theorem ev_up {e : E} {b : Bool} {ρ : Env} {s : S} {r : D × S} (h : ev call e b ρ s = some r) : ev call e true ρ s = some r := by
  cases e with
  | bor i =>
    cases b with
    | true => exact h
    | false => cases h
  | _ => exact h
theorem sd_and {a c : Expr} {r : List Expr} {x y : E} {pos : Pos} (ha : Sd call X a x) (hc : Sd call X (.BoolOp .And (c :: r) pos) y) : Sd call X (.BoolOp .And (a :: c :: r) pos) (.and2 x y) := by
  have w : PW X (.BoolOp .And (a :: c :: r) pos) (tTE call X (.and2 x y)) := by
    refine PW.cq (pw_and ha.pt (hc.pw _ _ _ rfl)) fun σ H Q hq => ?_
    obtain ⟨G, cs, s, ρ, d, s', ok, en, m, k⟩ := hq
    obtain ⟨z, s0, m0, m⟩ := M.bind_some m
    obtain ⟨e1, rfl⟩ := M.of_some m
    obtain ⟨x1, s1, m1, m0⟩ := M.bind_some m0
    obtain ⟨t, s2, m2, m0⟩ := M.bind_some m0
    obtain ⟨e2, rfl⟩ := M.of_some m2
    refine ⟨G, cs, s, ρ, t, _, ok, en, by unfold evT M.bind; rw [ev_up m1]; exact m2, fun G1 H1 c1 go1 ok1 => ?_⟩
    cases t with
    | true =>
      simp only [if_true] at m0 ⊢
      exact ⟨G1, c1, _, ρ, d, _, ok1, en.go ok go1, by unfold evT M.bind; rw [ev_up m0]; show M.of (tru z) _ = _; rw [e1]; rfl, fun G2 H2 c2 go2 ok2 => k G2 H2 c2 (go1.trans ok1 ok go2) ok2⟩
    | false =>
      simp only [Bool.false_eq_true, if_false] at m0 ⊢
      obtain ⟨rfl, rfl⟩ := M.pure_some m0
      rw [e2] at e1
      cases e1
      exact k G1 H1 c1 go1 ok1
  refine ⟨fun b => PE.cq (pe_andT (ha.pe false) (hc.pe false)) fun σ H Q hq => ?_, w.pt, fun op vs p' q => by cases q; exact w⟩
  obtain ⟨G, cs, s, ρ, d, s', ok, en, m, k⟩ := hq
  obtain ⟨x1, s1, m1, m⟩ := M.bind_some m
  obtain ⟨t, s2, m2, m⟩ := M.bind_some m
  obtain ⟨e2, rfl⟩ := M.of_some m2
  refine ⟨G, cs, s, ρ, x1, _, ok, en, m1, fun G1 H1 c1 v1 go1 ok1 r1 => ⟨t, tru_ok' ok1 e2 r1.B, ?_⟩⟩
  cases t with
  | true =>
    simp only [if_true] at m ⊢
    exact ⟨G1, c1, _, ρ, d, _, ok1, en.go ok go1, m, fun G2 H2 c2 v2 go2 ok2 r2 => k G2 H2 c2 v2 (go1.trans ok1 ok go2) ok2 (.of r2)⟩
  | false =>
    simp only [Bool.false_eq_true, if_false] at m ⊢
    obtain ⟨rfl, rfl⟩ := M.pure_some m
    exact k G1 H1 c1 v1 go1 ok1 (.of r1)
theorem sd_or {a c : Expr} {r : List Expr} {x y : E} {pos : Pos} (ha : Sd call X a x) (hc : Sd call X (.BoolOp .Or (c :: r) pos) y) : Sd call X (.BoolOp .Or (a :: c :: r) pos) (.or2 x y) := by
  have w : PW X (.BoolOp .Or (a :: c :: r) pos) (tTE call X (.or2 x y)) := by
    refine PW.cq (pw_or ha.pt (hc.pw _ _ _ rfl)) fun σ H Q hq => ?_
    obtain ⟨G, cs, s, ρ, d, s', ok, en, m, k⟩ := hq
    obtain ⟨z, s0, m0, m⟩ := M.bind_some m
    obtain ⟨e1, rfl⟩ := M.of_some m
    obtain ⟨x1, s1, m1, m0⟩ := M.bind_some m0
    obtain ⟨t, s2, m2, m0⟩ := M.bind_some m0
    obtain ⟨e2, rfl⟩ := M.of_some m2
    refine ⟨G, cs, s, ρ, t, _, ok, en, by unfold evT M.bind; rw [ev_up m1]; exact m2, fun G1 H1 c1 go1 ok1 => ?_⟩
    cases t with
    | false =>
      simp only [Bool.false_eq_true, if_false] at m0 ⊢
      exact ⟨G1, c1, _, ρ, d, _, ok1, en.go ok go1, by unfold evT M.bind; rw [ev_up m0]; show M.of (tru z) _ = _; rw [e1]; rfl, fun G2 H2 c2 go2 ok2 => k G2 H2 c2 (go1.trans ok1 ok go2) ok2⟩
    | true =>
      simp only [if_true] at m0 ⊢
      obtain ⟨rfl, rfl⟩ := M.pure_some m0
      rw [e2] at e1
      cases e1
      exact k G1 H1 c1 go1 ok1
  refine ⟨fun b => PE.cq (pe_orT (ha.pe false) (hc.pe false)) fun σ H Q hq => ?_, w.pt, fun op vs p' q => by cases q; exact w⟩
  obtain ⟨G, cs, s, ρ, d, s', ok, en, m, k⟩ := hq
  obtain ⟨x1, s1, m1, m⟩ := M.bind_some m
  obtain ⟨t, s2, m2, m⟩ := M.bind_some m
  obtain ⟨e2, rfl⟩ := M.of_some m2
  refine ⟨G, cs, s, ρ, x1, _, ok, en, m1, fun G1 H1 c1 v1 go1 ok1 r1 => ⟨t, tru_ok' ok1 e2 r1.B, ?_⟩⟩
  cases t with
  | false =>
    simp only [Bool.false_eq_true, if_false] at m ⊢
    exact ⟨G1, c1, _, ρ, d, _, ok1, en.go ok go1, m, fun G2 H2 c2 v2 go2 ok2 r2 => k G2 H2 c2 v2 (go1.trans ok1 ok go2) ok2 (.of r2)⟩
  | true =>
    simp only [if_true] at m ⊢
    obtain ⟨rfl, rfl⟩ := M.pure_some m
    exact k G1 H1 c1 v1 go1 ok1 (.of r1)
theorem sd_ifx {c a b : Expr} {z x y : E} {pos : Pos} (hc : Sd call X c z) (ha : Sd call X a x) (hb : Sd call X b y) : Sd call X (.IfExp c a b pos) (.ifx z x y) := by
  refine ⟨fun bb => PE.cq (pe_ifExp hc.pt (ha.pe false) (hb.pe false)) fun σ H Q hq => ?_, PT.cq (pt_ifx hc.pt ha.pt hb.pt) fun σ H Q hq => ?_, fun op vs p' q => by cases q⟩
  · obtain ⟨G, cs, s, ρ, d, s', ok, en, m, k⟩ := hq
    obtain ⟨x1, s1, m1, m⟩ := M.bind_some m
    obtain ⟨t, s2, m2, m⟩ := M.bind_some m
    refine ⟨G, cs, s, ρ, t, _, ok, en, by unfold evT M.bind; rw [m1]; exact m2, fun G1 H1 c1 go1 ok1 => ?_⟩
    cases t with
    | true =>
      simp only [if_true] at m ⊢
      exact ⟨G1, c1, _, ρ, d, _, ok1, en.go ok go1, m, fun G2 H2 c2 v2 go2 ok2 r2 => k G2 H2 c2 v2 (go1.trans ok1 ok go2) ok2 (.of r2)⟩
    | false =>
      simp only [Bool.false_eq_true, if_false] at m ⊢
      exact ⟨G1, c1, _, ρ, d, _, ok1, en.go ok go1, m, fun G2 H2 c2 v2 go2 ok2 r2 => k G2 H2 c2 v2 (go1.trans ok1 ok go2) ok2 (.of r2)⟩
  · obtain ⟨G, cs, s, ρ, d, s', ok, en, m, k⟩ := hq
    obtain ⟨w, s0, m0, m⟩ := M.bind_some m
    obtain ⟨e6, rfl⟩ := M.of_some m
    obtain ⟨x1, s1, m1, m0⟩ := M.bind_some m0
    obtain ⟨t, s2, m2, m0⟩ := M.bind_some m0
    refine ⟨G, cs, s, ρ, t, _, ok, en, by unfold evT M.bind; rw [m1]; exact m2, fun G1 H1 c1 go1 ok1 => ?_⟩
    cases t with
    | true =>
      simp only [if_true] at m0 ⊢
      exact ⟨G1, c1, _, ρ, d, _, ok1, en.go ok go1, by unfold evT M.bind; rw [ev_up m0]; show M.of (tru w) _ = _; rw [e6]; rfl, fun G2 H2 c2 go2 ok2 => k G2 H2 c2 (go1.trans ok1 ok go2) ok2⟩
    | false =>
      simp only [Bool.false_eq_true, if_false] at m0 ⊢
      exact ⟨G1, c1, _, ρ, d, _, ok1, en.go ok go1, by unfold evT M.bind; rw [ev_up m0]; show M.of (tru w) _ = _; rw [e6]; rfl, fun G2 H2 c2 go2 ok2 => k G2 H2 c2 (go1.trans ok1 ok go2) ok2⟩
end
end PV
set_option Elab.async false
set_option linter.all false
set_option autoImplicit false
set_option maxRecDepth 100000
set_option maxHeartbeats 4000000
namespace PV
open PySem PySem.Spec L2
open PyProof.Rows hiding St
section
variable {p : Pr} {N : List Str} {call : Nat → List D → M D} {X : Cx} {lv : Nat} {sc : Scope}
theorem sd_var {i : Nat} {x : Str} {pos : Pos} (hN : X.N[i]? = some x) (hv : Vis X.env.scope x) (h1 : (x == ("__debug__" : Str)) = false) (h2 : (x == ("__classdict__" : Str)) = false) : Sd call X (.Name x pos) (.var i) := by
  refine .plain (fun b => PE.cq (pe_var hN hv h1 h2) fun σ H Q hq => ?_) rfl
  obtain ⟨G, cs, s, ρ, d, s', ok, en, m, k⟩ := hq
  obtain ⟨e, rfl⟩ := M.of_some m
  obtain ⟨v, hs, r⟩ := en.val e
  exact ⟨v, hs, k G H cs v .refl ok (.of r)⟩
theorem sd_bor {i : Nat} {x : Str} {pos : Pos} (hN : X.N[i]? = some x) (hv : Vis X.env.scope x) (h1 : (x == ("__debug__" : Str)) = false) (h2 : (x == ("__classdict__" : Str)) = false) : Sd call X (.Name x pos) (.bor i) := by
  refine .plain (fun b => PE.cq (pe_var hN hv h1 h2) fun σ H Q hq => ?_) rfl
  obtain ⟨G, cs, s, ρ, d, s', ok, en, m, k⟩ := hq
  cases b with
  | false => cases m
  | true =>
    obtain ⟨e, rfl⟩ := M.of_some (show M.of (ρ.bor i) s = some (d, s') from m)
    obtain ⟨v, hs, r⟩ := en.bor e
    exact ⟨v, hs, k G H cs v .refl ok r⟩
/-- each argument by itself -/
inductive Sl (call : Nat → List D → M D) (X : Cx) : List Expr → Es → Prop
  | nil : Sl call X [] .nil
  | cons {a : Expr} {as : List Expr} {e : E} {es : Es} : noStar a = true → Sd call X a e → Sl call X as es → Sl call X (a :: as) (.cons e es)
theorem Sl.one {a : Expr} {es : Es} (h : Sl call X [a] es) : ∃ x, es = .cons x .nil ∧ noStar a = true ∧ Sd call X a x := by
  cases h with
  | cons h1 h2 h3 => cases h3; exact ⟨_, rfl, h1, h2⟩
theorem Sl.two {a c : Expr} {es : Es} (h : Sl call X [a, c] es) : ∃ x y, es = .cons x (.cons y .nil) ∧ noStar a = true ∧ noStar c = true ∧ Sd call X a x ∧ Sd call X c y := by
  cases h with
  | cons h1 h2 h3 => cases h3 with
    | cons h4 h5 h6 => cases h6; exact ⟨_, _, rfl, h1, h4, h2, h5⟩
/-- argument lists -/
structure Sa (call : Nat → List D → M D) (X : Cx) (as : List Expr) (es : Es) : Prop where
  pa : ∀ b, PA X as (tMs X.K b (evs call es b))
  st : noStars as = true
  nil : as = [] → es = .nil
  sl : Sl call X as es
theorem sa_nil : Sa call X [] .nil := by
  refine ⟨fun b => PA.cq pa_nil fun σ H Q hq => ?_, rfl, fun _ => rfl, .nil⟩
  obtain ⟨G, cs, s, ρ, d, s', ok, en, m, k⟩ := hq
  obtain ⟨rfl, rfl⟩ := M.pure_some m
  exact k G H cs [] .refl ok .nil
theorem sa_cons {a : Expr} {as : List Expr} {e : E} {es : Es} (hn : noStar a = true) (h : Sd call X a e) (hs : Sa call X as es) : Sa call X (a :: as) (.cons e es) := by
  refine ⟨fun b => PA.cq (pa_cons (h.pe b) (hs.pa b) (star_ok hn)) fun σ H Q hq => ?_, by show (noStar a && noStars as) = true; rw [hn, hs.st]; rfl, fun q => (by cases q), Sl.cons hn h hs.sl⟩
  obtain ⟨G, cs, s, ρ, d, s', ok, en, m, k⟩ := hq
  obtain ⟨x1, s1, m1, m⟩ := M.bind_some m
  obtain ⟨xs, s2, m2, m⟩ := M.bind_some m
  obtain ⟨rfl, rfl⟩ := M.pure_some m
  exact ⟨G, cs, s, ρ, x1, s1, ok, en, m1, fun G1 H1 c1 v1 go1 ok1 r1 => ⟨G1, c1, s1, ρ, xs, _, ok1, en.go ok go1, m2, fun G2 H2 c2 vs go2 ok2 r2 => k G2 H2 c2 _ (go1.trans ok1 ok go2) ok2 (.cons (r1.go go2) r2)⟩⟩
theorem tup_new {G H : Hp} {cs : List Addr} {s : S} {K : PySem.W.Frag} {ds : List D} {xs : List V} {Q : VK} (ok : StOk K G H cs s) (ra : RepAll K G cs ds xs) (q : Res K G H cs s (.tup ds) Q) : ∀ q', H q' = none → Q (.ref q') (upd H q' (.tup xs)) := fun _ hp => q.tup ok hp ra
theorem sd_tup {as : List Expr} {es : Es} {j : Nat} {pos : Pos} (hs : Sa call X as es) : Sd call X (.Tuple as j pos) (.tup es) := by
  refine .plain (fun b => PE.cq (pe_tup (hs.pa false)) fun σ H Q hq => ?_) rfl
  obtain ⟨G, cs, s, ρ, d, s', ok, en, m, k⟩ := hq
  obtain ⟨xs, s1, m1, m⟩ := M.bind_some m
  refine ⟨G, cs, s, ρ, xs, s1, ok, en, m1, fun G1 H1 c1 vs go1 ok1 r1 => ?_⟩
  split at m
  · rename_i hl
    obtain ⟨rfl, rfl⟩ := M.pure_some m
    have ra := r1.all
    rw [line_eq] at hl
    exact ⟨by rw [← ra.length]; exact hl, tup_new ok1 ra fun G2 H2 c2 v go2 ok2 r => k G2 H2 c2 v (go1.trans ok1 ok go2) ok2 (.of r)⟩
  · cases m
theorem sd_lst {as : List Expr} {es : Es} {pos : Pos} (hs : Sa call X as es) : Sd call X (.List as pos) (.lst es) := by
  refine .plain (fun b => PE.cq (pe_lst (hs.pa false)) fun σ H Q hq => ?_) rfl
  obtain ⟨G, cs, s, ρ, d, s', ok, en, m, k⟩ := hq
  obtain ⟨xs, s1, m1, m⟩ := M.bind_some m
  refine ⟨G, cs, s, ρ, xs, s1, ok, en, m1, fun G1 H1 c1 vs go1 ok1 r1 => ?_⟩
  split at m
  · rename_i hl
    obtain ⟨rfl, rfl⟩ := M.pure_some m
    have ra := r1.all
    rw [line_eq] at hl
    have res : Res X.K G1 H1 c1 s1 (.lst xs) Q := fun G2 H2 c2 v go2 ok2 r => k G2 H2 c2 v (go1.trans ok1 ok go2) ok2 (.of r)
    exact ⟨by rw [← ra.length]; exact hl, fun q' hp => res.lst ok1 hp ra⟩
  · cases m
theorem sd_idx (hr : Room lv X.A) {a i : Expr} {x y : E} {pos : Pos} (hs : noSlice i = true) (ha : Sd call X a x) (hi : Sd call X i y) : Sd call X (.Subscript a i pos) (.idx x y) := by
  have hu : X.A.units + 1 < cLine := by have := hr.un; omega
  refine .plain (fun b => PE.cq (pe_ix (ix_sub hu) (ha.pe true) (hi.pe false) (slice_ok hs)) fun σ H Q hq => ?_) rfl
  obtain ⟨G, cs, s, ρ, d, s', ok, en, m, k⟩ := hq
  obtain ⟨x1, s1, m1, m⟩ := M.bind_some m
  obtain ⟨x2, s2, m2, m⟩ := M.bind_some m
  exact ⟨G, cs, s, ρ, x1, s1, ok, en, m1, fun G1 H1 c1 v1 go1 ok1 r1 => ⟨G1, c1, s1, ρ, x2, s2, ok1, en.go ok go1, m2, fun G2 H2 c2 v2 go2 ok2 r2 =>
    ⟨G2, c2, s2, s', x1, x2, d, ok2, r1.B.go go2, r2.B, m, by
      have e : s' = s2 := by
        unfold subM at m
        cases x1 with
        | cel n =>
          cases x2 with
          | int j =>
            have m : (match s2[n]? with
              | some (.lst xs) => (match seqAt xs j with
                | some d => some (d, s2)
                | none => none)
              | _ => none) = some (d, s') := m
            split at m
            · split at m
              · cases m; rfl
              · cases m
            · cases m
          | _ => cases m
        | _ => exact (M.of_some m).2.symm
      subst e
      exact fun G3 H3 c3 v go3 ok3 r => k G3 H3 c3 v ((go1.trans ok1 ok go2).trans ok2 ok go3) ok3 (.of r)⟩⟩⟩
/-- a slice's bounds -/
abbrev So (call : Nat → List D → M D) (X : Cx) (a : Option Expr) (e : Pt) : Prop := PO X a (tP X.K (evP call e))
theorem so_no : So call X none .no := by
  refine PO.cq po_none fun σ H Q hq => ?_
  obtain ⟨G, cs, s, ρ, d, s', ok, en, m, k⟩ := hq
  obtain ⟨rfl, rfl⟩ := M.pure_some m
  exact k G H cs .refl ok
theorem so_at {a : Expr} {e : E} (h : Sd call X a e) : So call X (some a) (.at e) := by
  refine PO.cq (po_some (h.pe false)) fun σ H Q hq => ?_
  obtain ⟨G, cs, s, ρ, d, s', ok, en, m, k⟩ := hq
  obtain ⟨x1, s1, m1, m⟩ := M.bind_some m
  obtain ⟨e1, rfl⟩ := M.of_some m
  refine ⟨G, cs, s, ρ, x1, _, ok, en, m1, fun G1 H1 c1 v1 go1 ok1 r1 => ?_⟩
  cases x1 with
  | int i =>
    obtain rfl := r1.B.int
    obtain rfl : some i = d := Option.some.inj e1
    exact ⟨i, rfl, k G1 H1 c1 go1 ok1⟩
  | _ => cases e1
theorem sd_slice {a : Expr} {lo hi : Option Expr} {x : E} {l h : Pt} {pos p2 : Pos} (ha : Sd call X a x) (hl : So call X lo l) (hh : So call X hi h) : Sd call X (.Subscript a (.Slice lo hi none p2) pos) (.slice x l h) := by
  refine .plain (fun b => PE.cq (pe_slice sl_slc (ha.pe true) hl hh) fun σ H Q hq => ?_) rfl
  obtain ⟨G, cs, s, ρ, d, s', ok, en, m, k⟩ := hq
  obtain ⟨x1, s1, m1, m⟩ := M.bind_some m
  obtain ⟨l1, s2, m2, m⟩ := M.bind_some m
  obtain ⟨h1, s3, m3, m⟩ := M.bind_some m
  obtain ⟨e4, rfl⟩ := M.of_some m
  refine ⟨G, cs, s, ρ, x1, s1, ok, en, m1, fun G1 H1 c1 v1 go1 ok1 r1 => ⟨G1, c1, s1, ρ, l1, s2, ok1, en.go ok go1, m2, fun G2 H2 c2 go2 ok2 => ?_⟩⟩
  have go12 := go1.trans ok1 ok go2
  refine ⟨G2, c2, s2, ρ, h1, _, ok2, en.go ok go12, m3, fun G3 H3 c3 go3 ok3 => ⟨G3, c3, _, x1, d, ok3, (r1.B.go go2).go go3, e4, fun G4 H4 c4 v go4 ok4 r => ?_⟩⟩
  exact k G4 H4 c4 v ((go12.trans ok2 ok go3).trans ok3 ok go4) ok4 (.of r)
theorem sd_call {i : Nat} {x : Str} {np : Nat} {as : List Expr} {es : Es} {pc pos : Pos} (hf : CallOk X lv x np (call i)) (hr : Room lv X.A) (hg : Gl X x) (h1 : (x == ("__debug__" : Str)) = false) (hlen : ∀ ds s r, call i ds s = some r → ds.length = np)
    (hs : Sa call X as es) : Sd call X (.Call (.Name x pc) as [] pos) (.call i es) := by
  obtain ⟨f, fd, ps, hl, F, hm, hk, hb⟩ := hf.ex
  have fin : ∀ (b : Bool) (σ : St) (H : Hp) (Q : VK), tM X.K b (ev call (.call i es) b) σ H Q → tCall (spM X.K np (call i)) [] (fun _ _ _ => False) (tMs X.K false (evs call es false)) σ H Q := fun b σ H Q hq => by
    obtain ⟨G, cs, s, ρ, d, s', ok, en, m, k⟩ := hq
    obtain ⟨xs, s1, m1, m⟩ := M.bind_some m
    refine ⟨G, cs, s, ρ, xs, s1, ok, en, m1, fun G1 H1 c1 vs go1 ok1 r1 => ?_⟩
    show spM X.K np (call i) (vs ++ []) H1 Q _
    rw [List.append_nil]
    exact ⟨G1, c1, s1, xs, d, s', ok1, r1.all, hlen _ _ _ m, m, fun G2 H2 c2 v go2 ok2 r => k G2 H2 c2 v (go1.trans ok1 ok go2) ok2 (.of r)⟩
  cases as with
  | nil =>
    have hn := hs.pa false
    refine .plain (fun b => PE.cq (pe_call0 F hr hg hm hk hb .nil pass0 h1) fun σ H Q hq => ?_) rfl
    obtain rfl := hs.nil rfl
    obtain ⟨G, cs, s, ρ, d, s', ok, en, m, k⟩ := hq
    obtain ⟨xs, s1, m1, m⟩ := M.bind_some m
    obtain ⟨rfl, rfl⟩ := M.pure_some m1
    exact ⟨G, cs, s, [], d, s', ok, .nil, hlen _ _ _ m, m, fun G2 H2 c2 v go2 ok2 r => k G2 H2 c2 v go2 ok2 (.of r)⟩
  | cons a as =>
    obtain ⟨n1, n2⟩ := Bool.and_eq_true_iff.mp (show (noStar a && noStars as) = true from hs.st)
    exact .plain (fun b => PE.cq (pe_call F hr hg hm hk hb .nil pass0 (hs.pa false) h1 (star_ok n1) (anyStar n2)) fun σ H Q hq => fin b σ H Q hq) rfl
theorem sd_isi {x : Str} {a : Expr} {e : E} {t : Ty} {pc p2 pos : Pos} (hf : ∀ x ∈ bltNames, X.mg x = none) (hx : x = ("isinstance" : Str)) (hg : Gl X x) (hc : Gl X (tyS t)) (hn : noStar a = true) (ha : Sd call X a e) :
    Sd call X (.Call (.Name x pc) [a, .Name (tyS t) p2] [] pos) (.isi e t) := by
  subst hx
  have hty : ∃ u, bootBuiltins (tyS t) = some u ∧ RelV (.ty (tyN t)) u ∧ tyS t ∈ bltNames ∧ tyS t ≠ "__name__" ∧ (tyS t == ("__debug__" : Str)) = false := by
    cases t <;> exact ⟨.type _, by decide +kernel, rfl, by decide +kernel, by decide +kernel, by decide +kernel⟩
  obtain ⟨u, hb, hr, hm, hn2, hd⟩ := hty
  have pn : PE X (.Name (tyS t) p2) (tC (.ty (tyN t))) := pe_bltn hc (hf _ hm) hb hr hn2 hd
  refine .plain (fun b => PE.cq (pe_callB (call_isT t) hg (hf _ (by decide +kernel)) (by decide +kernel) (pa_cons (ha.pe false) (pa_cons pn pa_nil (star_ok rfl)) (star_ok hn)) (by decide +kernel) (by decide +kernel) (star_ok hn) (anyStar rfl)) fun σ H Q hq => ?_) rfl
  obtain ⟨G, cs, s, ρ, d, s', ok, en, m, k⟩ := hq
  obtain ⟨x1, s1, m1, m⟩ := M.bind_some m
  obtain ⟨c, s2, m2, m⟩ := M.bind_some m
  obtain ⟨e3, rfl⟩ := M.of_some m2
  obtain ⟨rfl, rfl⟩ := M.pure_some m
  exact ⟨G, cs, s, ρ, x1, _, ok, en, m1, fun G1 H1 c1 v1 go1 ok1 r1 => ⟨G1, c1, _, x1, v1, c, rfl, ok1, r1.B, e3, k G1 H1 c1 _ go1 ok1 (.of (.bl _))⟩⟩
theorem sd_blt {f : Bi} {x : Str} {as : List Expr} {es : Es} {pc pos : Pos} (hcm : X.calm = true) (hf : ∀ x ∈ bltNames, X.mg x = none) (hx : biN f = x) (hg : Gl X x) (hne : as ≠ []) (hs : Sa call X as es) : Sd call X (.Call (.Name x pc) as [] pos) (.blt f es) := by
  subst hx
  have go_ : ∀ (b : Bool) (σ : St) (H : Hp) (Q : VK), tM X.K b (ev call (.blt f es) b) σ H Q → tCB (rBi X.K f) (tMs X.K true (evs call es true)) σ H Q := fun b σ H Q hq => by
    obtain ⟨G, cs, s, ρ, d, s', ok, en, m, k⟩ := hq
    obtain ⟨xs, s1, m1, m⟩ := M.bind_some m
    obtain ⟨e2, rfl⟩ := M.of_some m
    exact ⟨G, cs, s, ρ, xs, _, ok, en, m1, fun G1 H1 c1 vs go1 ok1 r1 => ⟨G1, c1, _, xs, d, ok1, r1, e2, fun G2 H2 c2 v go2 ok2 r => k G2 H2 c2 v (go1.trans ok1 ok go2) ok2 (.of r)⟩⟩
  cases as with
  | nil => exact absurd rfl hne
  | cons a as =>
    obtain ⟨n1, n2⟩ := Bool.and_eq_true_iff.mp (show (noStar a && noStars as) = true from hs.st)
    have hb : biN f ∈ bltNames ∧ biN f ≠ "__name__" ∧ (biN f == ("__debug__" : Str)) = false := by cases f <;> exact ⟨by decide +kernel, by decide +kernel, by decide +kernel⟩
    have cb := call_bi (X := X) hcm f
    refine .plain (fun b => ?_) rfl
    cases f with
    | int => exact PE.cq (pe_callTy cb hg (hf _ hb.1) (by decide +kernel) (hs.pa true) hb.2.1 hb.2.2 (star_ok n1) (anyStar n2)) fun σ H Q hq => go_ b σ H Q hq
    | list => exact PE.cq (pe_callTy cb hg (hf _ hb.1) (by decide +kernel) (hs.pa true) hb.2.1 hb.2.2 (star_ok n1) (anyStar n2)) fun σ H Q hq => go_ b σ H Q hq
    | dict => exact PE.cq (pe_callTy cb hg (hf _ hb.1) (by decide +kernel) (hs.pa true) hb.2.1 hb.2.2 (star_ok n1) (anyStar n2)) fun σ H Q hq => go_ b σ H Q hq
    | tuple => exact PE.cq (pe_callTy cb hg (hf _ hb.1) (by decide +kernel) (hs.pa true) hb.2.1 hb.2.2 (star_ok n1) (anyStar n2)) fun σ H Q hq => go_ b σ H Q hq
    | _ => exact PE.cq (pe_callB cb hg (hf _ hb.1) (by decide +kernel) (hs.pa true) hb.2.1 hb.2.2 (star_ok n1) (anyStar n2)) fun σ H Q hq => go_ b σ H Q hq
end
end PV
set_option Elab.async false
set_option linter.all false
set_option autoImplicit false
set_option maxRecDepth 100000
set_option maxHeartbeats 4000000
namespace PV
open PySem PySem.Spec L2
open PyProof.Rows hiding St
/-! ### walks -/
def iSeq (K : PySem.W.Frag) (tl : TE) : TI := fun σ H R => tl σ H fun x H1 => ∃ a, x = .ref a ∧ (((∃ xs, SqL K H1 a xs) ∧ R (Itl K a) H1) ∨ ((∃ xs, SqT K H1 a xs) ∧ R (Itt K a) H1) ∨ ∃ o kvs, H1 a = some (.frz o (.dK kvs)) ∧ R (Itk a o kvs) H1)
section
variable {X : Cx} {tg : Expr}
theorem pi_seq {l : Expr} {tl : TE} (hl : PE X l tl) : PI X tg l (iSeq X.K tl) := by
  refine ⟨fun pins s σ H R I h => ?_⟩
  refine thn (hl.run pins s σ H _ I h) fun v s1 ⟨x, H1, I1, r1, q1⟩ => ?_
  obtain ⟨a, e, q⟩ := q1
  subst e
  cases r1
  rcases q with ⟨⟨xs, hq⟩, q⟩ | ⟨⟨xs, hq⟩, q⟩ | ⟨o, kvs, hd, q⟩
  · obtain ⟨its, rv, p, hz⟩ := I1.list hq
    refine wpAny_pyIter_list p.isList ?_
    refine ⟨s1.heap.objs.size, [s1.heap.objs.size], _, _, H1, rfl, I1.kept (t' := s1.toks) fun b o e => Heap.get?_push_of_some _ e, turn_list a _, ⟨_, Heap.get?_push_size _ rfl, rfl, rfl⟩, fun b hb => ?_, q⟩
    have e : b = s1.heap.objs.size := by simpa using hb
    subst e
    exact I1.fpOk (Nat.le_refl _) (I1.hok.fresh (Nat.le_refl _))
  · obtain ⟨its, rv, p, hz⟩ := I1.tuple hq
    refine wpAny_pyIter_tuple (show s1.heap.IsTuple a its.toArray from p) ?_
    refine ⟨s1.heap.objs.size, [s1.heap.objs.size], _, _, H1, rfl, I1.kept (t' := s1.toks) fun b o e => Heap.get?_push_of_some _ e, turn_tuple a _, ⟨_, Heap.get?_push_size _ rfl, rfl, rfl⟩, fun b hb => ?_, q⟩
    have e : b = s1.heap.objs.size := by simpa using hb
    subst e
    exact I1.fpOk (Nat.le_refl _) (I1.hok.fresh (Nat.le_refl _))
  · obtain ⟨hs, hgd, hx, es, ep, vs, hdt, hsz, kv, hm⟩ := I1.frzK hd
    refine iter_keys hs hgd hx hdt (pi_one (tk := s1.toks) I1 _ (turn_keys _ hdt) ⟨_, Heap.get?_push_size _ rfl, rfl, ?_⟩ q)
    rw [hsz] <;> rfl
theorem PI.cq {l : Expr} {t t' : TI} (h : PI X tg l t) (c : ∀ σ H R, t' σ H R → t σ H R) : PI X tg l t' := ⟨fun pins s σ H R I hw => h.run pins s σ H R I (c σ H R hw)⟩
end
section
variable {K : PySem.W.Frag} {G H : Hp} {cs : List Addr} {s : S} {b : Bool}
/-- the list at a stays through the walk -/
theorem wd_list {a : Addr} {xs : List V} {ds : List D} (hH : H a = some (.lst xs)) (ra : RepAll K G cs ds xs) (hb : if b = true then a ∉ cs else G a = some (.lst xs)) : WD K G H cs b (Itl K a) ds := by
  have st : ∀ H', (if b = true then (∀ a o, a ∉ cs → H a = some o → H' a = some o) else Same G H') → SqL K H' a xs := fun H' h => by
    cases b with
    | true => exact .inl (.inl (h a _ hb hH))
    | false => exact .inl (.inl (h a _ hb))
  refine ⟨fun i H' hi h => ?_, fun H' h => ?_, fun i H' x H2 hi h y => ?_⟩
  · have hi' : i < xs.length := by rw [← ra.length]; exact hi
    exact ⟨xs, xs[i], st H' h, List.getElem?_eq_getElem hi'⟩
  · exact ⟨xs, st H' h, by rw [ra.length]; exact Nat.le_refl _⟩
  · obtain ⟨rfl, y⟩ := y
    obtain ⟨v, hv, rv⟩ := ra.get (List.getElem?_eq_getElem hi)
    have := y xs (st _ h)
    rw [hv] at this
    cases this
    exact ⟨_, List.getElem?_eq_getElem hi, .inl ⟨rfl, rv⟩⟩
theorem wd_tup {s : S} (ok : StOk K G H cs s) {a : Addr} {xs : List V} {ds : List D} (hG : SqT K G a xs) (ra : RepAll K G cs ds xs) : WD K G H cs b (Itt K a) ds := by
  have st : ∀ H', (if b = true then (∀ a o, a ∉ cs → H a = some o → H' a = some o) else Same G H') → SqT K H' a xs := fun H' h => by
    cases b with
    | true =>
      rcases hG with (h1 | ⟨o, h1⟩) | h1
      · refine .inl (.inl (h a _ (fun hm => ?_) (ok.sub _ _ h1)))
        rw [ok.notG hm] at h1; cases h1
      · refine .inl (.inr ⟨o, h a _ (fun hm => ?_) (ok.sub _ _ h1)⟩)
        rw [ok.notG hm] at h1; cases h1
      · exact .inr h1
    | false => exact sqT_same h hG
  refine ⟨fun i H' hi h => ?_, fun H' h => ?_, fun i H' x H2 hi h y => ?_⟩
  · have hi' : i < xs.length := by rw [← ra.length]; exact hi
    exact ⟨xs, xs[i], st H' h, List.getElem?_eq_getElem hi'⟩
  · exact ⟨xs, st H' h, by rw [ra.length]; exact Nat.le_refl _⟩
  · obtain ⟨rfl, y⟩ := y
    obtain ⟨v, hv, rv⟩ := ra.get (List.getElem?_eq_getElem hi)
    have := y xs (st _ h)
    rw [hv] at this
    cases this
    exact ⟨_, List.getElem?_eq_getElem hi, .inl ⟨rfl, rv⟩⟩
theorem kD_rep {k : Key} : Rep K G cs (kD k) (kV k) := by cases k <;> constructor
theorem wd_keys {a : Addr} {o : Obj} {kvs : List (Key × V)} (hH : H a = some (.frz o (.dK kvs))) (hb : if b = true then a ∉ cs else G a = some (.frz o (.dK kvs))) : WD K G H cs b (Itk a o kvs) (kvs.map fun p => kD p.1) := by
  have st : ∀ H', (if b = true then (∀ a o, a ∉ cs → H a = some o → H' a = some o) else Same G H') → H' a = some (.frz o (.dK kvs)) := fun H' h => by
    cases b with
    | true => exact h a _ hb hH
    | false => exact h a _ hb
  refine ⟨fun i H' hi h => ⟨st H' h, by simpa using hi⟩, fun H' h => ⟨st H' h, by simp⟩, fun i H' x H2 hi h y => ?_⟩
  obtain ⟨rfl, k, v, hk, rfl⟩ := y
  exact ⟨kD k, by rw [List.getElem?_map, hk]; rfl, .inl ⟨rfl, kD_rep⟩⟩
theorem rngD_get {lo : Int} {n i : Nat} (h : i < n) : (rngD lo n)[i]? = some (.int (lo + (i : Nat))) := by
  unfold rngD
  rw [List.getElem?_map, List.getElem?_range h]; rfl
theorem rngD_len {lo : Int} {n : Nat} : (rngD lo n).length = n := by unfold rngD; simp
theorem wd_rng {lo : Int} {n : Nat} : WD K G H cs b (Itr lo n) (rngD lo n) := by
  refine ⟨fun i H' hi h => ?_, fun H' h => ?_, fun i H' x H2 hi h y => ?_⟩
  · rw [rngD_len] at hi; exact hi
  · show n ≤ (rngD lo n).length; rw [rngD_len]; exact Nat.le_refl _
  · rw [rngD_len] at hi
    obtain ⟨rfl, rfl⟩ := y
    exact ⟨_, rngD_get hi, .inl ⟨rfl, .int _⟩⟩
end
section
variable {p : Pr} {N : List Str} {call : Nat → List D → M D} {X : Cx} {lv : Nat} {sc : Scope} {tg : Expr}
structure Si (call : Nat → List D → M D) (X : Cx) (a : Expr) (it : It) : Prop where
  pi : ∀ tg b, PI X tg a (tI X.K b (evI call it b))
  fs : noSet a = true
theorem si_seq {a : Expr} {e : E} (hn : noSet a = true) (h : Sd call X a e) : Si call X a (.seq e) := by
  refine ⟨fun tg b => PI.cq (pi_seq (h.pe b)) fun σ H R hq => ?_, hn⟩
  obtain ⟨G, cs, s, ρ, items, s', ok, en, m, k⟩ := hq
  obtain ⟨x1, s1, m1, m⟩ := M.bind_some m
  refine ⟨G, cs, s, ρ, x1, s1, ok, en, m1, fun G1 H1 c1 v1 go1 ok1 r1 => ?_⟩
  cases x1 with
  | lst ds =>
    obtain ⟨rfl, rfl⟩ := M.pure_some m
    cases b with
    | false =>
      have r1 : Rep X.K G1 c1 (.lst ds) v1 := r1
      cases r1 with
      | lst hG ra => exact ⟨_, rfl, .inl ⟨⟨_, .inl (.inl (ok1.sub _ _ hG))⟩, k G1 H1 c1 _ go1 ok1 (wd_list (ok1.sub _ _ hG) ra hG)⟩⟩
    | true =>
      rcases r1 with r1 | ⟨a, xs, ds', e, rfl, h1, nc, ra⟩ | ⟨a, kvs, vs, e, _⟩
      · cases r1 with
        | @lst a _ _ hG ra => exact ⟨_, rfl, .inl ⟨⟨_, .inl (.inl (ok1.sub _ _ hG))⟩, k G1 H1 c1 _ go1 ok1 (wd_list (ok1.sub _ _ hG) ra (show a ∉ c1 from fun hm => by rw [ok1.notG hm] at hG; cases hG))⟩⟩
      · cases e
        exact ⟨_, rfl, .inl ⟨⟨_, .inl (.inl h1)⟩, k G1 H1 c1 _ go1 ok1 (wd_list h1 ra nc)⟩⟩
      · cases e
  | tup ds =>
    obtain ⟨rfl, rfl⟩ := M.pure_some m
    have rp := r1.B.proper (fun _ e => by cases e) (fun _ _ e => by cases e)
    cases rp with
    | tup hG ra => exact ⟨_, rfl, .inr (.inl ⟨⟨_, sqT_same ok1.sub hG⟩, k G1 H1 c1 _ go1 ok1 (wd_tup ok1 hG ra)⟩)⟩
  | _ => cases m
theorem si_keys {a : Expr} {e : E} (hn : noSet a = true) (h : Sd call X a e) : Si call X a (.keys e) := by
  refine ⟨fun tg b => PI.cq (pi_seq (h.pe false)) fun σ H R hq => ?_, hn⟩
  obtain ⟨G, cs, s, ρ, items, s', ok, en, m, k⟩ := hq
  obtain ⟨x1, s1, m1, m⟩ := M.bind_some m
  refine ⟨G, cs, s, ρ, x1, s1, ok, en, m1, fun G1 H1 c1 v1 go1 ok1 r1 => ?_⟩
  cases x1 with
  | dct ks vs =>
    obtain ⟨rfl, rfl⟩ := M.pure_some m
    have r1 : Rep X.K G1 c1 (.dct ks vs) v1 := r1
    cases r1 with
    | @dct a _ _ _ hG ra =>
      refine ⟨_, rfl, .inr (.inr ⟨_, _, ok1.sub _ _ hG, k G1 H1 c1 _ go1 ok1 (wd_keys (ok1.sub _ _ hG) ?_)⟩)⟩
      cases b with
      | false => exact hG
      | true => exact (show a ∉ c1 from fun hm => by rw [ok1.notG hm] at hG; cases hG)
  | _ => cases m
theorem si_keysL {i : Nat} {x : Str} {pos : Pos} (hN : X.N[i]? = some x) (hv : Vis X.env.scope x) (h1 : (x == ("__debug__" : Str)) = false) (h2 : (x == ("__classdict__" : Str)) = false) : Si call X (.Name x pos) (.keysL i) := by
  refine ⟨fun tg b => PI.cq (pi_seq (pe_var hN hv h1 h2)) fun σ H R hq => ?_, rfl⟩
  obtain ⟨G, cs, s, ρ, items, s', ok, en, m, k⟩ := hq
  cases b with
  | false => cases m
  | true =>
    have m : (match ρ[i]? with
      | some (.lockd ks _) => M.pure ks
      | _ => M.fail) s = some (items, s') := m
    cases hρ : ρ[i]? with
    | none => rw [hρ] at m; cases m
    | some sl =>
      rw [hρ] at m
      cases sl with
      | lockd ks vs =>
        obtain ⟨rfl, rfl⟩ := M.pure_some m
        have hi : i < σ.length := by rw [← en.len]; exact (List.getElem?_eq_some_iff.mp hρ).1
        obtain ⟨a, o, kvs, e, hH, hg, hc, rfl, ra⟩ := en.at_ i _ _ hρ (List.getElem?_eq_getElem hi)
        exact ⟨_, by rw [List.getElem?_eq_getElem hi, e], a, rfl, .inr (.inr ⟨o, kvs, hH, k G H cs _ .refl ok (wd_keys hH hc)⟩)⟩
      | _ => cases m
theorem si_rng1 {a : Expr} {e : E} {f : Str} {pc pos : Pos} (hf : ∀ x ∈ bltNames, X.mg x = none) (hx : f = ("range" : Str)) (hg : Gl X f) (hn : noStar a = true) (h : Sd call X a e) : Si call X (.Call (.Name f pc) [a] [] pos) (.rng1 e) := by
  subst hx
  refine ⟨fun tg b => PI.cq (pi_range1 hg (hf _ (by decide +kernel)) (pa_cons (h.pe false) pa_nil (star_ok hn)) (star_ok hn)) fun σ H R hq => ?_, rfl⟩
  obtain ⟨G, cs, s, ρ, items, s', ok, en, m, k⟩ := hq
  obtain ⟨x1, s1, m1, m⟩ := M.bind_some m
  refine ⟨G, cs, s, ρ, x1, s1, ok, en, m1, fun G1 H1 c1 v1 go1 ok1 r1 => ?_⟩
  cases x1 with
  | int n =>
    obtain rfl := r1.B.int
    have m : (if rngOk 0 n then M.pure (rngD 0 n.toNat) else M.fail) s1 = some (items, s') := m
    split at m
    · rename_i ho
      obtain ⟨rfl, rfl⟩ := M.pure_some m
      unfold rngOk at ho
      simp only [Bool.and_eq_true, decide_eq_true_eq] at ho
      exact ⟨n, rfl, by omega, by omega, k G1 H1 c1 _ go1 ok1 wd_rng⟩
    · cases m
  | _ => cases m
theorem si_rng2 {a c : Expr} {e d : E} {f : Str} {pc pos : Pos} (hf : ∀ x ∈ bltNames, X.mg x = none) (hx : f = ("range" : Str)) (hg : Gl X f) (hn : noStar a = true) (hn2 : noStar c = true) (h : Sd call X a e) (h2 : Sd call X c d) :
    Si call X (.Call (.Name f pc) [a, c] [] pos) (.rng2 e d) := by
  subst hx
  have hs2 : starEach [c] X.env = [(false, eval c X.env)] := star_ok hn2
  have hs : starEach [a, c] X.env = [(false, eval a X.env), (false, eval c X.env)] := by rw [star_ok hn, hs2]
  refine ⟨fun tg b => PI.cq (pi_range2 hg (hf _ (by decide +kernel)) (pa_cons (h.pe false) (pa_cons (h2.pe false) pa_nil (star_ok hn2)) (star_ok hn)) hs hs2) fun σ H R hq => ?_, rfl⟩
  obtain ⟨G, cs, s, ρ, items, s', ok, en, m, k⟩ := hq
  obtain ⟨x1, s1, m1, m⟩ := M.bind_some m
  obtain ⟨x2, s2, m2, m⟩ := M.bind_some m
  refine ⟨G, cs, s, ρ, x1, s1, ok, en, m1, fun G1 H1 c1 v1 go1 ok1 r1 => ⟨G1, c1, s1, ρ, x2, s2, ok1, en.go ok go1, m2, fun G2 H2 c2 v2 go2 ok2 r2 => ?_⟩⟩
  cases x1 with
  | int lo =>
    cases x2 with
    | int hi =>
      obtain rfl := r1.B.int
      obtain rfl := r2.B.int
      have m : (if rngOk lo hi then M.pure (rngD lo (hi - lo).toNat) else M.fail) s2 = some (items, s') := m
      split at m
      · rename_i ho
        obtain ⟨rfl, rfl⟩ := M.pure_some m
        unfold rngOk at ho
        simp only [Bool.and_eq_true, decide_eq_true_eq] at ho
        exact ⟨lo, hi, rfl, ⟨by omega, by omega, by omega, by omega⟩, k G2 H2 c2 _ (go1.trans ok1 ok go2) ok2 wd_rng⟩
      · cases m
    | _ => cases m
  | _ => cases m
/-! ### targets -/
theorem wipe_get {σ : St} {i : Nat} : ∀ {vs : List Nat}, (wipe σ vs)[i]? = if i ∈ vs ∧ i < σ.length then some none else σ[i]?
  | [] => by simp [wipe]
  | v :: vs => by
    unfold wipe
    by_cases hi : v = i
    · subst hi
      by_cases hl : v < σ.length
      · rw [List.getElem?_set_self (by rw [wipe_length]; exact hl), if_pos ⟨List.mem_cons_self, hl⟩]
      · rw [List.getElem?_eq_none (by simp [wipe_length]; omega), if_neg (fun h => hl h.2), List.getElem?_eq_none (by omega)]
    · rw [List.getElem?_set_ne hi, wipe_get (vs := vs)]
      by_cases hm : i ∈ vs ∧ i < σ.length
      · rw [if_pos hm, if_pos ⟨List.mem_cons_of_mem _ hm.1, hm.2⟩]
      · rw [if_neg hm, if_neg (fun h => hm ⟨(List.mem_cons.mp h.1).resolve_left (fun e => hi e.symm), h.2⟩)]
theorem wipe_set {σ : St} {i : Nat} {v : Option V} {vs : List Nat} (h : i ∈ vs) : wipe (σ.set i v) vs = wipe σ vs := by
  refine List.ext_getElem? fun j => ?_
  rw [wipe_get, wipe_get, List.length_set]
  by_cases hj : j ∈ vs ∧ j < σ.length
  · rw [if_pos hj, if_pos hj]
  · rw [if_neg hj, if_neg hj]
    by_cases e : i = j
    · subst e
      rw [List.getElem?_eq_none (by simp; exact Nat.le_of_not_lt fun q => hj ⟨h, q⟩), List.getElem?_eq_none (Nat.le_of_not_lt fun q => hj ⟨h, q⟩)]
    · rw [List.getElem?_set_ne e]
theorem wipe_wipe {σ : St} {vs : List Nat} : wipe (wipe σ vs) vs = wipe σ vs := by
  refine List.ext_getElem? fun j => ?_
  rw [wipe_get, wipe_get, wipe_length]
  split <;> rfl
theorem wipeE_get {ρ : Env} {i : Nat} : ∀ {vs : List Nat}, (wipeE ρ vs)[i]? = if i ∈ vs ∧ i < ρ.length then some Slot.no else ρ[i]?
  | [] => by simp [wipeE]
  | v :: vs => by
    have hl2 : ∀ vs : List Nat, (wipeE ρ vs).length = ρ.length := fun vs => by
      induction vs with
      | nil => rfl
      | cons v vs ih => show ((wipeE ρ vs).set v Slot.no).length = _; rw [List.length_set, ih]
    show ((wipeE ρ vs).set v Slot.no)[i]? = _
    by_cases hi : v = i
    · subst hi
      by_cases hl : v < ρ.length
      · rw [List.getElem?_set_self (by rw [hl2]; exact hl), if_pos ⟨List.mem_cons_self, hl⟩]
      · rw [List.getElem?_eq_none (by simp [hl2]; omega), if_neg (fun h => hl h.2), List.getElem?_eq_none (by omega)]
    · rw [List.getElem?_set_ne hi, wipeE_get (vs := vs)]
      by_cases hm : i ∈ vs ∧ i < ρ.length
      · rw [if_pos hm, if_pos ⟨List.mem_cons_of_mem _ hm.1, hm.2⟩]
      · rw [if_neg hm, if_neg (fun h => hm ⟨(List.mem_cons.mp h.1).resolve_left (fun e => hi e.symm), h.2⟩)]
theorem wipeE_len {ρ : Env} : ∀ vs : List Nat, (wipeE ρ vs).length = ρ.length
  | [] => rfl
  | v :: vs => by show ((wipeE ρ vs).set v Slot.no).length = _; rw [List.length_set, wipeE_len vs]
theorem EnvOk.wipe {K : PySem.W.Frag} {G H : Hp} {cs : List Addr} {ρ : Env} {σ : St} (en : EnvOk K G H cs ρ σ) (vs : List Nat) : EnvOk K G H cs (wipeE ρ vs) (L2.wipe σ vs) := by
  refine ⟨by rw [wipeE_len, wipe_length, en.len], fun i sl ov h1 h2 => ?_, fun i j si sj v hij h1 h2 o1 o2 h3 h4 => ?_⟩
  · rw [wipeE_get] at h1
    rw [wipe_get, ← en.len] at h2
    by_cases hm : i ∈ vs ∧ i < ρ.length
    · rw [if_pos hm] at h1
      cases h1
      trivial
    · rw [if_neg hm] at h1 h2
      exact en.at_ i sl ov h1 h2
  · rw [wipeE_get] at h1 h2
    rw [wipe_get, ← en.len] at h3 h4
    by_cases hm : i ∈ vs ∧ i < ρ.length
    · rw [if_pos hm] at h1; cases h1; cases o1
    · by_cases hn : j ∈ vs ∧ j < ρ.length
      · rw [if_pos hn] at h2; cases h2; cases o2
      · rw [if_neg hm] at h1 h3
        rw [if_neg hn] at h2 h4
        exact en.ap i j si sj v hij h1 h2 o1 o2 h3 h4
theorem EnvOk.set_val {K : PySem.W.Frag} {G H : Hp} {cs : List Addr} {ρ : Env} {σ : St} (en : EnvOk K G H cs ρ σ) {i : Nat} {d : D} {v : V} (r : Rep K G cs d v) : EnvOk K G H cs (ρ.set i (.val d)) (σ.set i (some v)) := by
  refine ⟨by rw [List.length_set, List.length_set, en.len], fun j sl ov h1 h2 => ?_, fun j l sj sl w hjl h1 h2 o1 o2 h3 h4 => ?_⟩
  · by_cases e : i = j
    · subst e
      have hl : i < ρ.length := by
        have := (List.getElem?_eq_some_iff.mp h1).1
        rwa [List.length_set] at this
      rw [List.getElem?_set_self hl] at h1
      rw [List.getElem?_set_self (by rw [← en.len]; exact hl)] at h2
      cases h1; cases h2
      exact ⟨v, rfl, r⟩
    · rw [List.getElem?_set_ne e] at h1 h2
      exact en.at_ j sl ov h1 h2
  · by_cases e : i = j
    · subst e
      have hl : i < ρ.length := by
        have := (List.getElem?_eq_some_iff.mp h1).1
        rwa [List.length_set] at this
      rw [List.getElem?_set_self hl] at h1
      cases h1; cases o1
    · by_cases e2 : i = l
      · subst e2
        have hl : i < ρ.length := by
          have := (List.getElem?_eq_some_iff.mp h2).1
          rwa [List.length_set] at this
        rw [List.getElem?_set_self hl] at h2
        cases h2; cases o2
      · rw [List.getElem?_set_ne e] at h1 h3
        rw [List.getElem?_set_ne e2] at h2 h4
        exact en.ap j l sj sl w hjl h1 h2 o1 o2 h3 h4
end
end PV
set_option Elab.async false
set_option linter.all false
set_option autoImplicit false
set_option maxRecDepth 100000
set_option maxHeartbeats 4000000
namespace PV
open PySem PySem.Spec L2
open PyProof.Rows hiding St
section
variable {p : Pr} {N : List Str} {call : Nat → List D → M D} {X : Cx} {lv : Nat} {sc : Scope} {tg : Expr}
/-- a pair or a list to several targets -/
def gSeq (K : PySem.W.Frag) (n : Nat) (t : TGs) : TG := fun v σ H Q => ∃ a xs, v = .ref a ∧ (SqT K H a xs ∨ SqL K H a xs) ∧ xs.length = n ∧ t xs σ H Q
theorem pg_seq {es : List Expr} {k : Nat} {pos : Pos} {t : TGs} {n : Nat} (hc : X.calm = true) (h : PGs X es t)
    (hn : (assignEach es X.env).length = n) (hst : (assignEach es X.env).findIdx? (·.1) = none) : PG X (.Tuple es k pos) (gSeq X.K n t) := by
  refine ⟨fun pins s σ H v u Q I r hw => ?_⟩
  obtain ⟨a, xs, e1, hq, hl, hw⟩ := hw
  rcases hq with hq | hq
  · exact (pg_tup hc h hn hst).run pins s σ H v u Q I r ⟨a, xs, e1, hq, hl, hw⟩
  · exact (pg_unl hc h hn hst).run pins s σ H v u Q I r ⟨a, xs, e1, hq, hl, hw⟩
structure St1 (X : Cx) (a : Expr) (t : Tg) : Prop where
  pg : PG X a (tG X.K t)
  st : noStar a = true
structure Sts (X : Cx) (as : List Expr) (ts : Tgs) : Prop where
  pg : PGs X as (tGs X.K ts)
  len : (assignEach as X.env).length = as.length
  st : (assignEach as X.env).findIdx? (·.1) = none
  ln : ∀ ds ρ ρ', binds ts ds ρ = some ρ' → ds.length = as.length
theorem each_ok {e : Expr} {es : List Expr} {env : PySem.Env} (h : noStar e = true) : assignEach (e :: es) env = (false, assign e env) :: assignEach es env := by
  cases e <;> first | rfl | cases h
theorem st_name {i : Nat} {x : Str} {pos : Pos} (hN : X.N.Nodup) (hi : X.N[i]? = some x) (hx : Loc X.env.scope x) (hf : X.fn x = true ∨ X.env.scope.names.lookup x = some .local) : St1 X (.Name x pos) (.name i) := by
  refine ⟨⟨fun pins s σ H v u Q I r h => (pg_name hN hi hx hf).run pins s σ H v u Q I r ?_⟩, rfl⟩
  obtain ⟨G, cs, st, ρ, d, ρ', ok, en, rp, e, k⟩ := h
  cases (show some (ρ.set i (.val d)) = some ρ' from e)
  refine k _ (en.set_val rp) (fun vs hv => ?_) fun j sl h1 h2 => ?_
  · have hv : vs.contains i = true := hv
    exact wipe_set (by simpa using hv)
  · by_cases e : i = j
    · subst e
      have hl : i < ρ.length := by
        have := (List.getElem?_eq_some_iff.mp h1).1
        rwa [List.length_set] at this
      rw [List.getElem?_set_self hl] at h1
      cases h1; cases h2
    · rw [List.getElem?_set_ne e] at h1 ⊢
      exact ⟨h1, rfl⟩
theorem sts_nil : Sts X [] .nil := by
  refine ⟨⟨fun pins s σ H vs us Q I r h => pgs_nil.run pins s σ H vs us Q I r ?_⟩, rfl, rfl, fun ds ρ ρ' e => ?_⟩
  · obtain ⟨G, cs, st, ρ, ds, ρ', ok, en, rp, e, k⟩ := h
    cases ds with
    | nil =>
      cases rp
      cases (show some ρ = some ρ' from e)
      exact ⟨rfl, k _ en (fun _ _ => rfl) fun _ _ h _ => ⟨h, rfl⟩⟩
    | cons _ _ => cases e
  · cases ds with
    | nil => rfl
    | cons _ _ => cases e
theorem sts_cons {a : Expr} {as : List Expr} {t : Tg} {ts : Tgs} (h : St1 X a t) (hs : Sts X as ts) : Sts X (a :: as) (.cons t ts) := by
  refine ⟨⟨fun pins s σ H vs us Q I r hq => (pgs_cons h.pg hs.pg (by rw [each_ok h.st]; rfl)).run pins s σ H vs us Q I r ?_⟩, by rw [each_ok h.st, List.length_cons, List.length_cons, hs.len], by rw [each_ok h.st]; simp [List.findIdx?_cons, hs.st], fun ds ρ ρ' e => ?_⟩
  · obtain ⟨G, cs, st, ρ, ds, ρ', ok, en, rp, e, k⟩ := hq
    cases ds with
    | nil => cases e
    | cons d ds =>
      cases rp with
      | cons r1 r2 =>
        have e : (bind t d ρ).bind (binds ts ds) = some ρ' := e
        cases q : bind t d ρ with
        | none => rw [q] at e; cases e
        | some ρ1 =>
          rw [q] at e
          refine ⟨_, _, rfl, G, cs, st, ρ, d, ρ1, ok, en, r1, q, fun σ1 en1 w1 o1 => ⟨G, cs, st, ρ1, ds, ρ', ok, en1, r2, e, fun σ2 en2 w2 o2 => k σ2 en2 (fun ws hw => ?_) fun j sl h1 h2 => ?_⟩⟩
          · obtain ⟨h1, h2⟩ := Bool.and_eq_true_iff.mp (show (tgOwn ws t && tgOwns ws ts) = true from hw)
            rw [w2 ws h2, w1 ws h1]
          · obtain ⟨h3, h4⟩ := o2 j sl h1 h2
            obtain ⟨h5, h6⟩ := o1 j sl h3 h2
            exact ⟨h5, h4.trans h6⟩
  · cases ds with
    | nil => cases e
    | cons d ds =>
      have e : (bind t d ρ).bind (binds ts ds) = some ρ' := e
      cases q : bind t d ρ with
      | none => rw [q] at e; cases e
      | some ρ1 =>
        rw [q] at e
        rw [List.length_cons, List.length_cons, hs.ln ds ρ1 ρ' e]
theorem st_tup {as : List Expr} {ts : Tgs} {k : Nat} {pos : Pos} (hc : X.calm = true) (hs : Sts X as ts) : St1 X (.Tuple as k pos) (.tup ts) := by
  refine ⟨⟨fun pins s σ H v u Q I r hq => (pg_seq hc hs.pg hs.len hs.st).run pins s σ H v u Q I r ?_⟩, rfl⟩
  obtain ⟨G, cs, st, ρ, d, ρ', ok, en, rp, e, k⟩ := hq
  cases d with
  | tup ds =>
    have e : binds ts ds ρ = some ρ' := e
    cases rp with
    | tup hG ra => exact ⟨_, _, rfl, .inl (sqT_same ok.sub hG), by rw [← ra.length]; exact hs.ln ds ρ ρ' e, G, cs, st, ρ, ds, ρ', ok, en, ra, e, k⟩
  | lst ds =>
    have e : binds ts ds ρ = some ρ' := e
    cases rp with
    | lst hG ra => exact ⟨_, _, rfl, .inr (.inl (.inl (ok.sub _ _ hG))), by rw [← ra.length]; exact hs.ln ds ρ ρ' e, G, cs, st, ρ, ds, ρ', ok, en, ra, e, k⟩
  | _ => cases e
/-! ### tests of a comprehension -/
structure Sc (call : Nat → List D → M D) (X : Cx) (as : List Expr) (es : Es) : Prop where
  pt : PTs X as (tT X.K (tests call es))
theorem PTs.cq {e : List Expr} {t t' : TT} (h : PTs X e t) (c : ∀ σ H Q, t' σ H Q → t σ H Q) : PTs X e t' := ⟨fun pins s σ H Q I hw => h.run pins s σ H Q I (c σ H Q hw)⟩
theorem sc_nil : Sc call X [] .nil := by
  refine ⟨PTs.cq pts_nil fun σ H Q hq => ?_⟩
  obtain ⟨G, cs, s, ρ, d, s', ok, en, m, k⟩ := hq
  obtain ⟨rfl, rfl⟩ := M.pure_some m
  exact k G H cs .refl ok
theorem sc_one {a : Expr} {e : E} (h : Sd call X a e) : Sc call X [a] (.cons e .nil) := by
  refine ⟨PTs.cq (pts_one h.pt) fun σ H Q hq => ?_⟩
  obtain ⟨G, cs, s, ρ, d, s', ok, en, m, k⟩ := hq
  obtain ⟨x1, s1, m1, m⟩ := M.bind_some m
  obtain ⟨t, s2, m2, m⟩ := M.bind_some m
  have e : d = t ∧ s2 = s' := by
    cases t with
    | true =>
      simp only [if_true] at m
      obtain ⟨h1, h2⟩ := M.pure_some m
      exact ⟨h1.symm, h2⟩
    | false =>
      simp only [Bool.false_eq_true, if_false] at m
      obtain ⟨h1, h2⟩ := M.pure_some m
      exact ⟨h1.symm, h2⟩
  obtain ⟨rfl, rfl⟩ := e
  exact ⟨G, cs, s, ρ, d, _, ok, en, by unfold evT M.bind; rw [m1]; exact m2, k⟩
/-! ### comprehensions -/
theorem mapMd_cut (f : D → M (Option D)) : ∀ (items : List D) (i : Nat) (s s' : S) (r : List D), mapMd f items s = some (r, s') → ∃ done s1 rest, mapMd f (items.take i) s = some (done, s1) ∧ mapMd f (items.drop i) s1 = some (rest, s') ∧ r = done ++ rest
  | [], i, s, s', r, h => ⟨[], s, r, by simp [mapMd], by simpa using h, by simp⟩
  | d :: ds, 0, s, s', r, h => ⟨[], s, r, by simp [mapMd], by simpa using h, by simp⟩
  | d :: ds, i + 1, s, s', r, h => by
    unfold mapMd at h
    cases q : f d s with
    | none => rw [q] at h; cases h
    | some o =>
      obtain ⟨o, s1⟩ := o
      rw [q] at h
      simp only at h
      cases q2 : mapMd f ds s1 with
      | none => rw [q2] at h; cases h
      | some r2 =>
        obtain ⟨r2, s2⟩ := r2
        rw [q2] at h
        simp only [Option.some.injEq, Prod.mk.injEq] at h
        obtain ⟨rfl, rfl⟩ := h
        obtain ⟨done, s3, rest, h1, h2, rfl⟩ := mapMd_cut f ds i s1 s2 r2 q2
        refine ⟨consO o done, s3, rest, ?_, by simpa using h2, by cases o <;> rfl⟩
        rw [List.take_succ_cons]
        unfold mapMd
        rw [q]
        simp only [h1]
theorem StOk.touch {K : PySem.W.Frag} {G H : Hp} {cs : List Addr} {s : S} {a : Addr} {o : HO} (ok : StOk K G H cs s) (hg : G a = none) (hc : a ∉ cs) : StOk K G (upd H a o) cs s := by
  refine ⟨fun b x h => ?_, ok.len, ok.nd, fun n b ds h1 h2 => ?_⟩
  · rw [upd_ne (ne_of_none h hg)]; exact ok.sub b x h
  · obtain ⟨z, xs, h3, h4⟩ := ok.cell n b ds h1 h2
    have ne : b ≠ a := fun e => hc (by rw [← e]; exact List.mem_of_getElem? h1)
    exact ⟨z, xs, by rw [upd_ne ne]; exact h3, h4⟩
theorem StOk.freeze {K : PySem.W.Frag} {G H : Hp} {cs : List Addr} {s : S} {a : Addr} {o : HO} (ok : StOk K G H cs s) (hg : G a = none) (hc : a ∉ cs) (hH : H a = some o) : StOk K (upd G a o) H cs s := by
  refine ⟨fun b x h => ?_, ok.len, ok.nd, fun n b ds h1 h2 => ?_⟩
  · by_cases e : b = a
    · subst e; rw [upd_same] at h; cases h; exact hH
    · rw [upd_ne e] at h; exact ok.sub b x h
  · obtain ⟨z, xs, h3, h4⟩ := ok.cell n b ds h1 h2
    have ne : b ≠ a := fun e => hc (by rw [← e]; exact List.mem_of_getElem? h1)
    exact ⟨by rw [upd_ne ne]; exact z, xs, h3, h4.mono (same_upd hg) (List.prefix_refl _)⟩
theorem Go.touch {G H G' H' : Hp} {cs cs' : List Addr} {a : Addr} {o : HO} (x : Go G H cs G' H' cs') (h : H a = none) : Go G H cs G' (upd H' a o) cs' :=
  ⟨x.g, x.c, fun b y hn hb => by rw [upd_ne (ne_of_none hb h)]; exact x.keep b y hn hb, x.newG, x.newC⟩
theorem Go.freeze {G H G' H' : Hp} {cs cs' : List Addr} {a : Addr} {o : HO} (x : Go G H cs G' H' cs') (h : H a = none) (hg : G' a = none) : Go G H cs (upd G' a o) H' cs' :=
  ⟨x.g.trans (same_upd hg), x.c, x.keep, fun b y hb => by
    by_cases e : b = a
    · right; rw [e]; exact h
    · rw [upd_ne e] at hb; exact x.newG b y hb, x.newC⟩
end
/-- what is asked of a new list -/
def NewL0 (K : PySem.W.Frag) (G H : Hp) (cs : List Addr) (s : S) (d : D) (Q : VK) : Prop :=
  ∀ G' H' cs' ds a xs, d = .lst ds → Go G H cs G' H' cs' → StOk K G' H' cs' s → H' a = some (.lst xs) → H a = none → G' a = none → a ∉ cs' → RepAll K G' cs' ds xs → Q (.ref a) H'
/-- what is asked of a new dict -/
def NewD (K : PySem.W.Frag) (G H : Hp) (cs : List Addr) (s : S) (d : D) (Q : VK) : Prop :=
  ∀ G' H' cs' vs a kvs, d = .dct (kvs.map fun p => kD p.1) vs → Go G H cs G' H' cs' → StOk K G' H' cs' s → H' a = some (.dK kvs) → H a = none → G' a = none → a ∉ cs' → RepAll K G' cs' vs (kvs.map Prod.snd) → Q (.ref a) H'
structure NewL (K : PySem.W.Frag) (G H : Hp) (cs : List Addr) (s : S) (d : D) (Q : VK) : Prop where
  l : NewL0 K G H cs s d Q
  d : NewD K G H cs s d Q
/-- a list or a dict -/
def isNew : D → Bool
  | .lst _ => true
  | .dct _ _ => true
  | _ => false
/-- o: the value is a new list or dict that will be changed -/
def Val (K : PySem.W.Frag) (o : Bool) (G H : Hp) (cs : List Addr) (s : S) (d : D) (Q : VK) : Prop := if o = true then NewL K G H cs s d Q else Res K G H cs s d Q
def tV (K : PySem.W.Frag) (o : Bool) (m : Env → M D) : TE := fun σ H Q => ∃ G cs s ρ d s', StOk K G H cs s ∧ EnvOk K G H cs ρ σ ∧ m ρ s = some (d, s') ∧ (o = true → isNew d = true) ∧ Val K o G H cs s' d Q
section
variable {K : PySem.W.Frag} {G H : Hp} {cs : List Addr} {s : S}
theorem NewL.at {ds : List D} {xs : List V} {p : Addr} {Q : VK} {G0 H0 : Hp} {c0 : List Addr} (q : NewL K G0 H0 c0 s (.lst ds) Q) (go : Go G0 H0 c0 G H cs) (ok : StOk K G H cs s) {s0 : S} (ok0 : StOk K G0 H0 c0 s0) (hp : H p = none) (r : RepAll K G cs ds xs) : Q (.ref p) (upd H p (.lst xs)) := by
  have hg : G p = none := ok.sub.free hp
  have hc : p ∉ cs := fun hm => by
    obtain ⟨xs, q⟩ := ok.inH hm
    rw [hp] at q; cases q
  have h0 : H0 p = none := by
    by_cases hm : p ∈ c0
    · exact absurd (go.c.subset hm) hc
    · cases q0 : H0 p with
      | none => rfl
      | some o => rw [go.keep p o hm q0] at hp; cases hp
  exact q.l G (upd H p (.lst xs)) cs ds p xs rfl (go.touch h0) (ok.touch hg hc) upd_same h0 hg hc r
theorem NewL.at' {G0 H0 : Hp} {c0 : List Addr} (ok : StOk K G H cs s) {s0 : S} (go : Go G0 H0 c0 G H cs) {p : Addr} (hp : H p = none) : G p = none ∧ p ∉ cs ∧ H0 p = none := by
  have hg : G p = none := ok.sub.free hp
  have hc : p ∉ cs := fun hm => by
    obtain ⟨xs, q⟩ := ok.inH hm
    rw [hp] at q; cases q
  refine ⟨hg, hc, ?_⟩
  by_cases hm : p ∈ c0
  · exact absurd (go.c.subset hm) hc
  · cases q0 : H0 p with
    | none => rfl
    | some o => rw [go.keep p o hm q0] at hp; cases hp
theorem NewL.atD {kvs : List (Key × V)} {vs : List D} {p : Addr} {Q : VK} {G0 H0 : Hp} {c0 : List Addr} (q : NewL K G0 H0 c0 s (.dct (kvs.map fun p => kD p.1) vs) Q) (go : Go G0 H0 c0 G H cs) (ok : StOk K G H cs s) (hp : H p = none) (r : RepAll K G cs vs (kvs.map Prod.snd)) : Q (.ref p) (upd H p (.dK kvs)) := by
  obtain ⟨hg, hc, h0⟩ := NewL.at' (s0 := s) ok go hp
  exact q.d G (upd H p (.dK kvs)) cs vs p kvs rfl (go.touch h0) (ok.touch hg hc) upd_same h0 hg hc r
theorem Res.newL {ds : List D} {Q : VK} (q : Res K G H cs s (.lst ds) Q) : NewL K G H cs s (.lst ds) Q := ⟨fun G' H' cs' ds' a xs e go ok hH h0 hg hc ra => by
  cases e
  exact q (upd G' a (.lst xs)) H' cs' (.ref a) (go.freeze h0 hg) (ok.freeze hg hc hH) (.lst upd_same (ra.mono (same_upd hg) (List.prefix_refl _))), fun _ _ _ _ _ _ e => by cases e⟩
end
section
variable {p : Pr} {N : List Str} {call : Nat → List D → M D} {X : Cx} {lv : Nat} {sc : Scope} {tg : Expr}
theorem sd_comp {own : List Nat} {g : Tg} {it : It} {ts : Es} {x : E} {elt iter tgx : Expr} {ifs : List Expr} {scope : Scope} {pos : Pos} (hcm : X.calm = true) (hN : X.N.Nodup) (ok0 : BlkOk X.N X.env.scope scope (own.map fun i => (X.N[i]?.getD "", i))) (ho : tgOwn own g = true)
    (hi : Si call X iter it)
    (hg : ∀ (s : Shared) (H : Hp) (C : Addr) (cl : List (Str × Addr)) (fp : List Addr), St1 (X.blk s H scope (compEnvC scope cl C X.env) fp) tgx g)
    (ht : ∀ (s : Shared) (H : Hp) (C : Addr) (cl : List (Str × Addr)) (fp : List Addr), Sc call (X.blk s H scope (compEnvC scope cl C X.env) fp) ifs ts)
    (he : ∀ (s : Shared) (H : Hp) (C : Addr) (cl : List (Str × Addr)) (fp : List Addr), Sd call (X.blk s H scope (compEnvC scope cl C X.env) fp) elt x) :
    ∀ (σ : St) (H : Hp) (Q : VK), tV X.K true (ev call (.comp own g it ts x) false) σ H Q →
      tLc (tI X.K true (evI call it true)) (tG X.K g) (tT X.K (tests call ts)) (tE call X x false) own σ H Q := by
  intro σ H Q hq
  obtain ⟨G, cs, s, ρ, d, s', ok, en, m, _, k⟩ := hq
  obtain ⟨items, s1, m1, m⟩ := M.bind_some m
  obtain ⟨r, s2, m2, m⟩ := M.bind_some m
  split at m
  case isFalse => cases m
  case isTrue hlen =>
  obtain ⟨rfl, rfl⟩ := M.pure_some m
  have k : NewL X.K G H cs s2 (.lst r) Q := k
  refine ⟨G, cs, s, ρ, items, s1, ok, en, m1, fun G1 H1 c1 J go1 ok1 wd D hD => ?_⟩
  have hg1 : G1 D = none := ok1.sub.free hD
  have hc1 : D ∉ c1 := fun hm => by
    obtain ⟨xs, q⟩ := ok1.inH hm
    rw [hD] at q; cases q
  rw [line_eq] at hlen
  -- the walk's word
  refine ⟨fun i j H' => j = items.length - i ∧ i ≤ items.length ∧ ∃ G' c' s3 done rest xs, Go G1 H1 c1 G' H' c' ∧ StOk X.K G' H' c' s3 ∧ G' D = none ∧ D ∉ c' ∧ H' D = some (.lst xs) ∧ RepAll X.K G' c' done xs ∧ r = done ++ rest ∧
      mapMd (fun d => M.bind (M.of (bind g d (wipeE ρ own))) fun ρ' => M.bind (tests call ts ρ') fun t => if t then M.bind (ev call x false ρ') fun y => M.pure (some y) else M.pure none) (items.drop i) s3 = some (rest, s2), ?_, ?_⟩
  · refine ⟨items.length, by simp, Nat.zero_le _, G1, c1, s1, [], r, [], Go.refl.touch hD, ok1.touch hg1 hc1, hg1, hc1, upd_same, .nil, rfl, by simpa using m2⟩
  · rintro i j H' ⟨rfl, hi, G', c', s3, done, rest, xs, go', ok', hgD, hcD, hHD, ra, hr, hm⟩
    by_cases hlt : i < items.length
    · refine .inr ⟨wd.go i H' hlt (show ∀ a o, a ∉ c1 → H1 a = some o → H' a = some o from go'.keep), ?_⟩
      refine ⟨fun H'' => i + 1 ≤ items.length ∧ ∃ G' c' s3 done rest xs, Go G1 H1 c1 G' H'' c' ∧ StOk X.K G' H'' c' s3 ∧ G' D = none ∧ D ∉ c' ∧ H'' D = some (.lst xs) ∧ RepAll X.K G' c' done xs ∧ r = done ++ rest ∧
        mapMd (fun d => M.bind (M.of (bind g d (wipeE ρ own))) fun ρ' => M.bind (tests call ts ρ') fun t => if t then M.bind (ev call x false ρ') fun y => M.pure (some y) else M.pure none) (items.drop (i + 1)) s3 = some (rest, s2),
        fun H'' h => ⟨items.length - (i + 1), by omega, rfl, h⟩, fun v Hy y => ?_⟩
      obtain ⟨dv, hdv, hyv⟩ := wd.yld i H' v Hy hlt (show ∀ a o, a ∉ c1 → H1 a = some o → H' a = some o from go'.keep) y
      -- the item, in the heap as it is then
      have item : ∃ Gy, Go G' H' c' Gy Hy c' ∧ StOk X.K Gy Hy c' s3 ∧ Rep X.K Gy c' dv v := by
        rcases hyv with ⟨rfl, rv⟩ | ⟨T, ys, ds, rfl, hT, rfl, rfl, rv⟩
        · exact ⟨G', .refl, ok', rv.mono go'.g go'.c⟩
        · obtain ⟨gn, on⟩ := go_new (o := .tup ys) ok' hT
          exact ⟨_, gn, on, .tup (.inl (.inl upd_same)) ((rv.mono go'.g go'.c).mono gn.g gn.c)⟩
      obtain ⟨Gy, goy, oky, rv⟩ := item
      have go2 := go'.trans ok' ok1 goy
      obtain ⟨hHD2, hgD2, hcD2⟩ := goy.own hHD hgD hcD
      have hdrop : items.drop i = dv :: items.drop (i + 1) := by
        rw [List.drop_eq_getElem_cons hlt]
        congr 1
        exact Option.some.inj ((List.getElem?_eq_getElem hlt).symm.trans hdv)
      rw [hdrop] at hm
      unfold mapMd at hm
      cases qf : (M.bind (M.of (bind g dv (wipeE ρ own))) fun ρ' => M.bind (tests call ts ρ') fun t => if t then M.bind (ev call x false ρ') fun y => M.pure (some y) else M.pure none) s3 with
      | none => rw [qf] at hm; cases hm
      | some o =>
        obtain ⟨o, s4⟩ := o
        rw [qf] at hm
        simp only at hm
        cases qm : mapMd (fun d => M.bind (M.of (bind g d (wipeE ρ own))) fun ρ' => M.bind (tests call ts ρ') fun t => if t then M.bind (ev call x false ρ') fun y => M.pure (some y) else M.pure none) (items.drop (i + 1)) s4 with
        | none => rw [qm] at hm; cases hm
        | some r4 =>
          obtain ⟨r4, s5⟩ := r4
          rw [qm] at hm
          simp only [Option.some.injEq, Prod.mk.injEq] at hm
          obtain ⟨hrest, rfl⟩ := hm
          obtain ⟨ρ', s6, b1, qf⟩ := M.bind_some qf
          obtain ⟨b2, rfl⟩ := M.of_some b1
          obtain ⟨t, s7, b3, qf⟩ := M.bind_some qf
          have en2 : EnvOk X.K Gy Hy c' (wipeE ρ own) (wipe σ own) := ((en.go ok go1).go ok1 go2).wipe own
          refine ⟨Gy, c', s3, wipeE ρ own, dv, ρ', oky, en2, rv, b2, fun σ2 en3 w2 _ => ⟨by rw [w2 own ho, wipe_wipe], ?_⟩⟩
          refine ⟨Gy, c', s3, ρ', t, s7, oky, en3, b3, fun G8 H8 c8 go8 ok8 => ?_⟩
          obtain ⟨hHD3, hgD3, hcD3⟩ := go8.own hHD2 hgD2 hcD2
          have go9 := go2.trans oky ok1 go8
          cases t with
          | true =>
            simp only [if_true] at qf ⊢
            obtain ⟨yv, s9, b4, qf⟩ := M.bind_some qf
            obtain ⟨rfl, rfl⟩ := M.pure_some qf
            refine ⟨G8, c8, s7, ρ', yv, s9, ok8, en3.go oky go8, b4, fun G10 H10 c10 v10 go10 ok10 r10 => ?_⟩
            obtain ⟨hHD4, hgD4, hcD4⟩ := go10.own hHD3 hgD3 hcD3
            have go11 := go9.trans ok8 ok1 go10
            have ra2 : RepAll X.K G10 c10 (done ++ [yv]) (xs ++ [v10]) := (((ra.mono goy.g goy.c).mono go8.g go8.c).mono go10.g go10.c).append (.cons r10 .nil)
            refine ⟨xs, hHD4, ?_, hlt, G10, c10, s9, done ++ [yv], r4, xs ++ [v10], go11.touch hD, ok10.touch hgD4 hcD4, hgD4, hcD4, upd_same, ra2, ?_, qm⟩
            · have hl := congrArg List.length hr
              rw [← hrest, List.length_append, ra.length] at hl
              have hl : r.length = xs.length + (r4.length + 1) := hl
              omega
            · rw [hr, ← hrest]; simp [consO]
          | false =>
            simp only [Bool.false_eq_true, if_false] at qf ⊢
            obtain ⟨rfl, rfl⟩ := M.pure_some qf
            exact ⟨hlt, G8, c8, s7, done, r4, xs, go9, ok8, hgD3, hcD3, hHD3, (ra.mono goy.g goy.c).mono go8.g go8.c, by rw [hr, ← hrest]; rfl, qm⟩
    · obtain rfl : i = items.length := by omega
      rw [List.drop_length] at hm
      simp only [mapMd, Option.some.injEq, Prod.mk.injEq] at hm
      obtain ⟨rfl, rfl⟩ := hm
      rw [List.append_nil] at hr
      subst hr
      refine .inl ⟨wd.stop H' (show ∀ a o, a ∉ c1 → H1 a = some o → H' a = some o from go'.keep), ?_⟩
      have h0 : H D = none := by
        by_cases hm : D ∈ cs
        · exact absurd (go1.c.subset hm) hc1
        · cases q0 : H D with
          | none => rfl
          | some o => rw [go1.keep D o hm q0] at hD; cases hD
      exact k.l G' H' c' r D xs rfl (go1.trans ok1 ok go') ok' hHD h0 hgD hcD ra
end
end PV
set_option Elab.async false
set_option linter.all false
set_option autoImplicit false
set_option maxRecDepth 100000
set_option maxHeartbeats 4000000
namespace PV
open PySem PySem.Spec L2
open PyProof.Rows hiding St
section
variable {K : PySem.W.Frag} {G H G0 H0 : Hp} {cs c0 : List Addr} {s : S}
theorem StOk.put (ok : StOk K G H cs s) {n : Nat} {a : Addr} {o : O} {ho : HO} (hc : cs[n]? = some a) (hn : n < s.length) (r : RepO K G cs o ho) : StOk K G (upd H a ho) cs (s.set n o) := by
  have hg : G a = none := ok.notG (List.mem_of_getElem? hc)
  refine ⟨fun b x h => ?_, by rw [List.length_set]; exact ok.len, ok.nd, fun m b es h1 h2 => ?_⟩
  · rw [upd_ne (ne_of_none h hg)]; exact ok.sub b x h
  · by_cases e : n = m
    · subst e
      rw [hc] at h1
      cases h1
      rw [List.getElem?_set_self hn] at h2
      cases h2
      exact ⟨hg, ho, upd_same, r⟩
    · rw [List.getElem?_set_ne e] at h2
      obtain ⟨z, zs, h3, h4⟩ := ok.cell m b es h1 h2
      have ne : b ≠ a := fun q => by
        subst q
        obtain ⟨l1, e1⟩ := List.getElem?_eq_some_iff.mp hc
        obtain ⟨l2, e2⟩ := List.getElem?_eq_some_iff.mp h1
        exact e ((List.getElem_inj ok.nd).mp (e1.trans e2.symm))
      exact ⟨z, zs, by rw [upd_ne ne]; exact h3, h4⟩
theorem Go.put (x : Go G0 H0 c0 G H cs) {a : Addr} {o : HO} (ha : a ∈ cs) : Go G0 H0 c0 G (upd H a o) cs :=
  ⟨x.g, x.c, fun b y hb h => by
    have ne : b ≠ a := fun q => by
      subst q
      rcases x.newC b ha with z | z
      · exact hb z
      · rw [z] at h; cases h
    rw [upd_ne ne]; exact x.keep b y hb h, x.newG, x.newC⟩
theorem RepAll.erase : ∀ {ds : List D} {vs : List V} (i : Nat), RepAll K G cs ds vs → RepAll K G cs (ds.eraseIdx i) (vs.eraseIdx i)
  | _, _, _, .nil => .nil
  | _, _, 0, .cons _ r => r
  | _, _, i + 1, .cons q r => .cons q (RepAll.erase i r)
theorem RepAll.rev : ∀ {ds : List D} {vs : List V}, RepAll K G cs ds vs → RepAll K G cs ds.reverse vs.reverse
  | _, _, .nil => .nil
  | _, _, .cons h r => by rw [List.reverse_cons, List.reverse_cons]; exact r.rev.append (.cons h .nil)
theorem dget_at {kvs : List (Key × V)} {vs : List D} {k : Key} (ra : RepAll K G cs vs (kvs.map Prod.snd)) : (∃ d v, dget (kvs.map fun p => kD p.1) vs (kD k) = some d ∧ valV kvs k = some v ∧ Rep K G cs d v) ∨ (dget (kvs.map fun p => kD p.1) vs (kD k) = none ∧ valV kvs k = none) := by
  unfold dget
  cases hi : keyAt (kD k) (kvs.map fun p => kD p.1) with
  | none =>
    right
    refine ⟨rfl, ?_⟩
    have := keyAt_val (kvs := kvs) (k := k)
    rw [hi] at this
    cases q : valV kvs k with
    | none => rfl
    | some v => rw [q] at this; cases this
  | some i =>
    left
    obtain ⟨z, hz, hz2⟩ := keyAt_get hi
    have hl : i < vs.length := by
      rw [ra.length]
      exact (List.getElem?_eq_some_iff.mp hz2).1
    obtain ⟨z', hz', rz⟩ := ra.get (List.getElem?_eq_getElem hl)
    rw [hz2] at hz'
    cases hz'
    exact ⟨_, _, List.getElem?_eq_getElem hl, hz, rz⟩
theorem attr_ok {o : Expr} {m : Str} {env : PySem.Env} {x : Sem Value} (h : attrOk o = true) : attributeBase o m env x = x := by
  unfold attributeBase
  split
  · cases h
  · rfl
end
section
variable {p : Pr} {N : List Str} {call : Nat → List D → M D} {X : Cx} {lv : Nat} {sc : Scope} {tg : Expr}
/-! ### methods -/
theorem few1 {a : Expr} {env : PySem.Env} {pos : Pos} (h : noStar a = true) : ((backTo pos (starEach [a] env)).all (fun x => !x.1) && (backToKw pos (keywordEach [] env)).all (fun x => x.1.isSome)
    && decide (([a] : List Expr).length + ([] : List Keyword).length + (if ([] : List Keyword).isEmpty then 0 else 1) < 30)) = true := by
  rw [star_ok h]; rfl
theorem few2 {a c : Expr} {env : PySem.Env} {pos : Pos} (h : noStar a = true) (h2 : noStar c = true) : ((backTo pos (starEach [a, c] env)).all (fun x => !x.1) && (backToKw pos (keywordEach [] env)).all (fun x => x.1.isSome)
    && decide (([a, c] : List Expr).length + ([] : List Keyword).length + (if ([] : List Keyword).isEmpty then 0 else 1) < 30)) = true := by
  rw [star_ok h, star_ok h2]; rfl
theorem isD_of {H : Hp} {a : Addr} {kvs : List (Key × V)} (h : Rd H a (.dK kvs)) : IsD H a := .inl ⟨kvs, h⟩
theorem sd_get1 (hr : Room lv X.A) {o k : Expr} {x y : E} {nm : Str} {pa pos : Pos} (hnm : nm = ("get" : Str)) (hl : (pa.endLine == pos.line) = true) (ha : attrOk o = true) (nk : noStar k = true) (ho : Sd call X o x) (hk : Sd call X k y) :
    Sd call X (.Call (.Attribute o nm pa) [k] [] pos) (.meth .get1 x (.cons y .nil)) := by
  subst hnm
  have hu : X.A.units + 1 < cLine := by have := hr.un; omega
  refine .plain (fun b => PE.cq (pe_dget1 hu (ho.pe true) (hk.pe false) ⟨attr_ok ha, few1 nk, hl, by rw [star_ok nk]; rfl⟩) fun σ H Q hq => ?_) rfl
  obtain ⟨G, cs, s, ρ, d, s', ok, en, m, kk⟩ := hq
  obtain ⟨x1, s1, m1, m⟩ := M.bind_some m
  obtain ⟨_, _, mk, m5⟩ := M.bind_some m
  clear m
  obtain ⟨ds, s2, m2, m⟩ := M.bind_some m5
  clear m5
  obtain ⟨y1, s3, m3, m2⟩ := M.bind_some m2
  obtain ⟨_, _, m4, m2⟩ := M.bind_some m2
  obtain ⟨rfl, rfl⟩ := M.pure_some m4
  obtain ⟨rfl, rfl⟩ := M.pure_some m2
  obtain ⟨_, rfl⟩ := M.pure_some mk
  refine ⟨G, cs, s, ρ, x1, s1, ok, en, m1, fun G1 H1 c1 v1 go1 ok1 r1 => ?_⟩
  cases x1 with
  | dct ks vs =>
    have m : (if isKey y1 then M.pure ((dget ks vs y1).getD .non) else M.fail) _ = some (d, s') := m
    split at m
    · rename_i hky
      obtain ⟨rfl, rfl⟩ := M.pure_some m
      obtain ⟨key, rfl⟩ := isKey_of hky
      obtain ⟨a, kvs, rfl, hH, _, _⟩ := r1.B.dct ok1
      refine ⟨a, rfl, isD_of hH, G1, c1, s1, ρ, kD key, _, ok1, en.go ok go1, m3, fun G2 H2 c2 v2 go2 ok2 r2 => ?_⟩
      obtain ⟨a', kvs', e', hH', rfl, ra⟩ := (r1.B.go go2).dct ok2
      cases e'
      obtain rfl := r2.B.kD
      refine ⟨valV kvs' key, .inl ⟨kvs', key, hH', rfl, rfl⟩, ?_⟩
      rcases dget_at (k := key) ra with ⟨d, v, e1, e2, r⟩ | ⟨e1, e2⟩
      · rw [e1] at kk
        rw [e2]
        exact kk G2 H2 c2 _ (go1.trans ok1 ok go2) ok2 (.of r)
      · rw [e1] at kk
        rw [e2]
        exact kk G2 H2 c2 _ (go1.trans ok1 ok go2) ok2 (.of .non)
    · cases m
  | _ => cases m
theorem sd_get2 (hr : Room lv X.A) {o k e : Expr} {x y z : E} {nm : Str} {pa pos : Pos} (hnm : nm = ("get" : Str)) (hl : (pa.endLine == pos.line) = true) (ha : attrOk o = true) (nk : noStar k = true) (ne : noStar e = true) (ho : Sd call X o x) (hk : Sd call X k y) (he : Sd call X e z) :
    Sd call X (.Call (.Attribute o nm pa) [k, e] [] pos) (.meth .get2 x (.cons y (.cons z .nil))) := by
  subst hnm
  have hu : X.A.units + 1 < cLine := by have := hr.un; omega
  refine .plain (fun b => PE.cq (pe_dget2 hu (ho.pe true) (hk.pe false) (he.pe false) ⟨attr_ok ha, few2 nk ne, hl, by rw [star_ok nk, star_ok ne]; rfl⟩) fun σ H Q hq => ?_) rfl
  obtain ⟨G, cs, s, ρ, d, s', ok, en, m, kk⟩ := hq
  obtain ⟨x1, s1, m1, m⟩ := M.bind_some m
  obtain ⟨_, _, mk, m5⟩ := M.bind_some m
  clear m
  obtain ⟨ds, s2, m2, m⟩ := M.bind_some m5
  clear m5
  obtain ⟨y1, s3, m3, m2⟩ := M.bind_some m2
  obtain ⟨ds2, s4, m4, m2⟩ := M.bind_some m2
  obtain ⟨z1, s5, m7, m4⟩ := M.bind_some m4
  obtain ⟨_, _, m6, m4⟩ := M.bind_some m4
  obtain ⟨rfl, rfl⟩ := M.pure_some m6
  obtain ⟨rfl, rfl⟩ := M.pure_some m4
  obtain ⟨rfl, rfl⟩ := M.pure_some m2
  obtain ⟨_, rfl⟩ := M.pure_some mk
  refine ⟨G, cs, s, ρ, x1, s1, ok, en, m1, fun G1 H1 c1 v1 go1 ok1 r1 => ?_⟩
  cases x1 with
  | dct ks vs =>
    have m : (if isKey y1 then M.pure ((dget ks vs y1).getD z1) else M.fail) _ = some (d, s') := m
    split at m
    · rename_i hky
      obtain ⟨rfl, rfl⟩ := M.pure_some m
      obtain ⟨key, rfl⟩ := isKey_of hky
      obtain ⟨a, kvs, rfl, hH, _, _⟩ := r1.B.dct ok1
      refine ⟨a, rfl, isD_of hH, G1, c1, s1, ρ, kD key, _, ok1, en.go ok go1, m3, fun G2 H2 c2 v2 go2 ok2 r2 => ⟨G2, c2, _, ρ, z1, _, ok2, (en.go ok go1).go ok1 go2, m7, fun G3 H3 c3 v3 go3 ok3 r3 => ?_⟩⟩
      obtain ⟨a', kvs', e', hH', rfl, ra⟩ := ((r1.B.go go2).go go3).dct ok3
      cases e'
      obtain rfl := r2.B.kD
      refine ⟨valV kvs' key, .inl ⟨kvs', key, hH', rfl, rfl⟩, ?_⟩
      have g3 := (go1.trans ok1 ok go2).trans ok2 ok go3
      rcases dget_at (k := key) ra with ⟨d, v, e1, e2, r⟩ | ⟨e1, e2⟩
      · rw [e1] at kk
        rw [e2]
        exact kk G3 H3 c3 _ g3 ok3 (.of r)
      · rw [e1] at kk
        rw [e2]
        exact kk G3 H3 c3 _ g3 ok3 (.of r3)
    · cases m
  | _ => cases m
theorem sd_pop {o k : Expr} {x y : E} {nm : Str} {pa pos : Pos} (hnm : nm = ("pop" : Str)) (hl : (pa.endLine == pos.line) = true) (ha : attrOk o = true) (nk : noStar k = true) (ho : Sd call X o x) (hk : Sd call X k y) :
    Sd call X (.Call (.Attribute o nm pa) [k] [] pos) (.meth .pop x (.cons y .nil)) := by
  subst hnm
  refine .plain (fun b => PE.cq (pe_bm (X := X) PySem.F.plainAttrs_list PySem.F.slot_list_pop PySem.F.type_list_pop mt_popAt (ho.pe true) (pa_cons (hk.pe false) pa_nil (star_ok nk)) (attr_ok ha) (few1 nk) hl (star_ok nk) (anyStar rfl)) fun σ H Q hq => ?_) rfl
  obtain ⟨G, cs, s, ρ, d, s', ok, en, m, kk⟩ := hq
  obtain ⟨x1, s1, m1, m⟩ := M.bind_some m
  obtain ⟨_, _, mk, m5⟩ := M.bind_some m
  clear m
  obtain ⟨ds, s2, m2, m⟩ := M.bind_some m5
  clear m5
  obtain ⟨y1, s3, m3, m2⟩ := M.bind_some m2
  obtain ⟨_, _, m4, m2⟩ := M.bind_some m2
  obtain ⟨rfl, rfl⟩ := M.pure_some m4
  obtain ⟨rfl, rfl⟩ := M.pure_some m2
  refine ⟨G, cs, s, ρ, x1, s1, ok, en, m1, fun G1 H1 c1 v1 go1 ok1 r1 => ?_⟩
  cases x1 with
  | cel n =>
    cases y1 with
    | int i =>
      have m : (match s3[n]? with
        | some (.lst xs) => (match popAt xs i with
          | some (d, xs') => some (d, s3.set n (.lst xs'))
          | none => none)
        | _ => none) = some (d, s') := m
      have r1' := r1.B.proper (fun _ e => by cases e) (fun _ _ e => by cases e)
      split at m
      · rename_i ys hs3
        split at m
        · rename_i d' ys' hp
          cases m
          cases r1' with
          | @cel _ a hc =>
            have mk : (match s1[n]? with
              | some (.lst _) => some ((), s1)
              | _ => none) = some (_, _) := mk
            split at mk
            · rename_i zs hs1
              cases mk
              obtain ⟨_, _, hH1, ro1⟩ := ok1.cell n _ _ hc hs1
              obtain ⟨us, rfl, ra1⟩ := ro1.l
              refine ⟨.inl ⟨rfl, _, .inl (.inl hH1)⟩, G1, c1, s1, ρ, .int i, s3, ok1, en.go ok go1, m3, fun G2 H2 c2 v2 go2 ok2 r2 => ?_⟩
              have hc2 := pre_get go2.c hc
              have hn : n < s3.length := (List.getElem?_eq_some_iff.mp hs3).1
              obtain ⟨_, _, hH2, ro2⟩ := ok2.cell n _ _ hc2 hs3
              obtain ⟨ws, rfl, ra2⟩ := ro2.l
              obtain rfl := r2.B.int
              unfold popAt at hp
              split at hp
              · rename_i hb
                obtain ⟨dd, hdd, e⟩ := Option.map_eq_some_iff.mp hp
                cases e
                obtain ⟨w, hw, rw_⟩ := ra2.get hdd
                have hl := ra2.length
                refine ⟨a, ws, i, i.toNat, w, rfl, rfl, hH2, by omega, by omega, ?_, hw, ?_⟩
                · unfold seqIndex?
                  have e1 : ¬ i < 0 := by omega
                  have e2 : i < (ws.length : Int) := by omega
                  have e3 : 0 ≤ i := by omega
                  simp [e1, e2, e3]
                · exact kk G2 _ c2 w ((go1.trans ok1 ok go2).put (List.mem_of_getElem? hc2)) (ok2.put hc2 hn (.lst (ra2.erase _))) (.of rw_)
              · cases hp
            · cases mk
        · cases m
      · cases m
    | _ => cases m
  | _ => cases m
/-! ### x[::-1] -/
theorem sd_rev {a : Expr} {x : E} {k : Nat} {p1 p2 p3 pos : Pos} (ha : Sd call X a x) : Sd call X (.Subscript a (.Slice none none (some (.UnaryOp .USub (.Constant (.int 1) k p1) p2)) p3) pos) (.rev x) := by
  refine .plain (fun b => PE.cq (pe_revL (ha.pe true)) fun σ H Q hq => ?_) rfl
  obtain ⟨G, cs, s, ρ, d, s', ok, en, m, kk⟩ := hq
  obtain ⟨x1, s1, m1, m⟩ := M.bind_some m
  refine ⟨G, cs, s, ρ, x1, s1, ok, en, m1, fun G1 H1 c1 v1 go1 ok1 r1 => ?_⟩
  cases x1 with
  | lst ds =>
    obtain ⟨rfl, rfl⟩ := M.pure_some m
    obtain ⟨a, xs, rfl, hH, ra⟩ := r1.B.lst ok1
    have res : Res X.K G1 H1 c1 s1 (.lst ds.reverse) Q := fun G2 H2 c2 v go2 ok2 r => kk G2 H2 c2 v (go1.trans ok1 ok go2) ok2 (.of r)
    exact ⟨a, xs, rfl, .inl (.inl hH), fun p hp => res.lst ok1 hp ra.rev⟩
  | _ => cases m
/-! ### a dict that is walked -/
theorem Go.unlock {G H G' H' : Hp} {cs cs' : List Addr} {d : Addr} {u : HO} {od : Obj} (x : Go G (upd H d (.frz od u)) cs G' H' cs') (hd : H d = some u) : Go G H cs G' (upd H' d u) cs' := by
  have hn : ∀ b, upd H d (.frz od u) b = none → H b = none := fun b h => by
    by_cases e : b = d
    · subst e; rw [upd_same] at h; cases h
    · rwa [upd_ne e] at h
  refine ⟨x.g, x.c, fun b o hb h => ?_, fun b o h => ?_, fun b h => ?_⟩
  · by_cases e : b = d
    · subst e; rw [hd] at h; cases h; exact upd_same
    · rw [upd_ne e]
      exact x.keep b o hb (by rw [upd_ne e]; exact h)
  · rcases x.newG b o h with z | z
    · exact .inl z
    · exact .inr (hn b z)
  · rcases x.newC b h with z | z
    · exact .inl z
    · exact .inr (hn b z)
theorem StOk.unlock {d : Addr} {u : HO} {od : Obj} {G' H' : Hp} {cs' : List Addr} {s' : S} {K : PySem.W.Frag} (ok : StOk K G' H' cs' s') (hd : H' d = some (.frz od u)) (hg : G' d = none) (hc : d ∉ cs') : StOk K G' (upd H' d u) cs' s' := ok.touch hg hc
theorem RepB.unlock {K : PySem.W.Frag} {d : Addr} {kvs : List (Key × V)} {od : Obj} {G' H' : Hp} {cs' : List Addr} {x : D} {v : V} (r : RepB K G' H' cs' x v) (hd : H' d = some (.frz od (.dK kvs))) : RepB K G' (upd H' d (.dK kvs)) cs' x v := by
  rcases r with r | ⟨a, xs, ds, e, rfl, h1, nc, ra⟩ | ⟨a, kvs', vs', e, rfl, h1, nc, ra⟩
  · exact .inl r
  · refine .inr (.inl ⟨a, xs, ds, e, rfl, ?_, nc, ra⟩)
    rw [upd_ne (fun z => by rw [z, hd] at h1; cases h1)]; exact h1
  · refine .inr (.inr ⟨a, kvs', vs', e, rfl, ?_, nc, ra⟩)
    by_cases z : a = d
    · subst z
      rcases h1 with h1 | ⟨o, h1⟩
      · rw [hd] at h1; cases h1
      · rw [hd] at h1; cases h1; exact .inl upd_same
    · rcases h1 with h1 | ⟨o, h1⟩
      · exact .inl (by rw [upd_ne z]; exact h1)
      · exact .inr ⟨o, by rw [upd_ne z]; exact h1⟩
theorem EnvOk.lock {K : PySem.W.Frag} {G H : Hp} {cs : List Addr} {ρ : Env} {σ : St} (en : EnvOk K G H cs ρ σ) {i : Nat} {ks vs : List D} (hρ : ρ[i]? = some (.ownd ks vs)) :
    ∃ a kvs, σ[i]? = some (some (.ref a)) ∧ H a = some (.dK kvs) ∧ G a = none ∧ a ∉ cs ∧ ∀ od, EnvOk K G (upd H a (.frz od (.dK kvs))) cs (ρ.set i (.lockd ks vs)) σ := by
  have hi : i < σ.length := by rw [← en.len]; exact (List.getElem?_eq_some_iff.mp hρ).1
  have hσ := List.getElem?_eq_getElem hi
  obtain ⟨a, kvs, e, hH, hg, hc, ek, ra⟩ := en.at_ i _ _ hρ hσ
  have hσ : σ[i]? = some (some (.ref a)) := by rw [hσ, e]
  refine ⟨a, kvs, hσ, hH, hg, hc, fun od => ⟨by rw [List.length_set]; exact en.len, fun j sj ov q1 q2 => ?_, fun j l sj sl' w hjl q1 q2 o1 o2 q3 q4 => ?_⟩⟩
  · by_cases e2 : i = j
    · subst e2
      rw [List.getElem?_set_self ((List.getElem?_eq_some_iff.mp hρ).1)] at q1
      cases q1
      rw [hσ] at q2
      cases q2
      exact ⟨a, od, kvs, rfl, upd_same, hg, hc, ek, ra⟩
    · rw [List.getElem?_set_ne e2] at q1
      have z := en.at_ j sj ov q1 q2
      cases sj with
      | no => trivial
      | val d => exact z
      | own ds =>
        obtain ⟨b, xs, rfl, hb, r⟩ := z
        have ne : b ≠ a := fun e3 => en.ap i j _ _ _ e2 hρ q1 rfl rfl hσ (by rw [q2, e3])
        exact ⟨b, xs, rfl, by rw [upd_ne ne]; exact hb, r⟩
      | ownd ks vs =>
        obtain ⟨b, xs, rfl, hb, r⟩ := z
        have ne : b ≠ a := fun e3 => en.ap i j _ _ _ e2 hρ q1 rfl rfl hσ (by rw [q2, e3])
        exact ⟨b, xs, rfl, by rw [upd_ne ne]; exact hb, r⟩
      | lockd ks vs =>
        obtain ⟨b, o, xs, rfl, hb, r⟩ := z
        have ne : b ≠ a := fun e3 => en.ap i j _ _ _ e2 hρ q1 rfl rfl hσ (by rw [q2, e3])
        exact ⟨b, o, xs, rfl, by rw [upd_ne ne]; exact hb, r⟩
  · have up : ∀ {j : Nat} {sj : Slot}, (ρ.set i (.lockd ks vs))[j]? = some sj → sj.isOwn = true → ∃ sk : Slot, ρ[j]? = some sk ∧ sk.isOwn = true := fun {j sj} q o => by
      by_cases e2 : i = j
      · subst e2; exact ⟨_, hρ, rfl⟩
      · rw [List.getElem?_set_ne e2] at q; exact ⟨_, q, o⟩
    obtain ⟨s1, p1, p2⟩ := up q1 o1
    obtain ⟨s2, p3, p4⟩ := up q2 o2
    exact en.ap j l s1 s2 w hjl p1 p3 p2 p4 q3 q4
theorem sd_lk {a : Expr} {x : E} {i : Nat} (hp : plainT a = true) (ha : Sd call X a x) : Sd call X a (.lk i x) := by
  refine .plain (fun b => PE.cq (pe_lock (ha.pe false)) fun σ H Q hq => ?_) hp
  obtain ⟨G, cs, s, ρ, d, s', ok, en, m, kk⟩ := hq
  have m : (match ρ[i]? with
    | some (.ownd ks vs) => ev call x false (ρ.set i (.lockd ks vs))
    | _ => M.fail) s = some (d, s') := m
  cases hρ : ρ[i]? with
  | none => rw [hρ] at m; cases m
  | some sl =>
    rw [hρ] at m
    cases sl with
    | ownd ks vs =>
      obtain ⟨q, kvs, hσ, hH, hg, hc, en2⟩ := en.lock hρ
      refine ⟨q, _, hH, trivial, fun od => ⟨G, cs, s, _, d, s', ok.touch hg hc, en2 od, m, fun G1 H1 c1 v go1 ok1 r1 => ?_⟩⟩
      obtain ⟨k1, k2, k3⟩ := go1.own (upd_same) hg hc
      exact ⟨k1, kk G1 _ c1 v (go1.unlock hH) (ok1.unlock k1 k2 k3) (.of r1)⟩
    | _ => cases m
/-! ### range with a step -/
theorem wd_rst {K : PySem.W.Frag} {G H : Hp} {cs : List Addr} {b : Bool} {lo st : Int} {n : Nat} : WD K G H cs b (Itc lo st n) (rngSt lo st n) := by
  have hl : (rngSt lo st n).length = n := by unfold rngSt; simp
  refine ⟨fun i H' hi h => ?_, fun H' h => ?_, fun i H' x H2 hi h y => ?_⟩
  · rw [hl] at hi; exact hi
  · show n ≤ (rngSt lo st n).length; rw [hl]; exact Nat.le_refl _
  · rw [hl] at hi
    obtain ⟨rfl, rfl⟩ := y
    exact ⟨_, by unfold rngSt; rw [List.getElem?_map, List.getElem?_range hi]; rfl, .inl ⟨rfl, .int _⟩⟩
theorem si_rng3 {a c e : Expr} {x y z : E} {f : Str} {pc pos : Pos} (hf : ∀ x ∈ bltNames, X.mg x = none) (hx : f = ("range" : Str)) (hg : Gl X f) (na : noStar a = true) (nc : noStar c = true) (ne : noStar e = true) (ha : Sd call X a x) (hc : Sd call X c y) (he : Sd call X e z) :
    Si call X (.Call (.Name f pc) [a, c, e] [] pos) (.rng3 x y z) := by
  subst hx
  refine ⟨fun tg b => PI.cq (pi_range3 hg (hf _ (by decide +kernel)) (pa_cons (ha.pe false) (pa_cons (hc.pe false) (pa_cons (he.pe false) pa_nil (star_ok ne)) (star_ok nc)) (star_ok na)) (star_ok na) (anyStar (by show (noStar c && (noStar e && true)) = true; rw [nc, ne]; rfl))) fun σ H R hq => ?_, rfl⟩
  obtain ⟨G, cs, s, ρ, items, s', ok, en, m, k⟩ := hq
  obtain ⟨x1, s1, m1, m⟩ := M.bind_some m
  obtain ⟨x2, s2, m2, m⟩ := M.bind_some m
  obtain ⟨x3, s3, m3, m⟩ := M.bind_some m
  refine ⟨G, cs, s, ρ, x1, s1, ok, en, m1, fun G1 H1 c1 v1 go1 ok1 r1 => ⟨G1, c1, s1, ρ, x2, s2, ok1, en.go ok go1, m2, fun G2 H2 c2 v2 go2 ok2 r2 => ⟨G2, c2, s2, ρ, x3, s3, ok2, (en.go ok go1).go ok1 go2, m3, fun G3 H3 c3 v3 go3 ok3 r3 => ?_⟩⟩⟩
  cases x1 with
  | int lo =>
    cases x2 with
    | int hi =>
      cases x3 with
      | int st =>
        have m : (if rngC lo hi st then M.pure (rngSt lo st (Builtin.Range.rangeSize lo hi st).toNat) else M.fail) s3 = some (items, s') := m
        split at m
        · rename_i hc
          obtain ⟨rfl, rfl⟩ := M.pure_some m
          obtain rfl := r1.B.int
          obtain rfl := r2.B.int
          obtain rfl := r3.B.int
          obtain ⟨h1, h⟩ := Bool.and_eq_true_iff.mp hc
          obtain ⟨h2, h⟩ := Bool.and_eq_true_iff.mp h
          obtain ⟨h3, h4⟩ := Bool.and_eq_true_iff.mp h
          exact ⟨lo, hi, st, _, rfl, ⟨of_decide_eq_true h1, of_decide_eq_true h2, h3, (Int.toNat_of_nonneg (of_decide_eq_true h4)).symm⟩, k G3 H3 c3 _ ((go1.trans ok1 ok go2).trans ok2 ok go3) ok3 wd_rst⟩
        · cases m
      | _ => cases m
    | _ => cases m
  | _ => cases m
end
end PV
set_option Elab.async false
set_option linter.all false
set_option autoImplicit false
set_option maxRecDepth 100000
set_option maxHeartbeats 4000000
namespace PV
open PySem PySem.Spec L2
open PyProof.Rows hiding St
section
variable {K : PySem.W.Frag} {G H G0 H0 : Hp} {cs c0 : List Addr} {s : S}
theorem Res.newD {ks vs : List D} {Q : VK} (q : Res K G H cs s (.dct ks vs) Q) : NewL K G H cs s (.dct ks vs) (LkQ Q) := by
  refine ⟨fun _ _ _ _ _ _ e => (by cases e), fun G' H' cs' vs' a kvs e go ok hH h0 hg hc ra => ?_⟩
  cases e
  exact ⟨a, kvs, rfl, hH, fun od => q (upd G' a (.frz od (.dK kvs))) _ cs' (.ref a) ((go.touch h0).freeze h0 hg) ((ok.touch hg hc).freeze hg hc upd_same) (.dct upd_same (ra.mono (same_upd hg) (List.prefix_refl _)))⟩
theorem dput_len (ks vs : List D) (k d : D) : (dput ks vs k d).1.length ≤ ks.length + 1 := by
  unfold dput
  split
  · exact Nat.le_succ _
  · simp
theorem dputs_len : ∀ (ps : List (D × D)) (r : List D × List D), (dputs ps r).1.length ≤ r.1.length + ps.length
  | [], r => Nat.le_refl _
  | p :: ps, r => by
    have h1 := dputs_len ps (dput r.1 r.2 p.1 p.2)
    have h2 := dput_len r.1 r.2 p.1 p.2
    show (dputs ps (dput r.1 r.2 p.1 p.2)).1.length ≤ _
    rw [List.length_cons]; omega
theorem dputs_app : ∀ (ps qs : List (D × D)) (r : List D × List D), dputs (ps ++ qs) r = dputs qs (dputs ps r)
  | [], _, _ => rfl
  | p :: ps, qs, r => dputs_app ps qs _
theorem prL_app : ∀ {xs ys : List D} {ps : List (D × D)}, prL (xs ++ ys) = some ps → ∃ as bs, prL xs = some as ∧ prL ys = some bs ∧ ps = as ++ bs
  | [], ys, ps, h => ⟨[], ps, rfl, h, rfl⟩
  | x :: xs, ys, ps, h => by
    rw [List.cons_append] at h
    unfold prL at h
    split at h
    · rename_i e2; cases e2
    · rename_i k v ds' e2
      cases e2
      split at h
      · rename_i hk
        obtain ⟨qs, hq, rfl⟩ := Option.map_eq_some_iff.mp h
        obtain ⟨as, bs, h1, h2, rfl⟩ := prL_app hq
        exact ⟨(k, v) :: as, bs, by unfold prL; rw [if_pos hk, h1]; rfl, h2, rfl⟩
      · cases h
    · cases h
end
section
variable {p : Pr} {N : List Str} {call : Nat → List D → M D} {X : Cx} {lv : Nat} {sc : Scope} {tg : Expr}
/-! ### displays -/
/-- the pairs of a display, each by itself -/
inductive Sp (call : Nat → List D → M D) (X : Cx) : List (Option Expr) → List Expr → Ps → Prop
  | nil : Sp call X [] [] .nil
  | cons {k v : Expr} {ks : List (Option Expr)} {vs : List Expr} {x y : E} {ps : Ps} : Sd call X k x → Sd call X v y → Sp call X ks vs ps → Sp call X (some k :: ks) (v :: vs) (.cons x y ps)
theorem Sp.all {ks : List (Option Expr)} {vs : List Expr} {ps : Ps} (h : Sp call X ks vs ps) : ks.all (·.isSome) = true ∧ ks.length = vs.length := by
  induction h with
  | nil => exact ⟨rfl, rfl⟩
  | cons _ _ _ ih => exact ⟨by rw [List.all_cons, ih.1]; rfl, by rw [List.length_cons, List.length_cons, ih.2]⟩
def trs (call : Nat → List D → M D) (X : Cx) : Ps → List (TE × TE)
  | .nil => []
  | .cons x y ps => (tE call X x false, tE call X y false) :: trs call X ps
theorem Sp.pps {ks : List (Option Expr)} {vs : List Expr} {ps : Ps} {pos : Pos} (h : Sp call X ks vs ps) : PPs X pos ks vs (trs call X ps) := by
  induction h with
  | nil => exact pps_nil
  | cons h1 h2 _ ih => exact pps_cons (h1.pe false) (h2.pe false) ih
theorem Rep.key {K : PySem.W.Frag} {G : Hp} {cs : List Addr} {x : D} {v : V} (hk : isKey x = true) (r : Rep K G cs x v) : ∃ k, x = PV.kD k ∧ v = kV k := by
  obtain ⟨k, rfl⟩ := isKey_of hk
  exact ⟨k, rfl, Rep.kD r⟩
theorem RepKv.mono {K : PySem.W.Frag} {G G' : Hp} {cs cs' : List Addr} (e : Same G G') (c : cs <+: cs') : ∀ {ps : List (D × D)} {kvs : List (Key × V)}, RepKv K G cs ps kvs → RepKv K G' cs' ps kvs
  | _, _, .nil => .nil
  | _, _, .cons h t => .cons ⟨h.1, h.2.mono e c⟩ (RepKv.mono e c t)
theorem trs_ok : ∀ {ps : Ps} {G H : Hp} {cs : List Addr} {s s' : S} {ρ : Env} {σ : St} {r : List (D × D)} {Q : List (V × V) → Hp → Prop}, StOk X.K G H cs s → EnvOk X.K G H cs ρ σ → evPs call ps ρ s = some (r, s') →
    (∀ G' H' cs' (kvs : List (Key × V)), Go G H cs G' H' cs' → StOk X.K G' H' cs' s' → RepKv X.K G' cs' r kvs → Q (kvs.map fun kv => (kV kv.1, kv.2)) H') → tPairs (trs call X ps) σ H Q
  | .nil, G, H, cs, s, s', ρ, σ, r, Q, ok, en, m, k => by
    obtain ⟨rfl, rfl⟩ := M.pure_some m
    exact k G H cs [] .refl ok .nil
  | .cons x y ps, G, H, cs, s, s', ρ, σ, r, Q, ok, en, m, k => by
    obtain ⟨x1, s1, m1, m⟩ := M.bind_some m
    obtain ⟨y1, s2, m2, m⟩ := M.bind_some m
    split at m
    · rename_i hk
      obtain ⟨r', s3, m3, m⟩ := M.bind_some m
      obtain ⟨rfl, rfl⟩ := M.pure_some m
      refine ⟨G, cs, s, ρ, x1, s1, ok, en, m1, fun G1 H1 c1 v1 go1 ok1 r1 => ⟨G1, c1, s1, ρ, y1, s2, ok1, en.go ok go1, m2, fun G2 H2 c2 v2 go2 ok2 r2 => ?_⟩⟩
      refine trs_ok ok2 ((en.go ok go1).go ok1 go2) m3 fun G3 H3 c3 kvs go3 ok3 r3 => ?_
      have r1 : Rep X.K G1 c1 x1 v1 := r1
      have r2 : Rep X.K G2 c2 y1 v2 := r2
      obtain ⟨key, rfl, rfl⟩ := r1.key hk
      exact k G3 H3 c3 ((key, v2) :: kvs) ((go1.trans ok1 ok go2).trans ok2 ok go3) ok3 (.cons ⟨rfl, r2.mono go3.g go3.c⟩ r3)
    · cases m
theorem RepKv.len {K : PySem.W.Frag} {G : Hp} {cs : List Addr} {ps : List (D × D)} {kvs : List (Key × V)} (h : RepKv K G cs ps kvs) : ps.length = kvs.length := Paired.length h
/-- a display makes a new dict -/
theorem nl_dct {ks : List (Option Expr)} {vs : List Expr} {ps : Ps} {pos : Pos} (h : Sp call X ks vs ps) (h15 : ks.length ≤ 15) : PE X (.Dict ks vs pos) (tV X.K true (ev call (.dct ps) false)) := by
  have core : ∀ {σ : St} {H : Hp} {Q : VK} {G cs s ρ d s'}, StOk X.K G H cs s → EnvOk X.K G H cs ρ σ → ev call (.dct ps) false ρ s = some (d, s') → Val X.K true G H cs s' d Q → (ks = [] → ∃ z, d = .dct [] [] ∧ s = s' ∧ ps = z) ∧ tDisp (trs call X ps) σ H Q := by
    intro σ H Q G cs s ρ d s' ok en m k
    have k : NewL X.K G H cs s' d Q := k
    obtain ⟨r, s1, m1, m⟩ := M.bind_some m
    split at m
    · rename_i hl
      obtain ⟨rfl, rfl⟩ := M.pure_some m
      refine ⟨fun e => ?_, fun p hp => ?_⟩
      · subst e
        cases h
        obtain ⟨rfl, rfl⟩ := M.pure_some m1
        exact ⟨_, rfl, rfl, rfl⟩
      · have hg : G p = none := ok.sub.free hp
        have hc : p ∉ cs := fun hm => by
          obtain ⟨xs, q⟩ := ok.inH hm
          rw [hp] at q; cases q
        refine trs_ok (ok.touch hg hc) (en.go ok ((Go.refl (G := G) (H := H) (cs := cs)).touch hp)) m1 fun G1 H1 c1 kvs go1 ok1 r1 => ?_
        obtain ⟨k1, k2, k3⟩ := go1.own upd_same hg hc
        refine ⟨k1, kvs, rfl, by rw [← r1.len]; exact hl, ?_⟩
        obtain ⟨d1, d2⟩ := dputs_ok (acc := []) (vs := []) .nil r1
        have d1 : (dputs r ([], [])).1 = (mergeK [] kvs).map fun p => kD p.1 := d1
        rw [d1] at k
        have goT : Go G H cs G (upd H p (.dK [])) cs := (Go.refl (G := G) (H := H) (cs := cs)).touch hp
        exact k.d G1 _ c1 _ p _ rfl (((goT.trans (ok.touch hg hc) ok go1)).touch hp) (ok1.touch k2 k3) upd_same hp k2 k3 d2
    · cases m
  by_cases e : ks = []
  · subst e
    cases h
    refine PE.cq pe_dnewK fun σ H Q hq => ?_
    obtain ⟨G, cs, s, ρ, d, s', ok, en, m, _, k⟩ := hq
    obtain ⟨_, rfl, rfl, _⟩ := (core ok en m k).1 rfl
    have k : NewL X.K G H cs s (.dct [] []) Q := k
    exact fun p hp => NewL.atD (kvs := []) (vs := []) k .refl ok hp .nil
  · refine PE.cq (pe_disp h.pps h.all.1 h.all.2 e h15) fun σ H Q hq => ?_
    obtain ⟨G, cs, s, ρ, d, s', ok, en, m, _, k⟩ := hq
    exact (core ok en m k).2
theorem sd_dct {ks : List (Option Expr)} {vs : List Expr} {ps : Ps} {pos : Pos} (h : Sp call X ks vs ps) (h15 : ks.length ≤ 15) : Sd call X (.Dict ks vs pos) (.dct ps) := by
  refine .plain (fun b => PE.cq (PE.lk (nl_dct h h15)) fun σ H Q hq => ?_) rfl
  obtain ⟨G, cs, s, ρ, d, s', ok, en, m, k⟩ := hq
  have hd : ∃ ks vs, d = .dct ks vs := by
    obtain ⟨r, s1, m1, m2⟩ := M.bind_some m
    split at m2
    · exact ⟨_, _, (M.pure_some m2).1.symm⟩
    · cases m2
  obtain ⟨ks', vs', rfl⟩ := hd
  have res : Res X.K G H cs s' (.dct ks' vs') Q := fun G' H' cs' v go ok' r => k G' H' cs' v go ok' (.of r)
  exact ⟨G, cs, s, ρ, _, s', ok, en, m, fun _ => rfl, res.newD⟩
/-! ### comprehensions -/
def dcF (call : Nat → List D → M D) (g : Tg) (ts : Es) (x z : E) (ρ0 : Env) : D → M (Option D) := fun d => M.bind (M.of (bind g d ρ0)) fun ρ' => M.bind (tests call ts ρ') fun t => if t then M.bind (ev call x false ρ') fun a => M.bind (ev call z false ρ') fun y => if isKey a then M.pure (some (.tup [a, y])) else M.fail else M.pure none
theorem sd_dcore {own : List Nat} {g : Tg} {it : It} {ts : Es} {x z : E} {kx vx iter tgx : Expr} {ifs : List Expr} {scope : Scope} (hN : X.N.Nodup) (ok0 : BlkOk X.N X.env.scope scope (own.map fun i => (X.N[i]?.getD "", i))) (ho : tgOwn own g = true) :
    ∀ (σ : St) (H : Hp) (Q : VK), tV X.K true (ev call (.dcomp own g it ts x z) false) σ H Q →
      tDc (tI X.K true (evI call it true)) (tG X.K g) (tT X.K (tests call ts)) (tE call X x false) (tE call X z false) own σ H Q := by
  intro σ H Q hq
  obtain ⟨G, cs, s, ρ, d, s', ok, en, m, _, k⟩ := hq
  obtain ⟨items, s1, m1, m⟩ := M.bind_some m
  obtain ⟨r, s2, m2, m⟩ := M.bind_some m
  obtain ⟨ps, s3, m3, m⟩ := M.bind_some m
  obtain ⟨hps, rfl⟩ := M.of_some m3
  split at m
  case isFalse => cases m
  case isTrue hlen =>
  obtain ⟨rfl, rfl⟩ := M.pure_some m
  have k : NewL X.K G H cs s2 (.dct (dputs ps ([], [])).1 (dputs ps ([], [])).2) Q := k
  refine ⟨G, cs, s, ρ, items, s1, ok, en, m1, fun G1 H1 c1 J go1 ok1 wd D hD => ?_⟩
  obtain ⟨hg1, hc1, h0⟩ := NewL.at' (s0 := s) ok1 go1 hD
  rw [line_eq] at hlen
  refine ⟨fun i j H' => j = items.length - i ∧ i ≤ items.length ∧ ∃ G' c' s3 done rest kvs, Go G1 H1 c1 G' H' c' ∧ StOk X.K G' H' c' s3 ∧ G' D = none ∧ D ∉ c' ∧ H' D = some (.dK kvs) ∧ (dputs done ([], [])).1 = kvs.map (fun p => kD p.1) ∧ RepAll X.K G' c' (dputs done ([], [])).2 (kvs.map Prod.snd) ∧ (∃ q, prL rest = some q ∧ ps = done ++ q) ∧
      mapMd (dcF call g ts x z (wipeE ρ own)) (items.drop i) s3 = some (rest, s2), ?_, ?_⟩
  · refine ⟨items.length, by simp, Nat.zero_le _, G1, c1, s1, [], r, [], Go.refl.touch hD, ok1.touch hg1 hc1, hg1, hc1, upd_same, rfl, .nil, ⟨ps, hps, rfl⟩, m2⟩
  · rintro i j H' ⟨rfl, hi, G', c', s3, done, rest, kvs, go', ok', hgD, hcD, hHD, hk1, ra, ⟨q, hq, hr⟩, hm⟩
    by_cases hlt : i < items.length
    · refine .inr ⟨wd.go i H' hlt (show ∀ a o, a ∉ c1 → H1 a = some o → H' a = some o from go'.keep), ?_⟩
      refine ⟨fun H'' => i + 1 ≤ items.length ∧ ∃ G' c' s3 done rest kvs, Go G1 H1 c1 G' H'' c' ∧ StOk X.K G' H'' c' s3 ∧ G' D = none ∧ D ∉ c' ∧ H'' D = some (.dK kvs) ∧ (dputs done ([], [])).1 = kvs.map (fun p => kD p.1) ∧ RepAll X.K G' c' (dputs done ([], [])).2 (kvs.map Prod.snd) ∧ (∃ q, prL rest = some q ∧ ps = done ++ q) ∧
        mapMd (dcF call g ts x z (wipeE ρ own)) (items.drop (i + 1)) s3 = some (rest, s2),
        fun H'' h => ⟨items.length - (i + 1), by omega, rfl, h⟩, fun v Hy y => ?_⟩
      obtain ⟨dv, hdv, hyv⟩ := wd.yld i H' v Hy hlt (show ∀ a o, a ∉ c1 → H1 a = some o → H' a = some o from go'.keep) y
      have item : ∃ Gy, Go G' H' c' Gy Hy c' ∧ StOk X.K Gy Hy c' s3 ∧ Rep X.K Gy c' dv v := by
        rcases hyv with ⟨rfl, rv⟩ | ⟨T, ys, ds, rfl, hT, rfl, rfl, rv⟩
        · exact ⟨G', .refl, ok', rv.mono go'.g go'.c⟩
        · obtain ⟨gn, on⟩ := go_new (o := .tup ys) ok' hT
          exact ⟨_, gn, on, .tup (.inl (.inl upd_same)) ((rv.mono go'.g go'.c).mono gn.g gn.c)⟩
      obtain ⟨Gy, goy, oky, rv⟩ := item
      have go2 := go'.trans ok' ok1 goy
      obtain ⟨hHD2, hgD2, hcD2⟩ := goy.own hHD hgD hcD
      have hdrop : items.drop i = dv :: items.drop (i + 1) := by
        rw [List.drop_eq_getElem_cons hlt]
        congr 1
        exact Option.some.inj ((List.getElem?_eq_getElem hlt).symm.trans hdv)
      rw [hdrop] at hm
      unfold mapMd at hm
      cases qf : dcF call g ts x z (wipeE ρ own) dv s3 with
      | none => rw [qf] at hm; cases hm
      | some o =>
        obtain ⟨o, s4⟩ := o
        rw [qf] at hm
        simp only at hm
        cases qm : mapMd (dcF call g ts x z (wipeE ρ own)) (items.drop (i + 1)) s4 with
        | none => rw [qm] at hm; cases hm
        | some r4 =>
          obtain ⟨r4, s5⟩ := r4
          rw [qm] at hm
          simp only [Option.some.injEq, Prod.mk.injEq] at hm
          obtain ⟨hrest, rfl⟩ := hm
          obtain ⟨ρ', s6, b1, qf⟩ := M.bind_some qf
          obtain ⟨b2, rfl⟩ := M.of_some b1
          obtain ⟨t, s7, b3, qf⟩ := M.bind_some qf
          have en2 : EnvOk X.K Gy Hy c' (wipeE ρ own) (wipe σ own) := ((en.go ok go1).go ok1 go2).wipe own
          refine ⟨Gy, c', s3, wipeE ρ own, dv, ρ', oky, en2, rv, b2, fun σ2 en3 w2 _ => ⟨by rw [w2 own ho, wipe_wipe], ?_⟩⟩
          refine ⟨Gy, c', s3, ρ', t, s7, oky, en3, b3, fun G8 H8 c8 go8 ok8 => ?_⟩
          obtain ⟨hHD3, hgD3, hcD3⟩ := go8.own hHD2 hgD2 hcD2
          have go9 := go2.trans oky ok1 go8
          cases t with
          | true =>
            simp only [if_true] at qf ⊢
            obtain ⟨av, s9, b4, qf⟩ := M.bind_some qf
            obtain ⟨yv, s10, b5, qf⟩ := M.bind_some qf
            split at qf
            case isFalse => cases qf
            case isTrue hky =>
            obtain ⟨rfl, rfl⟩ := M.pure_some qf
            refine ⟨G8, c8, s7, ρ', av, s9, ok8, en3.go oky go8, b4, fun G10 H10 c10 v10 go10 ok10 r10 => ⟨G10, c10, s9, ρ', yv, s10, ok10, (en3.go oky go8).go ok8 go10, b5, fun G11 H11 c11 v11 go11 ok11 r11 => ?_⟩⟩
            obtain ⟨hHD4, hgD4, hcD4⟩ := go10.own hHD3 hgD3 hcD3
            obtain ⟨hHD5, hgD5, hcD5⟩ := go11.own hHD4 hgD4 hcD4
            have go12 := (go9.trans ok8 ok1 go10).trans ok10 ok1 go11
            have r10 : Rep X.K G10 c10 av v10 := r10
            have r11 : Rep X.K G11 c11 yv v11 := r11
            obtain ⟨key, rfl, rfl⟩ := r10.key hky
            have ra5 := (((ra.mono goy.g goy.c).mono go8.g go8.c).mono go10.g go10.c).mono go11.g go11.c
            obtain ⟨d1, d2⟩ := dput_ok (k := key) ra5 r11
            -- what remains
            have hrest2 : prL (PV.D.tup [kD key, yv] :: r4) = some q := by rw [← hq, ← hrest]; rfl
            obtain ⟨as, bs, e1, e2, rfl⟩ := prL_app (xs := [PV.D.tup [kD key, yv]]) (ys := r4) hrest2
            have e1 : (if isKey (kD key) then ([] : List (PV.D × PV.D)).map id |> fun l => some ((kD key, yv) :: l) else none) = some as := by
              have : prL [PV.D.tup [kD key, yv]] = some as := e1
              unfold prL at this
              rw [if_pos hky] at this ⊢
              exact this
            rw [if_pos hky] at e1
            cases e1
            have e6 : dputs (done ++ [(kD key, yv)]) ([], []) = dput (kvs.map fun p => kD p.1) (dputs done ([], [])).2 (kD key) yv := by
              rw [dputs_app]
              show dput (dputs done ([], [])).1 (dputs done ([], [])).2 (kD key) yv = _
              rw [hk1]
            refine ⟨kvs, key, rfl, hHD5, ?_, hlt, G11, c11, s10, done ++ [(kD key, yv)], r4, putK kvs key v11, go12.touch hD, ok11.touch hgD5 hcD5, hgD5, hcD5, upd_same, by rw [e6]; exact d1, by rw [e6]; exact d2, ⟨bs, e2, ?_⟩, qm⟩
            · have hl := congrArg List.length hr
              have hl2 := dputs_len done ([], [])
              rw [hk1, List.length_map] at hl2
              simp only [List.length_append, List.length_cons, List.map_nil, List.length_nil] at hl hl2
              omega
            · rw [hr]; simp
          | false =>
            simp only [Bool.false_eq_true, if_false] at qf ⊢
            obtain ⟨rfl, rfl⟩ := M.pure_some qf
            exact ⟨hlt, G8, c8, s7, done, r4, kvs, go9, ok8, hgD3, hcD3, hHD3, hk1, (ra.mono goy.g goy.c).mono go8.g go8.c, ⟨q, by rw [← hq, ← hrest]; rfl, hr⟩, qm⟩
    · obtain rfl : i = items.length := by omega
      rw [List.drop_length] at hm
      simp only [mapMd, Option.some.injEq, Prod.mk.injEq] at hm
      obtain ⟨rfl, rfl⟩ := hm
      cases hq
      rw [List.append_nil] at hr
      subst hr
      refine .inl ⟨wd.stop H' (show ∀ a o, a ∉ c1 → H1 a = some o → H' a = some o from go'.keep), ?_⟩
      rw [hk1] at k
      exact k.d G' H' c' _ D kvs rfl (go1.trans ok1 ok go') ok' hHD h0 hgD hcD ra
end
end PV
set_option Elab.async false
set_option linter.all false
set_option autoImplicit false
set_option maxRecDepth 100000
set_option maxHeartbeats 4000000
namespace PV
open PySem PySem.Spec L2
open PyProof.Rows hiding St
section
variable {p : Pr} {N : List Str} {call : Nat → List D → M D} {lv : Nat}
theorem XOk.blk {sc : Scope} {X : Cx} (o : XOk p N call lv sc X) (s : Shared) (H : Hp) (scope : Scope) (C : Addr) (cl : List (Str × Addr)) (fp : List Addr) : XOk p N call lv (relS scope sc) (X.blk s H scope (compEnvC scope cl C X.env) fp) := by
  refine ⟨o.nN, o.nd, o.calm, o.room, ?_, o.free, o.glob, fun i q h => ⟨(o.fns i q h).ex⟩⟩
  show relS scope X.env.scope = relS scope sc
  rw [o.sc]
/-- the names a target may take -/
structure TOk (N : List Str) (sc : Scope) (X : Cx) : Prop where
  nN : X.N = N
  nd : N.Nodup
  calm : X.calm = true
  tk : ∀ x, loc sc x = true → Loc X.env.scope x ∧ (X.fn x = true ∨ X.env.scope.names.lookup x = some .local)
theorem TOk.blk {sc : Scope} {X : Cx} (o : XOk p N call lv sc X) (s : Shared) (H : Hp) (scope : Scope) (C : Addr) (cl : List (Str × Addr)) (fp : List Addr) : TOk N scope (X.blk s H scope (compEnvC scope cl C X.env) fp) := by
  refine ⟨o.nN, o.nd, o.calm, fun x h => ?_⟩
  have e : (X.blk s H scope (compEnvC scope cl C X.env) fp).env.scope = relS scope X.env.scope := rfl
  rcases loc_ok h with h | h
  · have h2 : (relS scope X.env.scope).names.lookup x = some .local := lookup_relS_keep (by decide) h
    exact ⟨.inl (by rw [e]; exact h2), .inr (by rw [e]; exact h2)⟩
  · have h2 : (relS scope X.env.scope).names.lookup x = some .cell := lookup_relS_keep (by decide) h
    exact ⟨.inr (by rw [e]; exact h2), .inl (by show (scope.names.lookup x == some .cell) = true; rw [h]; rfl)⟩
theorem b2 {a c : Bool} (h : (a && c) = true) : a = true ∧ c = true := Bool.and_eq_true_iff.mp h
theorem dt {q : Prop} [Decidable q] (h : decide q = true) : q := of_decide_eq_true h
structure All (p : Pr) (N : List Str) (call : Nat → List D → M D) (lv n : Nat) : Prop where
  fe : ∀ sc ast e X, XOk p N call lv sc X → chkE p N n sc ast e = true → Sd call X ast e
  fm : ∀ sc ast e X, XOk p N call lv sc X → chkM p N n sc ast e = true → Sd call X ast e
  fes : ∀ sc ast e X, XOk p N call lv sc X → chkEs p N n sc ast e = true → Sa call X ast e
  fps : ∀ sc ks vs ps X, XOk p N call lv sc X → chkPs p N n sc ks vs ps = true → Sp call X ks vs ps
  fp : ∀ sc ast e X, XOk p N call lv sc X → chkP p N n sc ast e = true → So call X ast e
  fc : ∀ sc ast e X, XOk p N call lv sc X → chkC p N n sc ast e = true → Sc call X ast e
  fi : ∀ sc ast e X, XOk p N call lv sc X → chkI p N n sc ast e = true → Si call X ast e
  ft : ∀ sc ast e X, TOk N sc X → chkT p N n sc ast e = true → St1 X ast e
  fts : ∀ sc ast e X, TOk N sc X → chkTs p N n sc ast e = true → Sts X ast e
theorem any_glob {sc : Scope} {X : Cx} {x : Str} {d : D} (o : XOk p N call lv sc X) (h : (p.gl.any fun q => decide (q.1 = x) && sameD q.2 d) = true) : ∃ u v, X.mg x = some u ∧ RelV v u ∧ ∀ G cs, Rep X.K G cs d v := by
  obtain ⟨q, hq, h2⟩ := List.any_eq_true.mp h
  obtain ⟨h3, h4⟩ := b2 h2
  obtain ⟨u, v, h5, h6, h7⟩ := o.glob q hq
  rw [← dt h3, ← sameD_eq _ _ h4]
  exact ⟨u, v, h5, h6, h7⟩
/-- a dict comprehension's parts -/
structure DcOk (call : Nat → List D → M D) (X : Cx) (ke ve tgx iter : Expr) (ifs : List Expr) (scope : Scope) (own : List Nat) (g : Tg) (it : It) (ts : Es) (x y : E) : Prop where
  cm : X.calm = true
  nd : X.N.Nodup
  bk : BlkOk X.N X.env.scope scope (own.map fun (i : Nat) => ((X.N[i]?).getD ("" : Str), i))
  ow : tgOwn own g = true
  hi : Si call X iter it
  hg : ∀ (s : Shared) (H : Hp) (C : Addr) (cl : List (Str × Addr)) (fp : List Addr), St1 (X.blk s H scope (compEnvC scope cl C X.env) fp) tgx g
  ht : ∀ (s : Shared) (H : Hp) (C : Addr) (cl : List (Str × Addr)) (fp : List Addr), Sc call (X.blk s H scope (compEnvC scope cl C X.env) fp) ifs ts
  hk : ∀ (s : Shared) (H : Hp) (C : Addr) (cl : List (Str × Addr)) (fp : List Addr), Sd call (X.blk s H scope (compEnvC scope cl C X.env) fp) ke x
  hv : ∀ (s : Shared) (H : Hp) (C : Addr) (cl : List (Str × Addr)) (fp : List Addr), Sd call (X.blk s H scope (compEnvC scope cl C X.env) fp) ve y
theorem dc_of {n : Nat} (ih : All p N call lv n) {sc : Scope} {X : Cx} (o : XOk p N call lv sc X) {ke ve tgx iter : Expr} {ifs : List Expr} {scope : Scope} {own : List Nat} {g : Tg} {it : It} {ts : Es} {x y : E}
    (h : (blkC N sc scope (own.map fun i => (N[i]?.getD "", i)) && (tgOwn own g && (chkI p N n sc iter it && (chkT p N n scope tgx g && (chkC p N n (relS scope sc) ifs ts && (chkE p N n (relS scope sc) ke x && chkE p N n (relS scope sc) ve y)))))) = true) :
    DcOk call X ke ve tgx iter ifs scope own g it ts x y := by
  obtain ⟨h1, h⟩ := b2 h
  obtain ⟨h2, h⟩ := b2 h
  obtain ⟨h3, h⟩ := b2 h
  obtain ⟨h4, h⟩ := b2 h
  obtain ⟨h5, h⟩ := b2 h
  obtain ⟨h6, h7⟩ := b2 h
  exact ⟨o.calm, by rw [o.nN]; exact o.nd, by rw [o.nN, o.sc]; exact blkOk_by h1, h2, ih.fi _ _ _ _ o h3, fun s H C cl fp => ih.ft _ _ _ _ (TOk.blk o s H scope C cl fp) h4, fun s H C cl fp => ih.fc _ _ _ _ (o.blk s H scope C cl fp) h5,
    fun s H C cl fp => ih.fe _ _ _ _ (o.blk s H scope C cl fp) h6, fun s H C cl fp => ih.fe _ _ _ _ (o.blk s H scope C cl fp) h7⟩
theorem own_map {N : List Str} {own : List Nat} : (own.map fun (i : Nat) => ((N[i]?).getD ("" : Str), i)).map (·.2) = own := by rw [List.map_map]; exact List.map_id _
theorem DcOk.pe {X : Cx} {ke ve tgx iter : Expr} {ifs : List Expr} {scope : Scope} {own : List Nat} {g : Tg} {it : It} {ts : Es} {x y : E} {pos : Pos} (h : DcOk call X ke ve tgx iter ifs scope own g it ts x y) :
    PE X (.DictComp ke ve [⟨tgx, iter, ifs, 0⟩] scope pos) (tDc (tI X.K true (evI call it true)) (tG X.K g) (tT X.K (tests call ts)) (tE call X x false) (tE call X y false) own) := by
  have := pe_dc (X := X) (pos := pos) (wi := tI X.K true (evI call it true)) (g := tG X.K g) (tt := tT X.K (tests call ts)) (tk := tE call X x false) (tv := tE call X y false) h.cm h.nd (h.hi.pi tgx true) h.bk (fun s H C cl fp => (h.hg s H C cl fp).pg) (fun s H C cl fp => (h.ht s H C cl fp).pt) (fun s H C cl fp => (h.hk s H C cl fp).pe false) (fun s H C cl fp => (h.hv s H C cl fp).pe false) (setI_ok h.hi.fs _)
  rw [own_map] at this
  exact this
theorem nl_dcomp {X : Cx} {ke ve tgx iter : Expr} {ifs : List Expr} {scope : Scope} {own : List Nat} {g : Tg} {it : It} {ts : Es} {x y : E} {pos : Pos} (h : DcOk call X ke ve tgx iter ifs scope own g it ts x y) :
    PE X (.DictComp ke ve [⟨tgx, iter, ifs, 0⟩] scope pos) (tV X.K true (ev call (.dcomp own g it ts x y) false)) := PE.cq h.pe (sd_dcore (kx := ke) (vx := ve) (iter := iter) (tgx := tgx) (ifs := ifs) h.nd h.bk h.ow)
theorem sd_dcomp {X : Cx} {ke ve tgx iter : Expr} {ifs : List Expr} {scope : Scope} {own : List Nat} {g : Tg} {it : It} {ts : Es} {x y : E} {pos : Pos} (h : DcOk call X ke ve tgx iter ifs scope own g it ts x y) : Sd call X (.DictComp ke ve [⟨tgx, iter, ifs, 0⟩] scope pos) (.dcomp own g it ts x y) := by
  refine .plain (fun b => PE.cq (PE.lk (nl_dcomp h)) fun σ H Q hq => ?_) rfl
  obtain ⟨G, cs, s, ρ, d, s', ok, en, m, k⟩ := hq
  have hd : ∃ ks vs, d = .dct ks vs := by
    obtain ⟨r, s1, m1, m2⟩ := M.bind_some m
    obtain ⟨r, s1, m1, m2⟩ := M.bind_some m2
    obtain ⟨r, s1, m1, m2⟩ := M.bind_some m2
    split at m2
    · exact ⟨_, _, (M.pure_some m2).1.symm⟩
    · cases m2
  obtain ⟨ks', vs', rfl⟩ := hd
  have res : Res X.K G H cs s' (.dct ks' vs') Q := fun G' H' cs' v go ok' r => k G' H' cs' v go ok' (.of r)
  exact ⟨G, cs, s, ρ, _, s', ok, en, m, fun _ => rfl, res.newD⟩
theorem all_snd (hlen : ∀ i q, p.fns[i]? = some q → ∀ ds s r, call i ds s = some r → ds.length = q.2) : ∀ n, All p N call lv n
  | 0 => ⟨fun _ _ _ _ _ h => by simp [chkE] at h, fun _ _ _ _ _ h => by simp [chkM] at h, fun _ _ _ _ _ h => by simp [chkEs] at h, fun _ _ _ _ _ _ h => by simp [chkPs] at h, fun _ _ _ _ _ h => by simp [chkP] at h, fun _ _ _ _ _ h => by simp [chkC] at h, fun _ _ _ _ _ h => by simp [chkI] at h, fun _ _ _ _ _ h => by simp [chkT] at h, fun _ _ _ _ _ h => by simp [chkTs] at h⟩
  | n + 1 => by
    have ih := all_snd hlen n
    refine ⟨fun sc ast e X o h => ?_, fun sc ast e X o h => ?_, fun sc ast e X o h => ?_, fun sc ks vs ps X o h => ?_, fun sc ast e X o h => ?_, fun sc ast e X o h => ?_, fun sc ast e X o h => ?_, fun sc ast e X o h => ?_, fun sc ast e X o h => ?_⟩
    · cases e with
      | lk i e =>
        rw [chkE] at h
        rcases Bool.or_eq_true_iff.mp h with h | h
        · obtain ⟨h1, h2⟩ := b2 h
          exact sd_lk h1 (ih.fe _ _ _ _ o h2)
        · exact ih.fm _ _ _ _ o h
      | _ => exact ih.fm _ _ _ _ o (by simpa [chkE] using h)
    · have gl : ∀ {x : Str}, gim sc x = true → Gl X x := fun {x} h => by show X.env.scope.names.lookup x = _; rw [o.sc]; exact dt h
      cases ast with
      | BoolOp op vs pos =>
        match vs, h with
        | [], h => simp [chkM] at h
        | [a], h => exact sd_one (ih.fe sc a e X o (by simpa [chkM] using h))
        | a :: c :: r, h =>
          cases op <;> cases e <;> first
            | (simp [chkM] at h; done)
            | (obtain ⟨h1, h2⟩ := b2 (by simpa [chkM] using h); first | exact sd_and (ih.fe _ _ _ _ o h1) (ih.fe _ _ _ _ o h2) | exact sd_or (ih.fe _ _ _ _ o h1) (ih.fe _ _ _ _ o h2))
      | BinOp a op c pos =>
        cases e with
        | bin op' x y =>
          obtain ⟨h1, h⟩ := b2 (show (decide (op = opA op') && (chkE p N n sc a x && chkE p N n sc c y)) = true by simpa [chkM] using h)
          obtain ⟨h2, h3⟩ := b2 h
          rw [dt h1]
          exact sd_bin (ih.fe _ _ _ _ o h2) (ih.fe _ _ _ _ o h3)
        | _ => simp [chkM] at h
      | UnaryOp op a pos =>
        cases op <;> cases e <;> first
          | (simp [chkM] at h; done)
          | exact sd_neg (ih.fe _ _ _ _ o (by simpa [chkM] using h))
          | exact sd_not (ih.fe _ _ _ _ o (by simpa [chkM] using h))
      | IfExp c a d pos =>
        cases e with
        | ifx z x y =>
          obtain ⟨h1, h⟩ := b2 (show (chkE p N n sc c z && (chkE p N n sc a x && chkE p N n sc d y)) = true by simpa [chkM] using h)
          obtain ⟨h2, h3⟩ := b2 h
          exact sd_ifx (ih.fe _ _ _ _ o h1) (ih.fe _ _ _ _ o h2) (ih.fe _ _ _ _ o h3)
        | _ => simp [chkM] at h
      | Compare a ops cs pos =>
        simp only [chkM] at h
        split at h
        · obtain ⟨h1, h⟩ := b2 h
          obtain ⟨h2, h⟩ := b2 h
          obtain ⟨h3, h4⟩ := b2 h
          rw [dt h1]
          exact sd_cmp o.room h2 (ih.fe _ _ _ _ o h3) (ih.fe _ _ _ _ o h4)
        · obtain ⟨h1, h⟩ := b2 h
          obtain ⟨h2, h⟩ := b2 h
          obtain ⟨h3, h⟩ := b2 h
          obtain ⟨h4, h⟩ := b2 h
          obtain ⟨h5, h6⟩ := b2 h
          rw [dt h1, dt h2]
          exact sd_chain o.room h3 (ih.fe _ _ _ _ o h4) (ih.fe _ _ _ _ o h5) (ih.fe _ _ _ _ o h6)
        · cases h
      | Constant c j pos =>
        cases e with
        | int i =>
          have h : isI c = some i := dt (by simpa [chkM] using h)
          cases c <;> first
            | (cases h; exact .const (fun _ _ => rfl) pe_int (fun _ _ => .int _) rfl)
            | cases h
        | bl i =>
          have h : isB c = some i := dt (by simpa [chkM] using h)
          cases c <;> first
            | (cases h; exact .const (fun _ _ => rfl) pe_bl (fun _ _ => .bl _) rfl)
            | cases h
        | str i =>
          have h : isS c = some i := dt (by simpa [chkM] using h)
          cases c <;> first
            | (cases h; exact .const (fun _ _ => rfl) pe_str (fun _ _ => .str _) rfl)
            | cases h
        | non =>
          have h : isN c = true := by simpa [chkM] using h
          cases c <;> first
            | exact .const (fun _ _ => rfl) pe_non (fun _ _ => .non) rfl
            | cases h
        | _ => simp [chkM] at h
      | Name x pos =>
        cases e with
        | var i =>
          obtain ⟨h1, h⟩ := b2 (show (decide (N[i]? = some x) && (vis sc x && okName x)) = true by simpa [chkM] using h)
          obtain ⟨h2, h3⟩ := b2 h
          obtain ⟨h4, h5, _⟩ := okName_ok h3
          exact sd_var (by rw [o.nN]; exact dt h1) (by rw [o.sc]; exact vis_ok h2) h4 h5
        | bor i =>
          obtain ⟨h1, h⟩ := b2 (show (decide (N[i]? = some x) && (vis sc x && okName x)) = true by simpa [chkM] using h)
          obtain ⟨h2, h3⟩ := b2 h
          obtain ⟨h4, h5, _⟩ := okName_ok h3
          exact sd_bor (by rw [o.nN]; exact dt h1) (by rw [o.sc]; exact vis_ok h2) h4 h5
        | glob y d =>
          obtain ⟨h1, h⟩ := b2 (show (decide (x = y) && (gim sc x && (okName x && p.gl.any fun q => decide (q.1 = x) && sameD q.2 d))) = true by simpa [chkM] using h)
          obtain ⟨h2, h⟩ := b2 h
          obtain ⟨h3, h4⟩ := b2 h
          obtain ⟨h5, _, _⟩ := okName_ok h3
          obtain ⟨u, v, h6, h7, h8⟩ := any_glob o h4
          exact .const (fun _ _ => rfl) (pe_glob (gl h2) h6 h7 h5) h8 rfl
        | _ => simp [chkM] at h
      | Tuple es j pos =>
        cases e with
        | tup xs => exact sd_tup (ih.fes _ _ _ _ o (by simpa [chkM] using h))
        | _ => simp [chkM] at h
      | List es pos =>
        cases e with
        | lst xs => exact sd_lst (ih.fes _ _ _ _ o (by simpa [chkM] using h))
        | _ => simp [chkM] at h
      | Subscript a i pos =>
        simp only [chkM] at h
        split at h
        · exact sd_rev (ih.fe _ _ _ _ o h)
        · obtain ⟨h1, h⟩ := b2 h
          obtain ⟨h2, h⟩ := b2 h
          obtain ⟨h3, h4⟩ := b2 h
          obtain rfl := Option.isNone_iff_eq_none.mp h1
          exact sd_slice (ih.fe _ _ _ _ o h2) (ih.fp _ _ _ _ o h3) (ih.fp _ _ _ _ o h4)
        · obtain ⟨h1, h⟩ := b2 h
          obtain ⟨h2, h3⟩ := b2 h
          exact sd_idx o.room h1 (ih.fe _ _ _ _ o h2) (ih.fe _ _ _ _ o h3)
        · cases h
      | Call f as ks pos =>
        simp only [chkM] at h
        split at h
        · rename_i x _ k xs
          obtain ⟨h1, h⟩ := b2 h
          obtain ⟨h2, h⟩ := b2 h
          obtain ⟨h3, h4⟩ := b2 h
          obtain ⟨h5, _, _⟩ := okName_ok h3
          cases q : p.fns[k]? with
          | none => rw [q] at h1; cases dt h1
          | some f =>
            rw [q] at h1
            have h1 : f.1 = x := Option.some.inj (dt h1)
            have hf := o.fns k f q
            rw [h1] at hf
            exact sd_call hf o.room (gl h2) h5 (hlen k f q) (ih.fes _ _ _ _ o h4)
        · rename_i x _ f xs
          obtain ⟨h1, h⟩ := b2 h
          obtain ⟨h2, h⟩ := b2 h
          obtain ⟨h3, h4⟩ := b2 h
          exact sd_blt o.calm o.free (dt h1) (gl h2) (fun e => by rw [e] at h3; cases h3) (ih.fes _ _ _ _ o h4)
        · rename_i x _ y t
          obtain ⟨h1, h⟩ := b2 h
          obtain ⟨h2, h⟩ := b2 h
          split at h
          · obtain ⟨h3, h⟩ := b2 h
            obtain ⟨h4, h⟩ := b2 h
            obtain ⟨h5, h6⟩ := b2 h
            have h5 := dt h5
            subst h5
            exact sd_isi o.free (dt h1) (gl h2) (gl h6) h3 (ih.fe _ _ _ _ o h4)
          · cases h
        · rename_i ob nm pa m x xs
          obtain ⟨h1, h⟩ := b2 h
          obtain ⟨h2, h⟩ := b2 h
          obtain ⟨h3, h⟩ := b2 h
          obtain ⟨h4, h⟩ := b2 h
          obtain ⟨h5, h6⟩ := b2 h
          have h1 := dt h1
          have h2 := dt h2
          have hx := ih.fe _ _ _ _ o h5
          have hs := (ih.fes _ _ _ _ o h6).sl
          cases m with
          | get1 =>
            obtain ⟨k, rfl⟩ := List.length_eq_one_iff.mp h2
            obtain ⟨y, rfl, n1, s1⟩ := hs.one
            exact sd_get1 o.room h1 h3 h4 n1 hx s1
          | get2 =>
            obtain ⟨k, e, rfl⟩ : ∃ k e, as = [k, e] := by
              match as, h2 with
              | [k, e], _ => exact ⟨k, e, rfl⟩
            obtain ⟨y, z, rfl, n1, n2, s1, s2⟩ := hs.two
            exact sd_get2 o.room h1 h3 h4 n1 n2 hx s1 s2
          | pop =>
            obtain ⟨k, rfl⟩ := List.length_eq_one_iff.mp h2
            obtain ⟨y, rfl, n1, s1⟩ := hs.one
            exact sd_pop h1 h3 h4 n1 hx s1
        · cases h
      | Dict ks vs pos =>
        cases e with
        | dct ps =>
          obtain ⟨h1, h2⟩ := b2 (show (decide (ks.length ≤ 15) && chkPs p N n sc ks vs ps) = true by simpa [chkM] using h)
          exact sd_dct (ih.fps _ _ _ _ _ o h2) (dt h1)
        | _ => simp [chkM] at h
      | DictComp ke ve gs scope pos =>
        simp only [chkM] at h
        split at h
        · rename_i tgx iter ifs own g it ts x y
          exact sd_dcomp (dc_of ih o h)
        · cases h
      | ListComp elt gs scope pos =>
        simp only [chkM] at h
        split at h
        · rename_i tgx iter ifs own g it ts x
          obtain ⟨h1, h⟩ := b2 h
          obtain ⟨h2, h⟩ := b2 h
          obtain ⟨h3, h⟩ := b2 h
          obtain ⟨h4, h⟩ := b2 h
          obtain ⟨h5, h6⟩ := b2 h
          have hi := ih.fi _ _ _ _ o h3
          have bk : BlkOk X.N X.env.scope scope (own.map fun (i : Nat) => ((X.N[i]?).getD ("" : Str), i)) := by rw [o.nN, o.sc]; exact blkOk_by h1
          have hg : ∀ (s : Shared) (H : Hp) (C : Addr) (cl : List (Str × Addr)) (fp : List Addr), St1 (X.blk s H scope (compEnvC scope cl C X.env) fp) tgx g := fun s H C cl fp => ih.ft _ _ _ _ (TOk.blk o s H scope C cl fp) h4
          have ht : ∀ (s : Shared) (H : Hp) (C : Addr) (cl : List (Str × Addr)) (fp : List Addr), Sc call (X.blk s H scope (compEnvC scope cl C X.env) fp) ifs ts := fun s H C cl fp => ih.fc _ _ _ _ (o.blk s H scope C cl fp) h5
          have he : ∀ (s : Shared) (H : Hp) (C : Addr) (cl : List (Str × Addr)) (fp : List Addr), Sd call (X.blk s H scope (compEnvC scope cl C X.env) fp) elt x := fun s H C cl fp => ih.fe _ _ _ _ (o.blk s H scope C cl fp) h6
          have hmap : (own.map fun (i : Nat) => ((X.N[i]?).getD ("" : Str), i)).map (·.2) = own := by rw [List.map_map]; exact List.map_id _
          refine .plain (fun b => PE.cq (pe_lc (wi := tI X.K true (evI call it true)) (g := tG X.K g) (tt := tT X.K (tests call ts)) (te := tE call X x false) o.calm (by rw [o.nN]; exact o.nd) (hi.pi tgx true) bk (fun s H C cl fp => (hg s H C cl fp).pg) (fun s H C cl fp => (ht s H C cl fp).pt) (fun s H C cl fp => (he s H C cl fp).pe false) (setI_ok hi.fs _)) fun σ H Q hq => ?_) rfl
          rw [hmap]
          obtain ⟨G, cs, s, ρ, d, s', ok, en, m, k⟩ := hq
          have hd : ∃ ds, d = .lst ds := by
            obtain ⟨items, s1, m1, m2⟩ := M.bind_some m
            obtain ⟨r, s2, m3, m4⟩ := M.bind_some m2
            split at m4
            · exact ⟨_, (M.pure_some m4).1.symm⟩
            · cases m4
          obtain ⟨ds, rfl⟩ := hd
          have res : Res X.K G H cs s' (.lst ds) Q := fun G' H' cs' v go ok' r => k G' H' cs' v go ok' (.of r)
          exact sd_comp (pos := pos) o.calm (by rw [o.nN]; exact o.nd) bk h2 hi hg ht he σ H Q ⟨G, cs, s, ρ, _, s', ok, en, m, fun _ => rfl, res.newL⟩
        · cases h
      | _ => simp [chkM] at h
    · cases ast with
      | nil =>
        cases e with
        | nil => exact sa_nil
        | cons _ _ => simp [chkEs] at h
      | cons a as =>
        cases e with
        | nil => simp [chkEs] at h
        | cons x xs =>
          obtain ⟨h1, h⟩ := b2 (show (noStar a && (chkE p N n sc a x && chkEs p N n sc as xs)) = true by simpa [chkEs] using h)
          obtain ⟨h2, h3⟩ := b2 h
          exact sa_cons h1 (ih.fe _ _ _ _ o h2) (ih.fes _ _ _ _ o h3)
    · cases ks with
      | nil =>
        cases vs with
        | nil =>
          cases ps with
          | nil => exact .nil
          | cons _ _ _ => simp [chkPs] at h
        | cons _ _ => simp [chkPs] at h
      | cons k ks =>
        cases k with
        | none => simp [chkPs] at h
        | some k =>
          cases vs with
          | nil => simp [chkPs] at h
          | cons v vs =>
            cases ps with
            | nil => simp [chkPs] at h
            | cons x y ps =>
              obtain ⟨h1, h⟩ := b2 (show (chkE p N n sc k x && (chkE p N n sc v y && chkPs p N n sc ks vs ps)) = true by simpa [chkPs] using h)
              obtain ⟨h2, h3⟩ := b2 h
              exact .cons (ih.fe _ _ _ _ o h1) (ih.fe _ _ _ _ o h2) (ih.fps _ _ _ _ _ o h3)
    · cases ast with
      | none =>
        cases e with
        | no => exact so_no
        | «at» _ => simp [chkP] at h
      | some a =>
        cases e with
        | no => simp [chkP] at h
        | «at» x => exact so_at (ih.fe _ _ _ _ o (by simpa [chkP] using h))
    · simp only [chkC] at h
      split at h
      · exact sc_nil
      · exact sc_one (ih.fe _ _ _ _ o h)
      · cases h
    · have gl : ∀ {x : Str}, gim sc x = true → Gl X x := fun {x} h => by show X.env.scope.names.lookup x = _; rw [o.sc]; exact dt h
      cases e with
      | seq x =>
        obtain ⟨h1, h2⟩ := b2 (show (noSet ast && chkE p N n sc ast x) = true by simpa [chkI] using h)
        exact si_seq h1 (ih.fe _ _ _ _ o h2)
      | rng1 x =>
        simp only [chkI] at h
        split at h
        · obtain ⟨h1, h⟩ := b2 h
          obtain ⟨h2, h⟩ := b2 h
          obtain ⟨h3, h4⟩ := b2 h
          exact si_rng1 o.free (dt h1) (gl h2) h3 (ih.fe _ _ _ _ o h4)
        · cases h
      | rng2 x y =>
        simp only [chkI] at h
        split at h
        · obtain ⟨h1, h⟩ := b2 h
          obtain ⟨h2, h⟩ := b2 h
          obtain ⟨h3, h⟩ := b2 h
          obtain ⟨h4, h⟩ := b2 h
          obtain ⟨h5, h6⟩ := b2 h
          exact si_rng2 o.free (dt h1) (gl h2) h3 h4 (ih.fe _ _ _ _ o h5) (ih.fe _ _ _ _ o h6)
        · cases h
      | keys x =>
        obtain ⟨h1, h2⟩ := b2 (show (noSet ast && chkE p N n sc ast x) = true by simpa [chkI] using h)
        exact si_keys h1 (ih.fe _ _ _ _ o h2)
      | keysL i =>
        simp only [chkI] at h
        split at h
        · obtain ⟨h1, h⟩ := b2 h
          obtain ⟨h2, h3⟩ := b2 h
          obtain ⟨h4, h5, _⟩ := okName_ok h3
          exact si_keysL (by rw [o.nN]; exact dt h1) (by rw [o.sc]; exact vis_ok h2) h4 h5
        · cases h
      | rng3 x y z =>
        simp only [chkI] at h
        split at h
        · obtain ⟨h1, h⟩ := b2 h
          obtain ⟨h2, h⟩ := b2 h
          obtain ⟨h3, h⟩ := b2 h
          obtain ⟨h4, h⟩ := b2 h
          obtain ⟨h5, h⟩ := b2 h
          obtain ⟨h6, h⟩ := b2 h
          obtain ⟨h7, h8⟩ := b2 h
          exact si_rng3 o.free (dt h1) (gl h2) h3 h4 h5 (ih.fe _ _ _ _ o h6) (ih.fe _ _ _ _ o h7) (ih.fe _ _ _ _ o h8)
        · cases h
    · simp only [chkT] at h
      split at h
      · obtain ⟨h1, h2⟩ := b2 h
        obtain ⟨h3, h4⟩ := o.tk _ h2
        exact st_name (by rw [o.nN]; exact o.nd) (by rw [o.nN]; exact dt h1) h3 h4
      · exact st_tup o.calm (ih.fts _ _ _ _ o h)
      · cases h
    · simp only [chkTs] at h
      split at h
      · exact sts_nil
      · obtain ⟨h1, h⟩ := b2 h
        obtain ⟨h2, h3⟩ := b2 h
        exact sts_cons (ih.ft _ _ _ _ o h2) (ih.fts _ _ _ _ o h3)
      · cases h
end
end PV
set_option Elab.async false
set_option linter.all false
set_option autoImplicit false
set_option maxRecDepth 100000
set_option maxHeartbeats 4000000
namespace PV
open PySem PySem.Spec L2
open PyProof.Rows hiding St
mutual
inductive C where
  | set (i : Nat) (e : E)
  | own (i : Nat) (e : E)
  | par2 (i j : Nat) (oa ob : Bool) (a b : E)
  | par3 (i j k : Nat) (oa ob oc : Bool) (a b c : E)
  | ext (i : Nat) (e : E)
  | unpack (t : Tg) (e : E)
  | aug (i : Nat) (op : BOp) (e : E)
  | app (i : Nat) (e : E)
  | put (i : Nat) (k e : E)
  | cput (o k e : E)
  | cell (i : Nat) (e : E)
  | drop (e : E)
  | ret (e : E)
  | retn
  | ifs (c : E) (a b : Cs)
  | fors (g : Tg) (it : It) (body : Cs)
  | whl (c : E) (body : Cs)
  | brk | cont | pass | never
  | frz (i : Nat) (c : C)
inductive Cs where
  | nil
  | cons (c : C) (cs : Cs)
end
inductive Out where
  | nx (ρ : Env)
  | ret (d : D)
  | bk (ρ : Env)
  | ct (ρ : Env)
/-- what is still being changed is fixed -/
def freezeE (ρ : Env) (i : Nat) : Env := match ρ[i]? with
  | some (.own ds) => ρ.set i (.val (.lst ds))
  | some (.ownd ks vs) => ρ.set i (.val (.dct ks vs))
  | _ => ρ
def forM (f : D → Env → M Out) : List D → Env → M Out
  | [], ρ => M.pure (.nx ρ)
  | d :: ds, ρ => M.bind (f d ρ) fun o => match o with
    | .nx ρ' => forM f ds ρ'
    | .ct ρ' => forM f ds ρ'
    | .bk ρ' => M.pure (.nx ρ')
    | .ret d => M.pure (.ret d)
/-- a while, so many turns at most -/
def whileM (c : Env → M Bool) (f : Env → M Out) : Nat → Env → M Out
  | 0, _ => M.fail
  | n + 1, ρ => M.bind (c ρ) fun t => if t then M.bind (f ρ) fun o => (match o with
    | .nx ρ' => whileM c f n ρ'
    | .ct ρ' => whileM c f n ρ'
    | .bk ρ' => M.pure (.nx ρ')
    | .ret d => M.pure (.ret d)) else M.pure (.nx ρ)
def putAt (xs : List D) (k : Int) (d : D) : Option (List D) :=
  if 0 ≤ k ∧ k < xs.length ∧ xs.length ≤ line then some (xs.set k.toNat d) else if k < 0 ∧ -(xs.length : Int) ≤ k ∧ xs.length ≤ line then some (xs.set (k + xs.length).toNat d) else none
/-- a value that is kept, or that will be changed -/
def mkS (o : Bool) (d : D) : Option Slot := if o = true then (match d with
  | .lst ds => some (.own ds)
  | .dct ks vs => some (.ownd ks vs)
  | _ => none) else some (.val d)
section
variable (call : Nat → List D → M D)
mutual
def ex : C → Env → M Out
  | .set i e, ρ => M.bind (ev call e false ρ) fun d => M.pure (.nx (ρ.set i (.val d)))
  | .own i e, ρ => M.bind (ev call e false ρ) fun d => M.bind (M.of (mkS true d)) fun sd => M.pure (.nx (ρ.set i sd))
  | .par2 i j oa ob a b, ρ => M.bind (ev call a false ρ) fun x => M.bind (ev call b false ρ) fun y => M.bind (M.of (mkS oa x)) fun sx => M.bind (M.of (mkS ob y)) fun sy => M.pure (.nx ((ρ.set i sx).set j sy))
  | .par3 i j k oa ob oc a b c, ρ => M.bind (ev call a false ρ) fun x => M.bind (ev call b false ρ) fun y => M.bind (ev call c false ρ) fun z =>
      M.bind (M.of (mkS oa x)) fun sx => M.bind (M.of (mkS ob y)) fun sy => M.bind (M.of (mkS oc z)) fun sz => M.pure (.nx (((ρ.set i sx).set j sy).set k sz))
  | .ext i e, ρ => M.bind (ev call e false ρ) fun d => match ρ[i]?, d with
    | some (.own ds), .lst es => if ds.length + es.length ≤ line then M.pure (.nx (ρ.set i (.own (ds ++ es)))) else M.fail
    | _, _ => M.fail
  | .unpack t e, ρ => M.bind (ev call e false ρ) fun d => M.bind (M.of (bind t d ρ)) fun ρ' => M.pure (.nx ρ')
  | .aug i op e, ρ => M.bind (M.of (ρ.get i)) fun x => M.bind (ev call e false ρ) fun y => match x, y with
    | .int a, .int b => M.bind (M.of (bop op (.int a) (.int b))) fun d => M.pure (.nx (ρ.set i (.val d)))
    | _, _ => M.fail
  | .app i e, ρ => M.bind (ev call e false ρ) fun d => match ρ[i]? with
    | some (.own ds) => if ds.length < line then M.pure (.nx (ρ.set i (.own (ds ++ [d])))) else M.fail
    | _ => M.fail
  | .put i k e, ρ => M.bind (ev call e false ρ) fun d => M.bind (ev call k false ρ) fun kd => match ρ[i]? with
    | some (.own ds) => (match kd with
      | .int j => M.bind (M.of (putAt ds j d)) fun ds' => M.pure (.nx (ρ.set i (.own ds')))
      | _ => M.fail)
    | some (.ownd ks vs) => if isKey kd && decide (ks.length < line) then M.pure (.nx (ρ.set i (.ownd (dput ks vs kd d).1 (dput ks vs kd d).2))) else M.fail
    | _ => M.fail
  | .cput o k e, ρ => M.bind (ev call e false ρ) fun d => M.bind (ev call o false ρ) fun od => M.bind (ev call k false ρ) fun kd => match od, kd with
    | .cel n, .int j => fun s => (match s[n]? with
      | some (.lst ds) => (match putAt ds j d with
        | some ds' => some (.nx ρ, s.set n (.lst ds'))
        | none => none)
      | _ => none)
    | _, _ => M.fail
  | .cell i e, ρ => M.bind (ev call e false ρ) fun d => match d with
    | .lst ds => fun s => some (.nx (ρ.set i (.val (.cel s.length))), s ++ [.lst ds])
    | .dct ks vs => fun s => some (.nx (ρ.set i (.val (.cel s.length))), s ++ [.dct ks vs])
    | _ => M.fail
  | .drop e, ρ => M.bind (ev call e true ρ) fun _ => M.pure (.nx ρ)
  | .ret e, ρ => M.bind (ev call e false ρ) fun d => M.pure (.ret d)
  | .retn, _ => M.pure (.ret .non)
  | .ifs c a b, ρ => M.bind (ev call c true ρ) fun x => M.bind (M.of (tru x)) fun t => if t then exs a ρ else exs b ρ
  | .fors g it body, ρ => M.bind (evI call it false ρ) fun items => forM (fun d ρ => M.bind (M.of (bind g d ρ)) fun ρ' => exs body ρ') items ρ
  | .whl c body, ρ => whileM (fun ρ => M.bind (ev call c true ρ) fun x => M.of (tru x)) (fun ρ => exs body ρ) 1000000 ρ
  | .brk, ρ => M.pure (.bk ρ)
  | .cont, ρ => M.pure (.ct ρ)
  | .pass, ρ => M.pure (.nx ρ)
  | .never, _ => M.fail
  | .frz i c, ρ => ex c (freezeE ρ i)
def exs : Cs → Env → M Out
  | .nil, ρ => M.pure (.nx ρ)
  | .cons c cs, ρ => M.bind (ex c ρ) fun o => match o with
    | .nx ρ' => exs cs ρ'
    | o => M.pure o
end
end
/-- a def: its name, how many parameters and names, its body -/
structure Fn where
  name : Str
  np : Nat
  ns : Nat
  body : Cs
/-- a def called: so deep at most -/
def callN (P : List Fn) : Nat → Nat → List D → M D
  | 0, _, _ => M.fail
  | n + 1, f, ds => match P[f]? with
    | none => M.fail
    | some fn => if ds.length = fn.np then M.bind (exs (callN P n) fn.body (ds.map .val ++ List.replicate (fn.ns - fn.np) .no)) fun o => (match o with
      | .ret d => M.pure d
      | .nx _ => M.pure .non
      | _ => M.fail) else M.fail
theorem callN_len {P : List Fn} {n f : Nat} {ds : List D} {s : S} {r : D × S} (h : callN P n f ds s = some r) : ∃ fn, P[f]? = some fn ∧ ds.length = fn.np := by
  cases n with
  | zero => cases h
  | succ n =>
    unfold callN at h
    cases q : P[f]? with
    | none => rw [q] at h; cases h
    | some fn =>
      rw [q] at h
      simp only at h
      split at h
      · exact ⟨fn, rfl, by assumption⟩
      · cases h
end PV
set_option Elab.async false
set_option linter.all false
set_option autoImplicit false
set_option maxRecDepth 100000
set_option maxHeartbeats 4000000
namespace PV
open PySem PySem.Spec L2
open PyProof.Rows hiding St
section
variable {p : Pr} {N : List Str} {call : Nat → List D → M D} {X : Cx} {lv : Nat} {sc : Scope}
theorem nv_res {o : Bool} {d : D} {K : PySem.W.Frag} {G H : Hp} {cs : List Addr} {s : S} {Q : VK} (ho : o = false) (v : Val K o G H cs s d Q) : Res K G H cs s d Q := by
  subst ho; exact v
/-- a plain value -/
theorem pv_of {a : Expr} {e : E} (h : Sd call X a e) : PE X a (tV X.K false (ev call e false)) := by
  refine PE.cq (h.pe false) fun σ H Q hq => ?_
  obtain ⟨G, cs, s, ρ, d, s', ok, en, m, _, k⟩ := hq
  exact ⟨G, cs, s, ρ, d, s', ok, en, m, k⟩
theorem nl_lst {as : List Expr} {es : Es} {pos : Pos} (hs : Sa call X as es) : PE X (.List as pos) (tV X.K true (ev call (.lst es) false)) := by
  refine PE.cq (pe_lst (hs.pa false)) fun σ H Q hq => ?_
  obtain ⟨G, cs, s, ρ, d, s', ok, en, m, _, k⟩ := hq
  obtain ⟨xs, s1, m1, m⟩ := M.bind_some m
  refine ⟨G, cs, s, ρ, xs, s1, ok, en, m1, fun G1 H1 c1 vs go1 ok1 r1 => ?_⟩
  split at m
  · rename_i hl
    obtain ⟨rfl, rfl⟩ := M.pure_some m
    have ra := r1.all
    rw [line_eq] at hl
    exact ⟨by rw [← ra.length]; exact hl, fun q' hp => NewL.at (show NewL X.K G H cs s1 (.lst xs) Q from k) go1 ok1 ok hp ra⟩
  · cases m
/-- list(x) -/
theorem nl_list {x : Str} {a : Expr} {e : E} {pc pos : Pos} (hf : ∀ x ∈ bltNames, X.mg x = none) (hx : x = ("list" : Str)) (hg : Gl X x) (hn : noStar a = true) (h : Sd call X a e) :
    PE X (.Call (.Name x pc) [a] [] pos) (tV X.K true (ev call (.blt .list (.cons e .nil)) false)) := by
  subst hx
  refine PE.cq (pe_callTy call_list_of hg (hf _ (by decide +kernel)) (by decide +kernel) (pa_cons (h.pe true) pa_nil (star_ok hn)) (by decide +kernel) (by decide +kernel) (star_ok hn) (anyStar rfl)) fun σ H Q hq => ?_
  obtain ⟨G, cs, s, ρ, d, s', ok, en, m, _, k⟩ := hq
  obtain ⟨xs, s1, m1, m⟩ := M.bind_some m
  obtain ⟨e2, rfl⟩ := M.of_some m
  obtain ⟨x1, s2, m2, m1⟩ := M.bind_some m1
  obtain ⟨x2, s3, m3, m1⟩ := M.bind_some m1
  obtain ⟨rfl, rfl⟩ := M.pure_some m3
  obtain ⟨rfl, rfl⟩ := M.pure_some m1
  have k : NewL X.K G H cs _ d Q := k
  refine ⟨G, cs, s, ρ, x1, _, ok, en, m2, fun G1 H1 c1 v go1 ok1 r1 => ?_⟩
  cases x1 with
  | lst ds =>
    cases (show some (D.lst ds) = some d from e2)
    obtain ⟨a, xs, rfl, hH, ra⟩ := r1.B.lst ok1
    exact ⟨a, xs, rfl, .inl (.inl (.inl hH)), fun q' hp => k.at go1 ok1 ok hp ra⟩
  | tup ds =>
    cases (show some (D.lst ds) = some d from e2)
    obtain ⟨a, xs, rfl, hH, ra⟩ := r1.B.tup ok1
    exact ⟨a, xs, rfl, .inr hH, fun q' hp => k.at go1 ok1 ok hp ra⟩
  | scr ns =>
    cases (show some (D.lst (ns.map .int)) = some d from e2)
    have rx := r1.B.proper (fun _ e => by cases e) (fun _ _ e => by cases e)
    cases rx with
    | scr hG => exact ⟨_, _, rfl, .inl (sqL_same ok1.sub hG), fun q' hp => k.at go1 ok1 ok hp (repAll_ints _)⟩
  | _ => cases (show (none : Option D) = some d from e2)
/-- xs + ys, xs * k -/
def rNewB (K : PySem.W.Frag) (op : BOp) : R2 := fun v w H Q => ∃ G cs s s0 G0 H0 c0 x y d ds, d = .lst ds ∧ StOk K G H cs s ∧ StOk K G0 H0 c0 s0 ∧ Go G0 H0 c0 G H cs ∧ RepB K G H cs x v ∧ RepB K G H cs y w ∧ bop op x y = some d ∧ NewL K G0 H0 c0 s d Q
theorem op_new (op : BOp) : OpR X (binaryOp (opA op)) (rNewB X.K op) := by
  intro pins st σ H v w u1 u2 Q I r1 r2 h
  obtain ⟨G, cs, s, s0, G0, H0, c0, x, y, d, ds, hd, ok, ok0, go, rx, ry, e, q⟩ := h
  subst hd
  cases op with
  | add =>
    cases x with
    | lst xs =>
      cases y with
      | lst ys =>
        have e : (if xs.length + ys.length ≤ line then some (D.lst (xs ++ ys)) else none) = some (D.lst ds) := e
        split at e
        · rename_i hl
          cases e
          obtain ⟨a, vs, rfl, ha, ra⟩ := rx.lst ok
          obtain ⟨b, ws, rfl, hb, rb⟩ := ry.lst ok
          rw [line_eq] at hl
          exact op_cat pins st σ H _ _ u1 u2 Q I r1 r2 ⟨a, b, vs, ws, rfl, rfl, ha, hb, by rw [← ra.length, ← rb.length]; exact hl, fun p hp => q.at go ok ok0 hp (ra.append rb)⟩
        · cases e
      | _ => cases (show (none : Option D) = some (D.lst ds) from e)
    | int i => cases y <;> simp [bop] at e
    | tup xs => cases y <;> simp [bop] at e
    | _ => cases y <;> cases (show (none : Option D) = some (D.lst ds) from e)
  | mul =>
    cases x with
    | lst xs =>
      cases y with
      | int k =>
        have e : (if k < 2 ^ 62 ∧ -(2 ^ 62) < k ∧ xs.length * k.toNat ≤ line then some (D.lst (List.replicate k.toNat xs).flatten) else none) = some (D.lst ds) := e
        split at e
        · rename_i hl
          cases e
          obtain ⟨a, vs, rfl, ha, ra⟩ := rx.lst ok
          obtain rfl := ry.int
          obtain ⟨h1, h2, h3⟩ := hl
          rw [line_eq] at h3
          exact op_rep pins st σ H _ _ u1 u2 Q I r1 r2 ⟨a, k, vs, rfl, rfl, ha, by omega, by omega, by rw [← ra.length]; exact h3, fun p hp => q.at go ok ok0 hp (ra.flat _)⟩
        · cases e
      | _ => cases (show (none : Option D) = some (D.lst ds) from e)
    | int i => cases y <;> simp [bop] at e
    | tup xs => cases y <;> simp [bop] at e
    | _ => cases y <;> cases (show (none : Option D) = some (D.lst ds) from e)
  | _ => cases x <;> cases y <;> simp [bop] at e
theorem bop_new {op : BOp} {x y d : D} (e : bop op x y = some d) (h : isNew d = true) : ∃ ds, d = .lst ds := by
  cases d with
  | lst ds => exact ⟨ds, rfl⟩
  | dct ks vs =>
    exfalso
    unfold bop at e
    split at e <;> first | (cases e; done) | (split at e <;> cases e)
  | _ => cases h
theorem nl_bin {op : BOp} {a c : Expr} {x y : E} {pos : Pos} (ha : Sd call X a x) (hc : Sd call X c y) : PE X (.BinOp a (opA op) c pos) (tV X.K true (ev call (.bin op x y) false)) := by
  refine PE.cq (pe_op (op_new op) (ha.pe true) (hc.pe true)) fun σ H Q hq => ?_
  obtain ⟨G, cs, s, ρ, d, s', ok, en, m, hd, k⟩ := hq
  obtain ⟨x1, s1, m1, m⟩ := M.bind_some m
  obtain ⟨x2, s2, m2, m⟩ := M.bind_some m
  obtain ⟨e3, rfl⟩ := M.of_some m
  obtain ⟨ds, rfl⟩ := bop_new e3 (hd rfl)
  have k : NewL X.K G H cs s2 (.lst ds) Q := k
  refine ⟨G, cs, s, ρ, x1, s1, ok, en, m1, fun G1 H1 c1 v1 go1 ok1 r1 => ⟨G1, c1, s1, ρ, x2, s2, ok1, en.go ok go1, m2, fun G2 H2 c2 v2 go2 ok2 r2 =>
    ⟨G2, c2, s2, s, G, H, cs, x1, x2, .lst ds, ds, rfl, ok2, ok, go1.trans ok1 ok go2, r1.B.go go2, r2.B, e3, k⟩⟩⟩
/-! ### statements' readings -/
/-- a moment within a def that began at (G0, H0, c0) -/
structure Sk (K : PySem.W.Frag) (G0 H0 : Hp) (c0 : List Addr) (G H : Hp) (cs : List Addr) (s : S) (ρ : Env) (σ : St) : Prop where
  ok : StOk K G H cs s
  en : EnvOk K G H cs ρ σ
  go : Go G0 H0 c0 G H cs
  ok0 : ∃ s0, StOk K G0 H0 c0 s0
  own : ∀ (i : Nat) (sl : Slot) (a : Addr), ρ[i]? = some sl → sl.isOwn = true → σ[i]? = some (some (.ref a)) → H0 a = none
/-- more is fixed -/
structure Ext (G : Hp) (cs : List Addr) (G' : Hp) (cs' : List Addr) : Prop where
  g : Same G G'
  c : cs <+: cs'
theorem Ext.refl {G : Hp} {cs : List Addr} : Ext G cs G cs := ⟨Same.refl _, List.prefix_refl _⟩
theorem Ext.trans {G G1 G2 : Hp} {cs c1 c2 : List Addr} (a : Ext G cs G1 c1) (b : Ext G1 c1 G2 c2) : Ext G cs G2 c2 := ⟨a.g.trans b.g, a.c.trans b.c⟩
theorem Go.ext {G H G' H' : Hp} {cs cs' : List Addr} (x : Go G H cs G' H' cs') : Ext G cs G' cs' := ⟨x.g, x.c⟩
def OutOk (K : PySem.W.Frag) (G0 H0 : Hp) (c0 : List Addr) (Gs : Hp) (cS : List Addr) (s : S) (D : Ends) : Out → Prop
  | .nx ρ => ∀ G H cs σ, Ext Gs cS G cs → Sk K G0 H0 c0 G H cs s ρ σ → D.nx σ H
  | .bk ρ => ∀ G H cs σ, Ext Gs cS G cs → Sk K G0 H0 c0 G H cs s ρ σ → D.bk σ H
  | .ct ρ => ∀ G H cs σ, Ext Gs cS G cs → Sk K G0 H0 c0 G H cs s ρ σ → D.ct σ H
  | .ret d => Res K G0 H0 c0 s d D.rt
theorem OutOk.from {K : PySem.W.Frag} {G0 H0 : Hp} {c0 : List Addr} {G G1 : Hp} {cs c1 : List Addr} {s : S} {F : Ends} {o : Out} (e : Ext G cs G1 c1) (h : OutOk K G0 H0 c0 G cs s F o) : OutOk K G0 H0 c0 G1 c1 s F o := by
  cases o with
  | nx ρ => exact fun G2 H2 c2 σ e2 k => h G2 H2 c2 σ (e.trans e2) k
  | bk ρ => exact fun G2 H2 c2 σ e2 k => h G2 H2 c2 σ (e.trans e2) k
  | ct ρ => exact fun G2 H2 c2 σ e2 k => h G2 H2 c2 σ (e.trans e2) k
  | ret d => exact h
def tS (K : PySem.W.Frag) (G0 H0 : Hp) (c0 : List Addr) (m : Env → M Out) : TS := fun D σ H => ∃ G cs s ρ out s', Sk K G0 H0 c0 G H cs s ρ σ ∧ m ρ s = some (out, s') ∧ OutOk K G0 H0 c0 G cs s' D out
theorem PS.cq {a : Stmt} {t t' : TS} (h : PS X a t) (c : ∀ D σ H, t' D σ H → t D σ H) : PS X a t' := ⟨fun pins s σ H D I hw => h.run pins s σ H D I (c D σ H hw)⟩
theorem PSs.cq {a : List Stmt} {t t' : TS} (h : PSs X a t) (c : ∀ D σ H, t' D σ H → t D σ H) : PSs X a t' := ⟨fun pins s σ H D I hw => h.run pins s σ H D I (c D σ H hw)⟩
section
variable {K : PySem.W.Frag} {G0 H0 G H G' H' : Hp} {c0 cs cs' : List Addr} {s s' : S} {ρ : Env} {σ : St}
/-- behind an expression -/
theorem Sk.step (k : Sk K G0 H0 c0 G H cs s ρ σ) (go : Go G H cs G' H' cs') (ok : StOk K G' H' cs' s') : Sk K G0 H0 c0 G' H' cs' s' ρ σ := by
  obtain ⟨s0, ok0⟩ := k.ok0
  exact ⟨ok, k.en.go k.ok go, k.go.trans k.ok ok0 go, ⟨s0, ok0⟩, k.own⟩
theorem Sk.set (k : Sk K G0 H0 c0 G H cs s ρ σ) {i : Nat} {d : D} {v : V} (r : Rep K G cs d v) : Sk K G0 H0 c0 G H cs s (ρ.set i (.val d)) (σ.set i (some v)) := by
  refine ⟨k.ok, k.en.set_val r, k.go, k.ok0, fun j sl a h1 h2 h3 => ?_⟩
  by_cases e : i = j
  · subst e
    have hl : i < ρ.length := by
      have := (List.getElem?_eq_some_iff.mp h1).1
      rwa [List.length_set] at this
    rw [List.getElem?_set_self hl] at h1
    cases h1; cases h2
  · rw [List.getElem?_set_ne e] at h1 h3
    exact k.own j sl a h1 h2 h3
/-- a slot that holds what is being changed -/
theorem Sk.setOwn (k : Sk K G0 H0 c0 G H cs s ρ σ) {i : Nat} {sl : Slot} {a : Addr} (hs : SlotOk K G H cs sl (some (.ref a))) (h0 : H0 a = none) (ho : sl.isOwn = true)
    (ap : ∀ (j : Nat) (sj : Slot), j ≠ i → ρ[j]? = some sj → sj.isOwn = true → σ[j]? ≠ some (some (.ref a))) : Sk K G0 H0 c0 G H cs s (ρ.set i sl) (σ.set i (some (.ref a))) := by
  have hlen := k.en.len
  refine ⟨k.ok, ⟨by rw [List.length_set, List.length_set, hlen], fun j sj ov h1 h2 => ?_, fun j l sj sl' w hjl h1 h2 o1 o2 h3 h4 => ?_⟩, k.go, k.ok0, fun j sj b h1 h2 h3 => ?_⟩
  · by_cases e : i = j
    · subst e
      have hl : i < ρ.length := by
        have := (List.getElem?_eq_some_iff.mp h1).1
        rwa [List.length_set] at this
      rw [List.getElem?_set_self hl] at h1
      rw [List.getElem?_set_self (by rw [← hlen]; exact hl)] at h2
      cases h1; cases h2
      exact hs
    · rw [List.getElem?_set_ne e] at h1 h2
      exact k.en.at_ j sj ov h1 h2
  · by_cases e : i = j
    · subst e
      have hl : i < ρ.length := by
        have := (List.getElem?_eq_some_iff.mp h1).1
        rwa [List.length_set] at this
      rw [List.getElem?_set_self (by rw [← hlen]; exact hl)] at h3
      cases h3
      rw [List.getElem?_set_ne hjl] at h2 h4
      exact ap l sl' (Ne.symm hjl) h2 o2 h4
    · by_cases e2 : i = l
      · subst e2
        have hl : i < ρ.length := by
          have := (List.getElem?_eq_some_iff.mp h2).1
          rwa [List.length_set] at this
        rw [List.getElem?_set_self (by rw [← hlen]; exact hl)] at h4
        cases h4
        rw [List.getElem?_set_ne e] at h1 h3
        exact ap j sj (Ne.symm e) h1 o1 h3
      · rw [List.getElem?_set_ne e] at h1 h3
        rw [List.getElem?_set_ne e2] at h2 h4
        exact k.en.ap j l sj sl' w hjl h1 h2 o1 o2 h3 h4
  · by_cases e : i = j
    · subst e
      have hl : i < ρ.length := by
        have := (List.getElem?_eq_some_iff.mp h1).1
        rwa [List.length_set] at this
      rw [List.getElem?_set_self (by rw [← hlen]; exact hl)] at h3
      cases h3
      exact h0
    · rw [List.getElem?_set_ne e] at h1 h3
      exact k.own j sj b h1 h2 h3
/-- the other slots do not hold a new object -/
theorem EnvOk.apart (en : EnvOk K G H cs ρ σ) {a : Addr} (h : H a = none) (j : Nat) (sj : Slot) (h1 : ρ[j]? = some sj) (ho : sj.isOwn = true) : σ[j]? ≠ some (some (.ref a)) := by
  intro h2
  have := en.at_ j sj _ h1 h2
  cases sj with
  | own ds => obtain ⟨b, xs, e, hb, _⟩ := this; cases e; rw [h] at hb; cases hb
  | ownd ks vs => obtain ⟨b, xs, e, hb, _⟩ := this; cases e; rw [h] at hb; cases hb
  | lockd ks vs => obtain ⟨b, o, xs, e, hb, _⟩ := this; cases e; rw [h] at hb; cases hb
  | _ => cases ho
/-- the list or dict in a slot is changed -/
theorem Sk.change (k : Sk K G0 H0 c0 G H cs s ρ σ) {i : Nat} {so sl : Slot} {a : Addr} {o : HO} (h1 : ρ[i]? = some so) (ho : so.isOwn = true) (h2 : σ[i]? = some (some (.ref a))) (hg : G a = none) (hc : a ∉ cs)
    (hs : SlotOk K G (upd H a o) cs sl (some (.ref a))) (hl : sl.isOwn = true) : Sk K G0 H0 c0 G (upd H a o) cs s (ρ.set i sl) σ := by
  have h0 := k.own i so a h1 ho h2
  obtain ⟨s0, ok0⟩ := k.ok0
  have k1 : Sk K G0 H0 c0 G (upd H a o) cs s (ρ.set i .no) σ := by
    refine ⟨k.ok.touch hg hc, ⟨by rw [List.length_set]; exact k.en.len, fun j sj ov q1 q2 => ?_, fun j l sj sl' w hjl q1 q2 o1 o2 q3 q4 => ?_⟩, k.go.touch h0, k.ok0, fun j sj b q1 q2 q3 => ?_⟩
    · by_cases e : i = j
      · subst e
        have hl : i < ρ.length := (List.getElem?_eq_some_iff.mp h1).1
        rw [List.getElem?_set_self hl] at q1
        cases q1; trivial
      · rw [List.getElem?_set_ne e] at q1
        have z := k.en.at_ j sj ov q1 q2
        cases sj with
        | no => trivial
        | val d => exact z
        | own ds =>
          obtain ⟨b, xs, rfl, hb, r⟩ := z
          have ne : b ≠ a := fun e2 => k.en.ap i j so _ _ e h1 q1 ho rfl h2 (by rw [q2, e2])
          exact ⟨b, xs, rfl, by rw [upd_ne ne]; exact hb, r⟩
        | ownd ks vs =>
          obtain ⟨b, xs, rfl, hb, r⟩ := z
          have ne : b ≠ a := fun e2 => k.en.ap i j so _ _ e h1 q1 ho rfl h2 (by rw [q2, e2])
          exact ⟨b, xs, rfl, by rw [upd_ne ne]; exact hb, r⟩
        | lockd ks vs =>
          obtain ⟨b, o, xs, rfl, hb, r⟩ := z
          have ne : b ≠ a := fun e2 => k.en.ap i j so _ _ e h1 q1 ho rfl h2 (by rw [q2, e2])
          exact ⟨b, o, xs, rfl, by rw [upd_ne ne]; exact hb, r⟩
    · have ne : ∀ {j : Nat} {sj : Slot}, (ρ.set i Slot.no)[j]? = some sj → sj.isOwn = true → i ≠ j := fun {j sj} q o e => by
        subst e
        rw [List.getElem?_set_self ((List.getElem?_eq_some_iff.mp h1).1)] at q
        cases q; cases o
      have e1 := ne q1 o1
      have e2 := ne q2 o2
      rw [List.getElem?_set_ne e1] at q1
      rw [List.getElem?_set_ne e2] at q2
      exact k.en.ap j l sj sl' w hjl q1 q2 o1 o2 q3 q4
    · have ne : i ≠ j := fun e => by
        subst e
        rw [List.getElem?_set_self ((List.getElem?_eq_some_iff.mp h1).1)] at q1
        cases q1; cases q2
      rw [List.getElem?_set_ne ne] at q1
      exact k.own j sj b q1 q2 q3
  have k2 := k1.setOwn (i := i) hs h0 hl (fun j sj hj q1 o1 q2 => by
    rw [List.getElem?_set_ne (Ne.symm hj)] at q1
    exact k.en.ap i j so sj _ (Ne.symm hj) h1 q1 ho o1 h2 q2)
  rw [List.set_set] at k2
  have e : σ.set i (some (.ref a)) = σ := by
    refine List.ext_getElem? fun j => ?_
    by_cases e : i = j
    · subst e
      rw [List.getElem?_set_self ((List.getElem?_eq_some_iff.mp h2).1), h2]
    · rw [List.getElem?_set_ne e]
  rw [e] at k2
  exact k2
theorem set_same {σ : St} {i : Nat} {a : Addr} (h2 : σ[i]? = some (some (.ref a))) : σ.set i (some (.ref a)) = σ := by
  refine List.ext_getElem? fun j => ?_
  by_cases e : i = j
  · subst e
    rw [List.getElem?_set_self ((List.getElem?_eq_some_iff.mp h2).1), h2]
  · rw [List.getElem?_set_ne e]
/-- a slot's object is fixed, as o -/
theorem Sk.fix (k : Sk K G0 H0 c0 G H cs s ρ σ) {i : Nat} {so : Slot} {a : Addr} {o : HO} {d : D} (h1 : ρ[i]? = some so) (ho : so.isOwn = true) (h2 : σ[i]? = some (some (.ref a))) (hg : G a = none) (hc : a ∉ cs) (r : Rep K (upd G a o) cs d (.ref a)) :
    Ext G cs (upd G a o) cs ∧ Sk K G0 H0 c0 (upd G a o) (upd H a o) cs s (ρ.set i (.val d)) σ := by
  have h0 := k.own i so a h1 ho h2
  have hr : Same G (upd G a o) := same_upd hg
  refine ⟨⟨hr, List.prefix_refl _⟩, ?_⟩
  have k1 : Sk K G0 H0 c0 (upd G a o) (upd H a o) cs s (ρ.set i .no) σ := by
    refine ⟨(k.ok.touch hg hc).freeze hg hc upd_same, ⟨by rw [List.length_set]; exact k.en.len, fun j sj ov q1 q2 => ?_, fun j l sj sl' w hjl q1 q2 o1 o2 q3 q4 => ?_⟩, (k.go.touch h0).freeze h0 hg, k.ok0, fun j sj b q1 q2 q3 => ?_⟩
    · by_cases e : i = j
      · subst e
        rw [List.getElem?_set_self ((List.getElem?_eq_some_iff.mp h1).1)] at q1
        cases q1; trivial
      · rw [List.getElem?_set_ne e] at q1
        have z := k.en.at_ j sj ov q1 q2
        have ne : ∀ {b : Addr}, ov = some (.ref b) → sj.isOwn = true → b ≠ a := fun {b} e1 o1 e2 => k.en.ap i j so _ _ e h1 q1 ho o1 h2 (by rw [q2, e1, e2])
        cases sj with
        | no => trivial
        | val d => obtain ⟨v, e, r⟩ := z; exact ⟨v, e, r.mono hr (List.prefix_refl _)⟩
        | own ds =>
          obtain ⟨b, xs, rfl, hb, hgb, hcb, r⟩ := z
          have ne := ne rfl rfl
          exact ⟨b, xs, rfl, by rw [upd_ne ne]; exact hb, by rw [upd_ne ne]; exact hgb, hcb, r.mono hr (List.prefix_refl _)⟩
        | ownd ks vs =>
          obtain ⟨b, xs, rfl, hb, hgb, hcb, ek, r⟩ := z
          have ne := ne rfl rfl
          exact ⟨b, xs, rfl, by rw [upd_ne ne]; exact hb, by rw [upd_ne ne]; exact hgb, hcb, ek, r.mono hr (List.prefix_refl _)⟩
        | lockd ks vs =>
          obtain ⟨b, o, xs, rfl, hb, hgb, hcb, ek, r⟩ := z
          have ne := ne rfl rfl
          exact ⟨b, o, xs, rfl, by rw [upd_ne ne]; exact hb, by rw [upd_ne ne]; exact hgb, hcb, ek, r.mono hr (List.prefix_refl _)⟩
    · have ne : ∀ {j : Nat} {sj : Slot}, (ρ.set i Slot.no)[j]? = some sj → sj.isOwn = true → i ≠ j := fun {j sj} q o e => by
        subst e
        rw [List.getElem?_set_self ((List.getElem?_eq_some_iff.mp h1).1)] at q
        cases q; cases o
      have e1 := ne q1 o1
      have e2 := ne q2 o2
      rw [List.getElem?_set_ne e1] at q1
      rw [List.getElem?_set_ne e2] at q2
      exact k.en.ap j l sj sl' w hjl q1 q2 o1 o2 q3 q4
    · have ne : i ≠ j := fun e => by
        subst e
        rw [List.getElem?_set_self ((List.getElem?_eq_some_iff.mp h1).1)] at q1
        cases q1; cases q2
      rw [List.getElem?_set_ne ne] at q1
      exact k.own j sj b q1 q2 q3
  have k2 := k1.set (i := i) r
  rw [List.set_set, set_same h2] at k2
  exact k2
theorem upd_self {H : Hp} {a : Addr} {o : HO} (h : H a = some o) : upd H a o = H := by
  funext b
  by_cases e : b = a
  · subst e; rw [upd_same, h]
  · rw [upd_ne e]
/-- a slot's list or dict is fixed -/
theorem Sk.frz (k : Sk K G0 H0 c0 G H cs s ρ σ) (i : Nat) : (∃ G1, Ext G cs G1 cs ∧ Sk K G0 H0 c0 G1 H cs s (freezeE ρ i) σ) ∨
    ∃ a kvs, H a = some (.dK kvs) ∧ ∀ od, ∃ G1, Ext G cs G1 cs ∧ Sk K G0 H0 c0 G1 (upd H a (.frz od (.dK kvs))) cs s (freezeE ρ i) σ := by
  unfold freezeE
  cases q : ρ[i]? with
  | none => exact .inl ⟨G, .refl, k⟩
  | some sl =>
    have hi : i < σ.length := by rw [← k.en.len]; exact (List.getElem?_eq_some_iff.mp q).1
    have z := k.en.at_ i sl _ q (List.getElem?_eq_getElem hi)
    cases sl with
    | own ds =>
      obtain ⟨a, xs, e, hH, hg, hc, r⟩ := z
      obtain ⟨k1, k2⟩ := k.fix (o := .lst xs) (d := .lst ds) q rfl (by rw [List.getElem?_eq_getElem hi, e]) hg hc (.lst upd_same (r.mono (same_upd hg) (List.prefix_refl _)))
      rw [upd_self hH] at k2
      exact .inl ⟨_, k1, k2⟩
    | ownd ks vs =>
      obtain ⟨a, kvs, e, hH, hg, hc, rfl, r⟩ := z
      refine .inr ⟨a, kvs, hH, fun od => ?_⟩
      obtain ⟨k1, k2⟩ := k.fix (o := .frz od (.dK kvs)) (d := .dct (kvs.map fun p => kD p.1) vs) q rfl (by rw [List.getElem?_eq_getElem hi, e]) hg hc (.dct upd_same (r.mono (same_upd hg) (List.prefix_refl _)))
      exact ⟨_, k1, k2⟩
    | _ => exact .inl ⟨G, .refl, k⟩
end
end
end PV
set_option Elab.async false
set_option linter.all false
set_option autoImplicit false
set_option maxRecDepth 100000
set_option maxHeartbeats 4000000
namespace PV
open PySem PySem.Spec L2
open PyProof.Rows hiding St
section
variable {p : Pr} {N : List Str} {call : Nat → List D → M D} {X : Cx} {lv : Nat} {sc : Scope} {G0 H0 : Hp} {c0 : List Addr}
abbrev tX (call : Nat → List D → M D) (X : Cx) (G0 H0 : Hp) (c0 : List Addr) (c : C) : TS := tS X.K G0 H0 c0 (ex call c)
/-- a statement's reading, wherever its def began -/
def Ss (call : Nat → List D → M D) (X : Cx) (a : Stmt) (c : C) : Prop := ∀ G0 H0 c0, PS X a (tX call X G0 H0 c0 c)
def Ssx (call : Nat → List D → M D) (X : Cx) (a : List Stmt) (c : Cs) : Prop := ∀ G0 H0 c0, PSs X a (tS X.K G0 H0 c0 (exs call c))
theorem ssx_nil : Ssx call X [] .nil := fun G0 H0 c0 => PSs.cq pss_nil fun D σ H hq => by
  obtain ⟨G, cs, s, ρ, out, s', k, m, q⟩ := hq
  obtain ⟨rfl, rfl⟩ := M.pure_some m
  exact q G H cs σ .refl k
theorem ssx_cons {a : Stmt} {as : List Stmt} {c : C} {cs : Cs} (h : Ss call X a c) (hs : Ssx call X as cs) : Ssx call X (a :: as) (.cons c cs) := fun G0 H0 c0 => PSs.cq (pss_cons (h G0 H0 c0) (hs G0 H0 c0)) fun D σ H hq => by
  obtain ⟨G, cs', s, ρ, out, s', k, m, q⟩ := hq
  obtain ⟨o, s1, m1, m⟩ := M.bind_some m
  refine ⟨G, cs', s, ρ, o, s1, k, m1, ?_⟩
  cases o with
  | nx ρ' => exact fun G1 H1 c1 σ1 e1 k1 => ⟨G1, c1, s1, ρ', out, s', k1, m, q.from e1⟩
  | ret d => obtain ⟨rfl, rfl⟩ := M.pure_some m; exact q
  | bk ρ' => obtain ⟨rfl, rfl⟩ := M.pure_some m; exact q
  | ct ρ' => obtain ⟨rfl, rfl⟩ := M.pure_some m; exact q
theorem ss_pass {pos : Pos} : Ss call X (.Pass pos) .pass := fun G0 H0 c0 => PS.cq ps_pass fun D σ H hq => by
  obtain ⟨G, cs, s, ρ, out, s', k, m, q⟩ := hq
  obtain ⟨rfl, rfl⟩ := M.pure_some m
  exact q G H cs σ .refl k
theorem ss_break {pos : Pos} : Ss call X (.Break pos) .brk := fun G0 H0 c0 => PS.cq ps_break fun D σ H hq => by
  obtain ⟨G, cs, s, ρ, out, s', k, m, q⟩ := hq
  obtain ⟨rfl, rfl⟩ := M.pure_some m
  exact q G H cs σ .refl k
theorem ss_cont {pos : Pos} : Ss call X (.Continue pos) .cont := fun G0 H0 c0 => PS.cq ps_continue fun D σ H hq => by
  obtain ⟨G, cs, s, ρ, out, s', k, m, q⟩ := hq
  obtain ⟨rfl, rfl⟩ := M.pure_some m
  exact q G H cs σ .refl k
theorem ss_never {a : Stmt} : Ss call X a .never := fun G0 H0 c0 => PS.cq ps_never fun D σ H hq => by
  obtain ⟨G, cs, s, ρ, out, s', k, m, q⟩ := hq
  cases m
theorem ss_frz {a : Stmt} {c : C} {i : Nat} (h : Ss call X a c) : Ss call X a (.frz i c) := fun G0 H0 c0 => ⟨fun pins st σ H D I hq => by
  obtain ⟨G, cs, s, ρ, out, s', k, m, q⟩ := hq
  rcases k.frz i with ⟨G1, e1, k1⟩ | ⟨ad, kvs, hH, hod⟩
  · exact (h G0 H0 c0).run pins st σ H D I ⟨G1, cs, s, _, out, s', k1, m, q.from e1⟩
  · obtain ⟨od, I2⟩ := I.lock hH trivial
    obtain ⟨G1, e1, k1⟩ := hod od
    exact (h G0 H0 c0).run pins st σ _ D I2 ⟨G1, cs, s, _, out, s', k1, m, q.from e1⟩⟩
theorem ss_ret {e : Expr} {x : E} {pos : Pos} (h : Sd call X e x) : Ss call X (.Return (some e) pos) (.ret x) := fun G0 H0 c0 => PS.cq (ps_ret (h.pe false)) fun D σ H hq => by
  obtain ⟨G, cs, s, ρ, out, s', k, m, q⟩ := hq
  obtain ⟨d, s1, m1, m⟩ := M.bind_some m
  obtain ⟨rfl, rfl⟩ := M.pure_some m
  obtain ⟨s0, ok0⟩ := k.ok0
  exact ⟨G, cs, s, ρ, d, s1, k.ok, k.en, m1, fun G1 H1 c1 v go1 ok1 r1 => q G1 H1 c1 v (k.go.trans k.ok ok0 go1) ok1 r1⟩
theorem ss_retn {pos : Pos} : Ss call X (.Return none pos) .retn := fun G0 H0 c0 => PS.cq ps_retN fun D σ H hq => by
  obtain ⟨G, cs, s, ρ, out, s', k, m, q⟩ := hq
  obtain ⟨rfl, rfl⟩ := M.pure_some m
  exact q G H cs .non k.go k.ok .non
theorem ss_if {c : Expr} {a b : List Stmt} {x : E} {y z : Cs} {pos : Pos} (h : Sd call X c x) (ha : Ssx call X a y) (hb : Ssx call X b z) : Ss call X (.If c a b pos) (.ifs x y z) := fun G0 H0 c0 => PS.cq (ps_if h.pt (ha G0 H0 c0) (hb G0 H0 c0)) fun D σ H hq => by
  obtain ⟨G, cs, s, ρ, out, s', k, m, q⟩ := hq
  obtain ⟨d, s1, m1, m⟩ := M.bind_some m
  obtain ⟨t, s2, m2, m⟩ := M.bind_some m
  refine ⟨G, cs, s, ρ, t, s2, k.ok, k.en, by unfold evT M.bind; rw [m1]; exact m2, fun G1 H1 c1 go1 ok1 => ?_⟩
  cases t with
  | true => exact ⟨G1, c1, s2, ρ, out, s', k.step go1 ok1, m, q.from go1.ext⟩
  | false => exact ⟨G1, c1, s2, ρ, out, s', k.step go1 ok1, m, q.from go1.ext⟩
/-- no comprehension -/
def noComp : Expr → Bool
  | .ListComp .. => false
  | .SetComp .. => false
  | .DictComp .. => false
  | _ => true
theorem swap_no {e : Expr} {t : Option Expr} {l : Nat} {env : PySem.Env} (h : noComp e = true) : swapsWith e t l env = pure false := by
  cases e <;> first | rfl | cases h
theorem ss_drop {e : Expr} {x : E} {pos : Pos} (hn : noComp e = true) (h : Sd call X e x) : Ss call X (.Expr e pos) (.drop x) := fun G0 H0 c0 => PS.cq (ps_expr (h.pe true) (swap_no hn)) fun D σ H hq => by
  obtain ⟨G, cs, s, ρ, out, s', k, m, q⟩ := hq
  obtain ⟨d, s1, m1, m⟩ := M.bind_some m
  obtain ⟨rfl, rfl⟩ := M.pure_some m
  exact ⟨G, cs, s, ρ, d, s1, k.ok, k.en, m1, fun G1 H1 c1 v go1 ok1 r1 => q G1 H1 c1 σ go1.ext (k.step go1 ok1)⟩
theorem SlotOk.there {K : PySem.W.Frag} {G H : Hp} {cs : List Addr} {sl : Slot} {a : Addr} (h : SlotOk K G H cs sl (some (.ref a))) (o : sl.isOwn = true) : H a ≠ none := by
  intro hn
  cases sl with
  | own ds => obtain ⟨b, xs, e, hb, _⟩ := h; cases e; rw [hn] at hb; cases hb
  | ownd ks vs => obtain ⟨b, xs, e, hb, _⟩ := h; cases e; rw [hn] at hb; cases hb
  | lockd ks vs => obtain ⟨b, o, xs, e, hb, _⟩ := h; cases e; rw [hn] at hb; cases hb
  | _ => cases o
/-- a value's slot -/
def SlV (K : PySem.W.Frag) (G H : Hp) (cs : List Addr) (Hs : Hp) (sl : Slot) (v : V) : Prop := SlotOk K G H cs sl (some v) ∧ (sl.isOwn = true → ∃ a, v = .ref a ∧ Hs a = none)
theorem SlV.go {K : PySem.W.Frag} {G H G' H' : Hp} {cs cs' : List Addr} {s : S} {Hs : Hp} {sl : Slot} {v : V} (ok : StOk K G H cs s) (x : Go G H cs G' H' cs') (h : SlV K G H cs Hs sl v) : SlV K G' H' cs' Hs sl v := ⟨h.1.go (s' := s) ok x, h.2⟩
theorem val_of {o : Bool} {d : D} {sl : Slot} {K : PySem.W.Frag} {G H : Hp} {cs : List Addr} {s : S} {Q : VK} (hm : mkS o d = some sl) (q : ∀ G' H' cs' v, Go G H cs G' H' cs' → StOk K G' H' cs' s → SlV K G' H' cs' H sl v → Q v H') :
    (o = true → isNew d = true) ∧ Val K o G H cs s d Q := by
  cases o with
  | false =>
    cases hm
    exact ⟨fun h => Bool.noConfusion h, fun G1 H1 c1 v go1 ok1 r1 => q G1 H1 c1 v go1 ok1 ⟨⟨v, rfl, r1⟩, fun h => Bool.noConfusion h⟩⟩
  | true =>
    cases d with
    | lst ds =>
      cases (show some (Slot.own ds) = some sl from hm)
      refine ⟨fun _ => rfl, (show NewL K G H cs s (.lst ds) Q from ⟨fun G1 H1 c1 ds' a xs e go1 ok1 hH h0 hg hc ra => ?_, fun _ _ _ _ _ _ e => (by cases e)⟩)⟩
      cases e
      exact q G1 H1 c1 _ go1 ok1 ⟨⟨a, xs, rfl, hH, hg, hc, ra⟩, fun _ => ⟨a, rfl, h0⟩⟩
    | dct ks vs =>
      cases (show some (Slot.ownd ks vs) = some sl from hm)
      refine ⟨fun _ => rfl, (show NewL K G H cs s (.dct ks vs) Q from ⟨fun _ _ _ _ _ _ e => (by cases e), fun G1 H1 c1 vs' a kvs e go1 ok1 hH h0 hg hc ra => ?_⟩)⟩
      cases e
      exact q G1 H1 c1 _ go1 ok1 ⟨⟨a, kvs, rfl, hH, hg, hc, rfl, ra⟩, fun _ => ⟨a, rfl, h0⟩⟩
    | _ => cases (show (none : Option Slot) = some sl from hm)
theorem Sk.setS {K : PySem.W.Frag} {G H : Hp} {cs : List Addr} {s : S} {ρ : Env} {σ : L2.St} (k : Sk K G0 H0 c0 G H cs s ρ σ) {i : Nat} {sl : Slot} {v : V} (hs : SlotOk K G H cs sl (some v)) (ho : sl.isOwn = true → ∃ a, v = .ref a ∧ H0 a = none ∧ ∀ (j : Nat) (sj : Slot), j ≠ i → ρ[j]? = some sj → sj.isOwn = true → σ[j]? ≠ some (some (.ref a))) :
    Sk K G0 H0 c0 G H cs s (ρ.set i sl) (σ.set i (some v)) := by
  cases sl with
  | val d => obtain ⟨w, e, r⟩ := hs; cases e; exact k.set r
  | own ds => obtain ⟨a, rfl, h0, ap⟩ := ho rfl; exact k.setOwn hs h0 rfl ap
  | ownd ks vs => obtain ⟨a, rfl, h0, ap⟩ := ho rfl; exact k.setOwn hs h0 rfl ap
  | lockd ks vs => obtain ⟨a, rfl, h0, ap⟩ := ho rfl; exact k.setOwn hs h0 rfl ap
  | no =>
    have hlen := k.en.len
    refine ⟨k.ok, ⟨by rw [List.length_set, List.length_set, hlen], fun j sj ov h1 h2 => ?_, fun j l sj sl' w hjl h1 h2 o1 o2 h3 h4 => ?_⟩, k.go, k.ok0, fun j sj b h1 h2 h3 => ?_⟩
    · by_cases e : i = j
      · subst e
        rw [List.getElem?_set_self (by have := (List.getElem?_eq_some_iff.mp h1).1; rwa [List.length_set] at this)] at h1
        cases h1; trivial
      · rw [List.getElem?_set_ne e] at h1 h2
        exact k.en.at_ j sj ov h1 h2
    · have ne : ∀ {j : Nat} {sj : Slot}, (ρ.set i Slot.no)[j]? = some sj → sj.isOwn = true → i ≠ j := fun {j sj} q o e => by
        subst e
        rw [List.getElem?_set_self (by have := (List.getElem?_eq_some_iff.mp q).1; rwa [List.length_set] at this)] at q
        cases q; cases o
      have e1 := ne h1 o1
      have e2 := ne h2 o2
      rw [List.getElem?_set_ne e1] at h1 h3
      rw [List.getElem?_set_ne e2] at h2 h4
      exact k.en.ap j l sj sl' w hjl h1 h2 o1 o2 h3 h4
    · have ne : i ≠ j := fun e => by
        subst e
        rw [List.getElem?_set_self (by have := (List.getElem?_eq_some_iff.mp h1).1; rwa [List.length_set] at this)] at h1
        cases h1; cases h2
      rw [List.getElem?_set_ne ne] at h1 h3
      exact k.own j sj b h1 h2 h3
/-- new since the def began -/
theorem Sk.young {K : PySem.W.Frag} {G H : Hp} {cs : List Addr} {s : S} {ρ : Env} {σ : L2.St} (k : Sk K G0 H0 c0 G H cs s ρ σ) {a : Addr} (h : H a = none) : H0 a = none := by
  by_cases hm0 : a ∈ c0
  · obtain ⟨xs, q⟩ := k.ok.inH (k.go.c.subset hm0)
    rw [h] at q; cases q
  · cases q0 : H0 a with
    | none => rfl
    | some o => rw [k.go.keep a o hm0 q0] at h; cases h
/-- what an assignment to a name asks -/
theorem set_go {F : Ends} {G H : Hp} {cs : List Addr} {s s1 : S} {ρ : Env} {σ : L2.St} {i : Nat} {d : D} {o : Bool} {sl : Slot} (k : Sk X.K G0 H0 c0 G H cs s ρ σ) (hm : mkS o d = some sl) (q : OutOk X.K G0 H0 c0 G cs s1 F (.nx (ρ.set i sl))) :
    (o = true → isNew d = true) ∧ Val X.K o G H cs s1 d (fun v H' => gName i v σ H' F.nx) := val_of hm fun G1 H1 c1 v go1 ok1 sv => by
  have k1 := k.step go1 ok1
  exact q G1 H1 c1 _ go1.ext (k1.setS sv.1 fun o => by
    obtain ⟨a, rfl, h⟩ := sv.2 o
    exact ⟨a, rfl, k.young h, fun j sj _ q1 o1 => k.en.apart h j sj q1 o1⟩)
/-- name = e -/
theorem ss_name {i : Nat} {x : Str} {e : Expr} {y : E} {o : Bool} {pos pos' : Pos} (hp : PS X (.Assign [.Name x pos'] e pos) (tAsg (tV X.K o (ev call y false)) (gName i))) : ∀ G0 H0 c0, PS X (.Assign [.Name x pos'] e pos) (tS X.K G0 H0 c0 fun ρ => M.bind (ev call y false ρ) fun d => M.bind (M.of (mkS o d)) fun sd => M.pure (.nx (ρ.set i sd))) := fun G0 H0 c0 => PS.cq hp fun D σ H hq => by
  obtain ⟨G, cs, s, ρ, out, s', k, m, q⟩ := hq
  obtain ⟨d, s1, m1, m⟩ := M.bind_some m
  obtain ⟨sl, s2, m2, m⟩ := M.bind_some m
  obtain ⟨hm, rfl⟩ := M.of_some m2
  obtain ⟨rfl, rfl⟩ := M.pure_some m
  obtain ⟨h1, h2⟩ := set_go (i := i) k hm q
  exact ⟨G, cs, s, ρ, d, s1, k.ok, k.en, m1, h1, h2⟩
theorem set_eq {i : Nat} {y : E} : (fun ρ : Env => M.bind (ev call y false ρ) fun d => M.bind (M.of (mkS false d)) fun sd => M.pure (Out.nx (ρ.set i sd))) = ex call (.set i y) := rfl
theorem own_eq {i : Nat} {y : E} : (fun ρ : Env => M.bind (ev call y false ρ) fun d => M.bind (M.of (mkS true d)) fun sd => M.pure (Out.nx (ρ.set i sd))) = ex call (.own i y) := rfl
/-- targets = e -/
theorem ss_unpack {t : Tg} {tgx e : Expr} {y : E} {pos : Pos} (h : Sd call X e y) (ht : St1 X tgx t) (hs : swapsWithSole [tgx] e pos.line X.env = pure false) (hw : swappedStores [tgx] e X.env = pure none) : Ss call X (.Assign [tgx] e pos) (.unpack t y) := fun G0 H0 c0 =>
  PS.cq (ps_asg (h.pe false) ht.pg hs hw (by rw [each_ok ht.st]; rfl)) fun D σ H hq => by
  obtain ⟨G, cs, s, ρ, out, s', k, m, q⟩ := hq
  obtain ⟨d, s1, m1, m⟩ := M.bind_some m
  obtain ⟨ρ', s2, m2, m⟩ := M.bind_some m
  obtain ⟨e2, rfl⟩ := M.of_some m2
  obtain ⟨rfl, rfl⟩ := M.pure_some m
  refine ⟨G, cs, s, ρ, d, s1, k.ok, k.en, m1, fun G1 H1 c1 v go1 ok1 r1 => ⟨G1, c1, s1, ρ, d, ρ', ok1, k.en.go k.ok go1, r1, e2, fun σ' en' w o => ?_⟩⟩
  have k1 := k.step go1 ok1
  exact q G1 H1 c1 σ' go1.ext ⟨k1.ok, en', k1.go, k1.ok0, fun j sl a h1 h2 h3 => by
    obtain ⟨h4, h5⟩ := o j sl h1 h2
    exact k1.own j sl a h4 h2 (h5 ▸ h3)⟩
end
end PV
set_option Elab.async false
set_option linter.all false
set_option autoImplicit false
set_option maxRecDepth 100000
set_option maxHeartbeats 4000000
namespace PV
open PySem PySem.Spec L2
open PyProof.Rows hiding St
section
variable {p : Pr} {N : List Str} {call : Nat → List D → M D} {X : Cx} {lv : Nat} {sc : Scope} {G0 H0 : Hp} {c0 : List Addr}
/-! ### name op= e -/
def rIop (K : PySem.W.Frag) (op : BOp) : R2 := fun v w H Q => ∃ i j d, v = .int i ∧ w = .int j ∧ bop op (.int i) (.int j) = some (.int d) ∧ Q (.int d) H
theorem iop_bop (op : BOp) (ho : op ≠ .pow) : OpR X (inplaceOp (opA op)) (rIop X.K op) := by
  intro pins st σ H v w u1 u2 Q I r1 r2 h
  obtain ⟨i, j, d, rfl, rfl, e, q⟩ := h
  cases op with
  | add => cases e; exact iop_add pins st σ H _ _ u1 u2 Q I r1 r2 ⟨i, j, rfl, rfl, q⟩
  | sub => cases e; exact iop_sub pins st σ H _ _ u1 u2 Q I r1 r2 ⟨i, j, rfl, rfl, q⟩
  | and => cases e; exact iop_and pins st σ H _ _ u1 u2 Q I r1 r2 ⟨i, j, rfl, rfl, q⟩
  | or => cases e; exact iop_or pins st σ H _ _ u1 u2 Q I r1 r2 ⟨i, j, rfl, rfl, q⟩
  | xor => cases e; exact iop_xor pins st σ H _ _ u1 u2 Q I r1 r2 ⟨i, j, rfl, rfl, q⟩
  | mul =>
    have e : (if small64 i || small64 j then some (D.int (i * j)) else none) = some (.int d) := e
    split at e
    · rename_i hc
      cases e
      refine iop_mul pins st σ H _ _ u1 u2 Q I r1 r2 ⟨i, j, rfl, rfl, ?_, q⟩
      rcases Bool.or_eq_true_iff.mp hc with h | h
      · exact .inl (of_decide_eq_true h)
      · exact .inr (of_decide_eq_true h)
    · cases e
  | fdiv =>
    have e : (if j ≠ 0 ∧ j.natAbs < 1073741824 then some (D.int (pdiv i j)) else none) = some (.int d) := e
    split at e
    · rename_i hc
      cases e
      refine opI (C := CDivN) (g := fun i j => i.fdiv j) (fun _ _ _ _ _ _ _ hc q => ifloordiv_int hc.1 q (.inl (PyProof.noPylong_small hc.2))) pins st σ H _ _ u1 u2 Q I r1 r2 ⟨i, j, rfl, rfl, hc, by rw [fdivZ] at q; exact q⟩
    · cases e
  | mod =>
    have e : (if j ≠ 0 then some (D.int (pmod i j)) else none) = some (.int d) := e
    split at e
    · rename_i hc
      cases e
      refine opI (C := fun _ j => j ≠ 0) (g := fun i j => i.fmod j) (fun _ _ _ _ _ _ _ hc q => imod_int hc q) pins st σ H _ _ u1 u2 Q I r1 r2 ⟨i, j, rfl, rfl, hc, by rw [fmodZ] at q; exact q⟩
    · cases e
  | shl =>
    have e : (if 0 ≤ j ∧ j ≤ 1000000 ∧ i.natAbs < 2 ^ 64 then some (D.int (i * 2 ^ j.toNat)) else none) = some (.int d) := e
    split at e
    · rename_i hc
      cases e
      exact iop_shl pins st σ H _ _ u1 u2 Q I r1 r2 ⟨i, j, rfl, rfl, hc, q⟩
    · cases e
  | shr =>
    have e : (if 0 ≤ j then some (D.int (i / 2 ^ j.toNat)) else none) = some (.int d) := e
    split at e
    · rename_i hc
      cases e
      exact iop_shr pins st σ H _ _ u1 u2 Q I r1 r2 ⟨i, j, rfl, rfl, hc, q⟩
    · cases e
  | pow => exact absurd rfl ho
theorem bop_int {op : BOp} {i j : Int} {d : D} (h : bop op (.int i) (.int j) = some d) : ∃ k, d = .int k := by
  cases op <;> simp only [bop] at h <;> first
    | (cases h; exact ⟨_, rfl⟩)
    | (split at h <;> first | (cases h; exact ⟨_, rfl⟩) | cases h)
theorem ss_aug {i : Nat} {x : Str} {e : Expr} {y : E} {op : BOp} {pos pos' : Pos} (hN : X.N.Nodup) (hi : X.N[i]? = some x) (hx : Loc X.env.scope x) (hf : X.fn x = true ∨ X.env.scope.names.lookup x = some .local) (ho : op ≠ .pow) (h : Sd call X e y) :
    Ss call X (.AugAssign (.Name x pos') (opA op) e pos) (.aug i op y) := fun G0 H0 c0 => PS.cq (ps_aug hN hi hx (h.pe false) (iop_bop op ho) hf) fun F σ H hq => by
  obtain ⟨G, cs, s, ρ, out, s', k, m, q⟩ := hq
  obtain ⟨x1, s1, m1, m⟩ := M.bind_some m
  obtain ⟨e1, rfl⟩ := M.of_some m1
  obtain ⟨y1, s2, m2, m⟩ := M.bind_some m
  obtain ⟨v, hv, r⟩ := k.en.val e1
  cases x1 with
  | int a =>
    cases y1 with
    | int b =>
      obtain ⟨d, s3, m3, m⟩ := M.bind_some m
      obtain ⟨e3, rfl⟩ := M.of_some m3
      obtain ⟨rfl, rfl⟩ := M.pure_some m
      obtain ⟨z, rfl⟩ := bop_int e3
      have hr : v = .int a := by cases r; rfl
      subst hr
      refine ⟨_, hv, G, cs, s, ρ, .int b, s2, k.ok, k.en, m2, fun G1 H1 c1 w go1 ok1 r1 => ?_⟩
      obtain rfl := r1.B.int
      exact ⟨a, b, z, rfl, rfl, e3, q G1 H1 c1 _ go1.ext ((k.step go1 ok1).set (.int _))⟩
    | _ => cases m
  | _ => cases m
/-! ### own lists -/
theorem own_at {K : PySem.W.Frag} {G H : Hp} {cs : List Addr} {s : S} {ρ : Env} {σ : L2.St} (k : Sk K G0 H0 c0 G H cs s ρ σ) {i : Nat} {ds : List D} (h : ρ[i]? = some (.own ds)) : ∃ a xs, σ[i]? = some (some (.ref a)) ∧ H a = some (.lst xs) ∧ G a = none ∧ a ∉ cs ∧ RepAll K G cs ds xs := by
  have hi : i < σ.length := by rw [← k.en.len]; exact (List.getElem?_eq_some_iff.mp h).1
  obtain ⟨a, xs, e, hr⟩ := k.en.at_ i _ _ h (List.getElem?_eq_getElem hi)
  exact ⟨a, xs, by rw [List.getElem?_eq_getElem hi, e], hr⟩
theorem ownd_at {K : PySem.W.Frag} {G H : Hp} {cs : List Addr} {s : S} {ρ : Env} {σ : L2.St} (k : Sk K G0 H0 c0 G H cs s ρ σ) {i : Nat} {ks vs : List D} (h : ρ[i]? = some (.ownd ks vs)) :
    ∃ a kvs, σ[i]? = some (some (.ref a)) ∧ H a = some (.dK kvs) ∧ G a = none ∧ a ∉ cs ∧ ks = kvs.map (fun p => kD p.1) ∧ RepAll K G cs vs (kvs.map Prod.snd) := by
  have hi : i < σ.length := by rw [← k.en.len]; exact (List.getElem?_eq_some_iff.mp h).1
  obtain ⟨a, xs, e, hr⟩ := k.en.at_ i _ _ h (List.getElem?_eq_getElem hi)
  exact ⟨a, xs, by rw [List.getElem?_eq_getElem hi, e], hr⟩
theorem ss_app {i : Nat} {x : Str} {e : Expr} {y : E} {nm : Str} {px pa pc pos : Pos} (hN : X.N[i]? = some x) (hv : Vis X.env.scope x) (h1 : (x == ("__debug__" : Str)) = false) (h2 : (x == ("__classdict__" : Str)) = false) (hn : noStar e = true) (hnm : nm = ("append" : Str))
    (hl : (pa.endLine == pc.line) = true) (h : Sd call X e y) : Ss call X (.Expr (.Call (.Attribute (.Name x px) nm pa) [e] [] pc) pos) (.app i y) := by
  subst hnm
  intro G0 H0 c0
  have hpe := pe_bm (X := X) PySem.F.plainAttrs_list PySem.F.slot_list_append PySem.F.type_list_append mt_append (pe_var (pos := px) hN hv h1 h2) (pa_cons (h.pe false) pa_nil (star_ok hn)) (cpos := pc) (apos := pa) (by rfl) (by rw [star_ok hn]; rfl) hl (star_ok hn) (anyStar rfl)
  refine PS.cq (ps_expr hpe (swap_no rfl)) fun F σ H hq => ?_
  obtain ⟨G, cs, s, ρ, out, s', k, m, q⟩ := hq
  obtain ⟨d, s1, m1, m⟩ := M.bind_some m
  cases hρ : ρ[i]? with
  | none => rw [hρ] at m; cases m
  | some sl =>
    rw [hρ] at m
    cases sl with
    | own ds =>
      simp only at m
      split at m
      · rename_i hlt
        obtain ⟨rfl, rfl⟩ := M.pure_some m
        obtain ⟨a, xs, hσ, hH, hg, hc, ra⟩ := own_at k hρ
        refine ⟨_, hσ, .inl ⟨rfl, _, .inl (.inl hH)⟩, G, cs, s, ρ, d, s1, k.ok, k.en, m1, fun G1 H1 c1 v go1 ok1 r1 => ?_⟩
        have k1 := k.step go1 ok1
        obtain ⟨a', xs', hσ', hH', hg', hc', ra'⟩ := own_at k1 hρ
        rw [hσ] at hσ'
        cases hσ'
        rw [line_eq] at hlt
        refine ⟨a, xs', v, rfl, rfl, hH', by rw [← ra'.length]; exact hlt, ?_⟩
        exact q G1 _ c1 σ go1.ext (k1.change hρ rfl hσ hg' hc' (sl := .own (ds ++ [d])) ⟨a, _, rfl, upd_same, hg', hc', ra'.append (.cons r1 .nil)⟩ rfl)
      · cases m
    | _ => cases m
theorem ss_ext {i : Nat} {x : Str} {e : Expr} {y : E} {pos pos' : Pos} (hN : X.N.Nodup) (hi : X.N[i]? = some x) (hx : Loc X.env.scope x) (hf : X.fn x = true ∨ X.env.scope.names.lookup x = some .local) (h : Sd call X e y) :
    Ss call X (.AugAssign (.Name x pos') .Add e pos) (.ext i y) := fun G0 H0 c0 => PS.cq (ps_aug hN hi hx (h.pe false) iop_ext hf) fun F σ H hq => by
  obtain ⟨G, cs, s, ρ, out, s', k, m, q⟩ := hq
  obtain ⟨d, s1, m1, m⟩ := M.bind_some m
  cases hρ : ρ[i]? with
  | none => rw [hρ] at m; cases m
  | some sl =>
    rw [hρ] at m
    cases sl with
    | own ds =>
      cases d with
      | lst es =>
        simp only at m
        split at m
        · rename_i hlt
          obtain ⟨rfl, rfl⟩ := M.pure_some m
          obtain ⟨a, xs, hσ, hH, hg, hc, ra⟩ := own_at k hρ
          refine ⟨_, hσ, G, cs, s, ρ, .lst es, s1, k.ok, k.en, m1, fun G1 H1 c1 v go1 ok1 r1 => ?_⟩
          have k1 := k.step go1 ok1
          obtain ⟨a', xs', hσ', hH', hg', hc', ra'⟩ := own_at k1 hρ
          rw [hσ] at hσ'
          cases hσ'
          rw [line_eq] at hlt
          have r1 : Rep X.K G1 c1 (.lst es) v := r1
          cases r1 with
          | @lst b ys _ hb rb =>
            refine ⟨a, b, xs', ys, rfl, rfl, hH', ok1.sub _ _ hb, by rw [← ra'.length, ← rb.length]; exact hlt, ?_⟩
            have e : σ.set i (some (.ref a)) = σ := by
              refine List.ext_getElem? fun j => ?_
              by_cases e : i = j
              · subst e
                rw [List.getElem?_set_self ((List.getElem?_eq_some_iff.mp hσ).1), hσ]
              · rw [List.getElem?_set_ne e]
            show F.nx (σ.set i (some (.ref a))) _
            rw [e]
            exact q G1 _ c1 σ go1.ext (k1.change hρ rfl hσ hg' hc' (sl := .own (ds ++ es)) ⟨a, _, rfl, upd_same, hg', hc', ra'.append rb⟩ rfl)
        · cases m
      | _ => cases m
    | _ => cases d <;> cases m
/-! ### x[k] = e -/
theorem putAt_ix {ds ds' : List D} {xs : List V} {k : Int} {d : D} (hl : ds.length = xs.length) (h : putAt ds k d = some ds') : ∃ j, ixN xs.length k = some j ∧ ds' = ds.set j d := by
  unfold putAt at h
  split at h
  · rename_i hc
    cases h
    exact ⟨_, by unfold ixN; rw [if_pos hc.1, if_pos (by omega)], rfl⟩
  · split at h
    · rename_i hc
      cases h
      refine ⟨_, by unfold ixN; rw [if_neg (by omega), if_pos (by omega)], by rw [hl]⟩
    · cases h
/-- a list's or a dict's store by values -/
def rPut : TSet := fun o i v H Q => rSetL o i v H Q ∨ ∃ a H', o = .ref a ∧ DPut H a i v H' ∧ Q H'
theorem set_put (hu : X.A.units + 1 < cLine) : PSet X rPut := by
  intro pins s σ H o i v ov iv u Q I ro ri rv h
  rcases h with h | ⟨a, H', rfl, g, q⟩
  · exact set_list pins s σ H o i v ov iv u Q I ro ri rv h
  · cases ro
    exact d_setItem hu I g ri rv fun s' I' => ⟨H', I', q⟩
theorem sub_as {o i : Expr} {pos : Pos} {env : PySem.Env} : (assignEach [Expr.Subscript o i pos] env).map (·.2) = [assign (.Subscript o i pos) env] := rfl
theorem sub_rel {o i : Expr} {pos : Pos} {env : PySem.Env} (h : noSlice i = true) : ∀ v, assign (.Subscript o i pos) env v = (do
      let ov ← holding [v] (eval o env)
      let iv ← holding [v, ov] (eval i env)
      standAt pos
      holding [v, ov, iv] (setItem ov iv v)
      release [v, ov, iv] []) := by
  intro v
  cases i <;> first | rfl | cases h
theorem sub_sw {e o i : Expr} {ps : Pos} {l : Nat} {env : PySem.Env} : swapsWithSole [.Subscript o i ps] e l env = pure false := by
  cases e <;> rfl
theorem sub_sto {e o i : Expr} {ps : Pos} {env : PySem.Env} : swappedStores [.Subscript o i ps] e env = pure none := rfl
theorem ss_put (hr : Room lv X.A) {i : Nat} {x : Str} {ke e : Expr} {z y : E} {px ps pos : Pos} (hN : X.N[i]? = some x) (hv : Vis X.env.scope x) (h1 : (x == ("__debug__" : Str)) = false) (h2 : (x == ("__classdict__" : Str)) = false) (hns : noSlice ke = true)
    (hk : Sd call X ke z) (h : Sd call X e y) : Ss call X (.Assign [.Subscript (.Name x px) ke ps] e pos) (.put i z y) := by
  intro G0 H0 c0
  have hu : X.A.units + 1 < cLine := by have := hr.un; omega
  refine PS.cq (ps_asg (h.pe false) (pg_sub (pe_var hN hv h1 h2) (hk.pe false) (set_put hu) (sub_rel hns)) sub_sw sub_sto sub_as) fun F σ H hq => ?_
  obtain ⟨G, cs, s, ρ, out, s', k, m, q⟩ := hq
  obtain ⟨d, s1, m1, m⟩ := M.bind_some m
  obtain ⟨kd, s2, m2, m⟩ := M.bind_some m
  refine ⟨G, cs, s, ρ, d, s1, k.ok, k.en, m1, fun G1 H1 c1 v go1 ok1 r1 => ?_⟩
  have k1 := k.step go1 ok1
  cases hρ : ρ[i]? with
  | none => rw [hρ] at m; cases m
  | some sl =>
    rw [hρ] at m
    cases sl with
    | own ds =>
      cases kd with
      | int j =>
        obtain ⟨ds', s3, m3, m⟩ := M.bind_some m
        obtain ⟨e3, rfl⟩ := M.of_some m3
        obtain ⟨rfl, rfl⟩ := M.pure_some m
        obtain ⟨a, xs, hσ, hH, hg, hc, ra⟩ := own_at k1 hρ
        refine ⟨_, hσ, G1, c1, s1, ρ, .int j, _, k1.ok, k1.en, m2, fun G2 H2 c2 w go2 ok2 r2 => .inl ?_⟩
        have k2 := k1.step go2 ok2
        obtain ⟨a', xs', hσ', hH', hg', hc', ra'⟩ := own_at k2 hρ
        rw [hσ] at hσ'
        cases hσ'
        obtain rfl := r2.B.int
        obtain ⟨j', e4, rfl⟩ := putAt_ix ra'.length e3
        refine ⟨a, xs', j, j', rfl, rfl, hH', e4, ?_⟩
        exact q G2 _ c2 σ (go1.ext.trans go2.ext) (k2.change hρ rfl hσ hg' hc' (sl := .own _) ⟨a, _, rfl, upd_same, hg', hc', ra'.set (r1.mono go2.g go2.c) j'⟩ rfl)
      | _ => cases m
    | ownd ks vs =>
      simp only at m
      split at m
      · rename_i hc0
        obtain ⟨hk1, hk2⟩ := b2 hc0
        obtain ⟨rfl, rfl⟩ := M.pure_some m
        obtain ⟨key, rfl⟩ := isKey_of hk1
        obtain ⟨a, kvs, hσ, hH, hg, hc, rfl, ra⟩ := ownd_at k1 hρ
        refine ⟨_, hσ, G1, c1, s1, ρ, kD key, _, k1.ok, k1.en, m2, fun G2 H2 c2 w go2 ok2 r2 => .inr ?_⟩
        have k2 := k1.step go2 ok2
        obtain ⟨a', kvs', hσ', hH', hg', hc', e', ra'⟩ := ownd_at k2 hρ
        rw [hσ] at hσ'
        cases hσ'
        have hkv : kvs' = kvs := by
          have := go2.keep a _ hc hH
          rw [hH'] at this
          cases this; rfl
        subst hkv
        obtain rfl := r2.B.kD
        have hlen : kvs'.length < sizeLine := by have := dt hk2; rw [List.length_map, line_eq] at this; exact this
        obtain ⟨d1, d2⟩ := dput_ok (k := key) ra' (r1.mono go2.g go2.c)
        refine ⟨a, _, rfl, DPut.k hH' hlen, ?_⟩
        exact q G2 _ c2 σ (go1.ext.trans go2.ext) (k2.change hρ rfl hσ hg' hc' (sl := .ownd _ _) ⟨a, _, rfl, upd_same, hg', hc', d1, d2⟩ rfl)
      · cases m
    | _ => cases m
end
end PV
set_option Elab.async false
set_option linter.all false
set_option autoImplicit false
set_option maxRecDepth 100000
set_option maxHeartbeats 4000000
namespace PV
open PySem PySem.Spec L2
open PyProof.Rows hiding St
section
variable {p : Pr} {N : List Str} {call : Nat → List D → M D} {X : Cx} {lv : Nat} {sc : Scope} {G0 H0 : Hp} {c0 : List Addr}
/-! ### o[k] = e, o a mutable object -/
theorem Sk.cput {K : PySem.W.Frag} {G H : Hp} {cs : List Addr} {s : S} {ρ : Env} {σ : L2.St} (k : Sk K G0 H0 c0 G H cs s ρ σ) {n : Nat} {a : Addr} {o : O} {ho : HO} (hc : cs[n]? = some a) (hn : n < s.length) (ra : RepO K G cs o ho) :
    Sk K G0 H0 c0 G (upd H a ho) cs (s.set n o) ρ σ := by
  have ham : a ∈ cs := List.mem_of_getElem? hc
  refine ⟨k.ok.put hc hn ra, ⟨k.en.len, fun j sj ov h1 h2 => ?_, k.en.ap⟩, k.go.put ham, k.ok0, k.own⟩
  have z := k.en.at_ j sj ov h1 h2
  cases sj with
  | no => trivial
  | val d => exact z
  | own es =>
    obtain ⟨b, zs, e, h3, h4, h5, h6⟩ := z
    exact ⟨b, zs, e, by rw [upd_ne (fun q => h5 (by rw [q]; exact ham))]; exact h3, h4, h5, h6⟩
  | ownd es vs =>
    obtain ⟨b, zs, e, h3, h4, h5, h6⟩ := z
    exact ⟨b, zs, e, by rw [upd_ne (fun q => h5 (by rw [q]; exact ham))]; exact h3, h4, h5, h6⟩
  | lockd es vs =>
    obtain ⟨b, o, zs, e, h3, h4, h5, h6⟩ := z
    exact ⟨b, o, zs, e, by rw [upd_ne (fun q => h5 (by rw [q]; exact ham))]; exact h3, h4, h5, h6⟩
theorem ss_cput {oe ke e : Expr} {w z y : E} {ps pos : Pos} (hns : noSlice ke = true) (ho : Sd call X oe w) (hk : Sd call X ke z) (h : Sd call X e y) : Ss call X (.Assign [.Subscript oe ke ps] e pos) (.cput w z y) := by
  intro G0 H0 c0
  refine PS.cq (ps_asg (h.pe false) (pg_sub (ho.pe false) (hk.pe false) set_list (sub_rel hns)) sub_sw sub_sto sub_as) fun F σ H hq => ?_
  obtain ⟨G, cs, s, ρ, out, s', k, m, q⟩ := hq
  obtain ⟨d, s1, m1, m⟩ := M.bind_some m
  obtain ⟨od, s2, m2, m⟩ := M.bind_some m
  obtain ⟨kd, s3, m3, m⟩ := M.bind_some m
  refine ⟨G, cs, s, ρ, d, s1, k.ok, k.en, m1, fun G1 H1 c1 v go1 ok1 r1 => ?_⟩
  have k1 := k.step go1 ok1
  refine ⟨G1, c1, s1, ρ, od, s2, k1.ok, k1.en, m2, fun G2 H2 c2 u go2 ok2 r2 => ?_⟩
  have k2 := k1.step go2 ok2
  refine ⟨G2, c2, s2, ρ, kd, s3, k2.ok, k2.en, m3, fun G3 H3 c3 t go3 ok3 r3 => ?_⟩
  have k3 := k2.step go3 ok3
  cases od with
  | cel n =>
    cases kd with
    | int j =>
      have m : (match s3[n]? with
        | some (.lst ds) => (match putAt ds j d with
          | some ds' => some (Out.nx ρ, s3.set n (.lst ds'))
          | none => none)
        | _ => none) = some (out, s') := m
      split at m
      · rename_i ds q1
        split at m
        · rename_i ds' q2
          cases m
          have r2' := (r2.B.go go3).proper (fun _ e => by cases e) (fun _ _ e => by cases e)
          cases r2' with
          | cel hc =>
            obtain rfl := r3.B.int
            obtain ⟨hg, _, hH, ro⟩ := ok3.cell n _ _ hc q1
            obtain ⟨xs, rfl, ra⟩ := ro.l
            obtain ⟨j', e4, rfl⟩ := putAt_ix ra.length q2
            refine ⟨_, xs, j, j', rfl, rfl, hH, e4, ?_⟩
            have r1' : Rep X.K G1 c1 d v := r1
            exact q G3 _ c3 σ ((go1.ext.trans go2.ext).trans go3.ext) (k3.cput hc (List.getElem?_eq_some_iff.mp q1).1 (.lst (ra.set ((r1'.mono go2.g go2.c).mono go3.g go3.c) j')))
        · cases m
      · cases m
    | _ => cases m
  | _ => cases kd <;> cases m
/-- a list becomes a mutable object -/
theorem Sk.cell {K : PySem.W.Frag} {G H : Hp} {cs : List Addr} {s : S} {ρ : Env} {σ : L2.St} (k : Sk K G0 H0 c0 G H cs s ρ σ) {i : Nat} {a : Addr} {o : O} {ho : HO} (hH : H a = some ho) (h0 : H0 a = none) (hg : G a = none) (hc : a ∉ cs) (ra : RepO K G cs o ho)
    (ap : ∀ (j : Nat) (sj : Slot), ρ[j]? = some sj → sj.isOwn = true → σ[j]? ≠ some (some (.ref a))) : Sk K G0 H0 c0 G H (cs ++ [a]) (s ++ [o]) (ρ.set i (.val (.cel s.length))) (σ.set i (some (.ref a))) := by
  have pre : cs <+: cs ++ [a] := List.prefix_append _ _
  have ok1 : StOk K G H (cs ++ [a]) (s ++ [o]) := by
    refine ⟨k.ok.sub, by simp [k.ok.len], ?_, fun n b es h1 h2 => ?_⟩
    · rw [List.nodup_append]
      refine ⟨k.ok.nd, by simp, fun x hx y hy e => ?_⟩
      have : y = a := by simpa using hy
      subst this
      exact hc (e ▸ hx)
    · by_cases hn : n < cs.length
      · rw [List.getElem?_append_left hn] at h1
        rw [List.getElem?_append_left (by rw [← k.ok.len]; exact hn)] at h2
        obtain ⟨z, zs, h3, h4⟩ := k.ok.cell n b es h1 h2
        exact ⟨z, zs, h3, h4.mono (Same.refl _) pre⟩
      · rw [List.getElem?_append_right (by omega)] at h1
        rw [List.getElem?_append_right (by rw [← k.ok.len]; omega), ← k.ok.len] at h2
        have hz : n - cs.length = 0 := by
          have := (List.getElem?_eq_some_iff.mp h1).1
          simp at this; omega
        rw [hz] at h1 h2
        cases h1
        cases h2
        exact ⟨hg, ho, hH, ra.mono (Same.refl _) pre⟩
  have go1 : Go G0 H0 c0 G H (cs ++ [a]) := ⟨k.go.g, k.go.c.trans pre, k.go.keep, k.go.newG, fun b hb => by
    rcases List.mem_append.mp hb with z | z
    · exact k.go.newC b z
    · have : b = a := by simpa using z
      subst this
      exact .inr h0⟩
  have k1 : Sk K G0 H0 c0 G H (cs ++ [a]) (s ++ [o]) ρ σ := by
    refine ⟨ok1, ⟨k.en.len, fun j sj ov h1 h2 => ?_, k.en.ap⟩, go1, k.ok0, k.own⟩
    have z := k.en.at_ j sj ov h1 h2
    have nin : ∀ b, ov = some (.ref b) → sj.isOwn = true → b ∉ cs → b ∉ cs ++ [a] := fun b e o hb hm => by
      rcases List.mem_append.mp hm with z | z
      · exact hb z
      · have : b = a := by simpa using z
        subst this
        exact ap j sj h1 o (by rw [h2, e])
    cases sj with
    | no => trivial
    | val d => obtain ⟨v, e, r⟩ := z; exact ⟨v, e, r.mono (Same.refl _) pre⟩
    | own es =>
      obtain ⟨b, zs, e, h3, h4, h5, h6⟩ := z
      exact ⟨b, zs, e, h3, h4, nin b e rfl h5, h6.mono (Same.refl _) pre⟩
    | ownd es vs =>
      obtain ⟨b, zs, e, h3, h4, h5, h6, h7⟩ := z
      exact ⟨b, zs, e, h3, h4, nin b e rfl h5, h6, h7.mono (Same.refl _) pre⟩
    | lockd es vs =>
      obtain ⟨b, o, zs, e, h3, h4, h5, h6, h7⟩ := z
      exact ⟨b, o, zs, e, h3, h4, nin b e rfl h5, h6, h7.mono (Same.refl _) pre⟩
  exact k1.set (.cel (by rw [← k.ok.len]; simp))
theorem ss_cell {i : Nat} {x : Str} {e : Expr} {y : E} {pos pos' : Pos} (hp : PS X (.Assign [.Name x pos'] e pos) (tAsg (tV X.K true (ev call y false)) (gName i))) : Ss call X (.Assign [.Name x pos'] e pos) (.cell i y) := fun G0 H0 c0 => PS.cq hp fun F σ H hq => by
  obtain ⟨G, cs, s, ρ, out, s', k, m, q⟩ := hq
  obtain ⟨d, s1, m1, m⟩ := M.bind_some m
  have fin : ∀ {o : O} {Q : Prop}, (∀ G1 H1 c1 a ho, Go G H cs G1 H1 c1 → StOk X.K G1 H1 c1 s1 → H1 a = some ho → H a = none → G1 a = none → a ∉ c1 → RepO X.K G1 c1 o ho → OutOk X.K G0 H0 c0 G cs (s1 ++ [o]) F (.nx (ρ.set i (.val (.cel s1.length)))) → F.nx (σ.set i (some (.ref a))) H1) := by
    intro o _ G1 H1 c1 a ho go1 ok1 hH h0 hg hc ra q
    have k1 := k.step go1 ok1
    exact q G1 H1 _ _ ⟨go1.g, go1.c.trans (List.prefix_append _ _)⟩ (k1.cell hH (k.young h0) hg hc ra fun j sj q1 o1 => k.en.apart h0 j sj q1 o1)
  cases d with
  | lst ds =>
    have m : some (Out.nx (ρ.set i (.val (.cel s1.length))), s1 ++ [.lst ds]) = some (out, s') := m
    cases m
    refine ⟨G, cs, s, ρ, .lst ds, s1, k.ok, k.en, m1, fun _ => rfl, (show NewL X.K G H cs s1 (.lst ds) _ from ⟨fun G1 H1 c1 ds' a xs e go1 ok1 hH h0 hg hc ra => ?_, fun _ _ _ _ _ _ e => (by cases e)⟩)⟩
    cases e
    exact fin (Q := True) G1 H1 c1 a _ go1 ok1 hH h0 hg hc (.lst ra) q
  | dct ks vs =>
    have m : some (Out.nx (ρ.set i (.val (.cel s1.length))), s1 ++ [.dct ks vs]) = some (out, s') := m
    cases m
    refine ⟨G, cs, s, ρ, .dct ks vs, s1, k.ok, k.en, m1, fun _ => rfl, (show NewL X.K G H cs s1 (.dct ks vs) _ from ⟨fun _ _ _ _ _ _ e => (by cases e), fun G1 H1 c1 vs' a kvs e go1 ok1 hH h0 hg hc ra => ?_⟩)⟩
    cases e
    exact fin (Q := True) G1 H1 c1 a _ go1 ok1 hH h0 hg hc (.dct ra) q
  | _ => cases m
/-! ### a, b = e1, e2 -/
theorem ss_par2 {i j : Nat} {x y : Str} {a b : Expr} {oa ob : Bool} {u w : E} {px py pt pos : Pos} {kt k2 pt2} (hc : X.calm = true) (hN : X.N.Nodup) (hi : X.N[i]? = some x) (hj : X.N[j]? = some y) (hij : i ≠ j) (hx : X.env.scope.names.lookup x = some .local) (hy : X.env.scope.names.lookup y = some .local)
    (hw : swappedStores [.Tuple [.Name x px, .Name y py] kt pt] (.Tuple [a, b] k2 pt2) X.env = pure (some [x, y])) (na : noStar a = true) (nb : noStar b = true) (ha : PE X a (tV X.K oa (ev call u false))) (hb : PE X b (tV X.K ob (ev call w false))) :
    Ss call X (.Assign [.Tuple [.Name x px, .Name y py] kt pt] (.Tuple [a, b] k2 pt2) pos) (.par2 i j oa ob u w) := by
  intro G0 H0 c0
  refine PS.cq (ps_par hc hN hi hj hij hx hy (pa_cons ha (pa_cons hb pa_nil (star_ok nb)) (star_ok na)) hw) fun F σ H hq => ?_
  obtain ⟨G, cs, s, ρ, out, s', k, m, q⟩ := hq
  obtain ⟨d1, s1, m1, m⟩ := M.bind_some m
  obtain ⟨d2, s2, m2, m⟩ := M.bind_some m
  obtain ⟨sx, s3, m3, m⟩ := M.bind_some m
  obtain ⟨e3, rfl⟩ := M.of_some m3
  obtain ⟨sy, s4, m4, m⟩ := M.bind_some m
  obtain ⟨e4, rfl⟩ := M.of_some m4
  obtain ⟨rfl, rfl⟩ := M.pure_some m
  have A := val_of (K := X.K) (G := G) (H := H) (cs := cs) (s := s1) (Q := fun v H' => (tCons (tV X.K ob (ev call w false)) tNil) σ H' fun vs H2 => ∃ a b, v :: vs = [a, b] ∧ F.nx ((σ.set i (some a)).set j (some b)) H2) e3 fun G1 H1 c1 v go1 ok1 sv1 => by
    have k1 := k.step go1 ok1
    have B := val_of (K := X.K) (G := G1) (H := H1) (cs := c1) (s := s2) (Q := fun z H' => tNil σ H' fun vs H2 => ∃ a b, v :: z :: vs = [a, b] ∧ F.nx ((σ.set i (some a)).set j (some b)) H2) e4 fun G2 H2 c2 z go2 ok2 sv2 => by
      have k2 := k1.step go2 ok2
      have sv1' := sv1.go ok1 go2
      refine ⟨v, z, rfl, q G2 H2 c2 _ (go1.ext.trans go2.ext) ?_⟩
      have k3 : Sk X.K G0 H0 c0 G2 H2 c2 s2 (ρ.set i sx) (σ.set i (some v)) := k2.setS sv1'.1 fun o => by
        obtain ⟨a1, rfl, h1⟩ := sv1'.2 o
        exact ⟨a1, rfl, k.young h1, fun l sl _ q1 o1 => k.en.apart h1 l sl q1 o1⟩
      refine k3.setS sv2.1 fun o => ?_
      obtain ⟨a2, rfl, h2⟩ := sv2.2 o
      refine ⟨a2, rfl, k1.young h2, fun l sl hl q1 o1 q2 => ?_⟩
      by_cases e : i = l
      · subst e
        have hlt : i < ρ.length := by have := (List.getElem?_eq_some_iff.mp q1).1; rwa [List.length_set] at this
        rw [List.getElem?_set_self hlt] at q1
        rw [List.getElem?_set_self (by rw [← k.en.len]; exact hlt)] at q2
        cases q1
        cases q2
        exact (sv1.1.there o1) h2
      · rw [List.getElem?_set_ne e] at q1 q2
        exact k1.en.apart h2 l sl q1 o1 q2
    exact ⟨G1, c1, s1, ρ, d2, s2, k1.ok, k1.en, m2, B.1, B.2⟩
  exact ⟨G, cs, s, ρ, d1, s1, k.ok, k.en, m1, A.1, A.2⟩
theorem Sk.setF {K : PySem.W.Frag} {G H : Hp} {cs : List Addr} {s : S} {ρ : Env} {σ : L2.St} {Gs Hs : Hp} {cS : List Addr} (k : Sk K G0 H0 c0 G H cs s ρ σ) (en : EnvOk K Gs Hs cS ρ σ) (hs0 : ∀ a, Hs a = none → H0 a = none) {i : Nat} {sl : Slot} {v : V} (h : SlV K G H cs Hs sl v) :
    Sk K G0 H0 c0 G H cs s (ρ.set i sl) (σ.set i (some v)) := k.setS h.1 fun o => by
  obtain ⟨a, rfl, h2⟩ := h.2 o
  exact ⟨a, rfl, hs0 a h2, fun j sj _ q1 o1 => en.apart h2 j sj q1 o1⟩
/-- the slots before are apart from a newer object -/
theorem apart_set {K : PySem.W.Frag} {Gs Hs : Hp} {cS : List Addr} {ρ : Env} {σ : L2.St} {i : Nat} {sl : Slot} {v : V} {a : Addr} (hl : ρ.length = σ.length) (h : ∀ (j : Nat) (sj : Slot), ρ[j]? = some sj → sj.isOwn = true → σ[j]? ≠ some (some (.ref a))) (hv : SlotOk K Gs Hs cS sl (some v)) (hn : Hs a = none) :
    ∀ (j : Nat) (sj : Slot), (ρ.set i sl)[j]? = some sj → sj.isOwn = true → (σ.set i (some v))[j]? ≠ some (some (.ref a)) := by
  intro j sj q1 o1 q2
  by_cases e : i = j
  · subst e
    have hlt : i < ρ.length := by have := (List.getElem?_eq_some_iff.mp q1).1; rwa [List.length_set] at this
    rw [List.getElem?_set_self hlt] at q1
    rw [List.getElem?_set_self (by rw [← hl]; exact hlt)] at q2
    cases q1
    cases q2
    exact (hv.there o1) hn
  · rw [List.getElem?_set_ne e] at q1 q2
    exact h j sj q1 o1 q2
theorem ss_par3 {i j l : Nat} {x y z : Str} {a b c : Expr} {oa ob oc : Bool} {u w t : E} {px py pz pt pos : Pos} {kt k2 pt2} (hc : X.calm = true) (hN : X.N.Nodup) (hi : X.N[i]? = some x) (hj : X.N[j]? = some y) (hl : X.N[l]? = some z) (hij : i ≠ j) (hil : i ≠ l) (hjl : j ≠ l) (hx : X.env.scope.names.lookup x = some .local) (hy : X.env.scope.names.lookup y = some .local) (hz : X.env.scope.names.lookup z = some .local)
    (hw : swappedStores [.Tuple [.Name x px, .Name y py, .Name z pz] kt pt] (.Tuple [a, b, c] k2 pt2) X.env = pure (some [x, y, z])) (na : noStar a = true) (nb : noStar b = true) (nc : noStar c = true) (ha : PE X a (tV X.K oa (ev call u false))) (hb : PE X b (tV X.K ob (ev call w false))) (hcc : PE X c (tV X.K oc (ev call t false))) :
    Ss call X (.Assign [.Tuple [.Name x px, .Name y py, .Name z pz] kt pt] (.Tuple [a, b, c] k2 pt2) pos) (.par3 i j l oa ob oc u w t) := by
  intro G0 H0 c0
  refine PS.cq (ps_par3 hc hN hi hj hl hij hil hjl hx hy hz (pa_cons ha (pa_cons hb (pa_cons hcc pa_nil (star_ok nc)) (star_ok nb)) (star_ok na)) hw) fun F σ H hq => ?_
  obtain ⟨G, cs, s, ρ, out, s', k, m, q⟩ := hq
  obtain ⟨d1, s1, m1, m⟩ := M.bind_some m
  obtain ⟨d2, s2, m2, m⟩ := M.bind_some m
  obtain ⟨d3, s3, m3, m⟩ := M.bind_some m
  obtain ⟨sx, s4, m4, m⟩ := M.bind_some m
  obtain ⟨e4, rfl⟩ := M.of_some m4
  obtain ⟨sy, s5, m5, m⟩ := M.bind_some m
  obtain ⟨e5, rfl⟩ := M.of_some m5
  obtain ⟨sz, s6, m6, m⟩ := M.bind_some m
  obtain ⟨e6, rfl⟩ := M.of_some m6
  obtain ⟨rfl, rfl⟩ := M.pure_some m
  have A := val_of (K := X.K) (G := G) (H := H) (cs := cs) (s := s1) (Q := fun v H' => (tCons (tV X.K ob (ev call w false)) (tCons (tV X.K oc (ev call t false)) tNil)) σ H' fun vs H2 => ∃ a b c, v :: vs = [a, b, c] ∧ F.nx (((σ.set i (some a)).set j (some b)).set l (some c)) H2) e4 fun G1 H1 c1 v1 go1 ok1 sv1 => by
    have k1 := k.step go1 ok1
    have B := val_of (K := X.K) (G := G1) (H := H1) (cs := c1) (s := s2) (Q := fun v2 H' => (tCons (tV X.K oc (ev call t false)) tNil) σ H' fun vs H2 => ∃ a b c, v1 :: v2 :: vs = [a, b, c] ∧ F.nx (((σ.set i (some a)).set j (some b)).set l (some c)) H2) e5 fun G2 H2 c2 v2 go2 ok2 sv2 => by
      have k2 := k1.step go2 ok2
      have C := val_of (K := X.K) (G := G2) (H := H2) (cs := c2) (s := s3) (Q := fun v3 H' => tNil σ H' fun vs H2 => ∃ a b c, v1 :: v2 :: v3 :: vs = [a, b, c] ∧ F.nx (((σ.set i (some a)).set j (some b)).set l (some c)) H2) e6 fun G3 H3 c3 v3 go3 ok3 sv3 => by
        have k3 := k2.step go3 ok3
        have sv1' := (sv1.go ok1 go2).go ok2 go3
        have sv2' := sv2.go ok2 go3
        refine ⟨v1, v2, v3, rfl, q G3 H3 c3 _ ((go1.ext.trans go2.ext).trans go3.ext) ?_⟩
        have p1 : Sk X.K G0 H0 c0 G3 H3 c3 s3 (ρ.set i sx) (σ.set i (some v1)) := k3.setF k.en (fun a h => k.young h) sv1'
        have p2 : Sk X.K G0 H0 c0 G3 H3 c3 s3 ((ρ.set i sx).set j sy) ((σ.set i (some v1)).set j (some v2)) := p1.setS sv2'.1 fun o => by
          obtain ⟨a2, rfl, h2⟩ := sv2.2 o
          exact ⟨a2, rfl, k1.young h2, fun n sl _ => apart_set k.en.len (k1.en.apart h2) sv1.1 h2 n sl⟩
        refine p2.setS sv3.1 fun o => ?_
        obtain ⟨a3, rfl, h3⟩ := sv3.2 o
        exact ⟨a3, rfl, k2.young h3, fun n sl _ => apart_set (by rw [List.length_set, List.length_set]; exact k.en.len) (apart_set k.en.len (k2.en.apart h3) (sv1.go ok1 go2).1 h3) sv2.1 h3 n sl⟩
      exact ⟨G2, c2, s2, ρ, d3, s3, k2.ok, k2.en, m3, C.1, C.2⟩
    exact ⟨G1, c1, s1, ρ, d2, s2, k1.ok, k1.en, m2, B.1, B.2⟩
  exact ⟨G, cs, s, ρ, d1, s1, k.ok, k.en, m1, A.1, A.2⟩
/-! ### for -/
theorem ss_for {tgx iter : Expr} {body : List Stmt} {g : Tg} {it : It} {b : Cs} {pos : Pos} (hp : PassesOwn (model X.prog X.w) X.A X.env X.xe) (hc : X.calm = true) (hi : Si call X iter it) (hg : St1 X tgx g) (hb : Ssx call X body b) : Ss call X (.For tgx iter body [] pos) (.fors g it b) := by
  intro G0 H0 c0
  refine PS.cq (ps_for hp hc (hi.pi tgx false) hg.pg (hb G0 H0 c0) (setI_ok hi.fs _)) fun F σ H hq => ?_
  obtain ⟨G, cs, s, ρ, out, s', k, m, q⟩ := hq
  obtain ⟨items, s1, m1, m⟩ := M.bind_some m
  refine ⟨G, cs, s, ρ, items, s1, k.ok, k.en, m1, fun G1 H1 c1 J go1 ok1 wd => ?_⟩
  refine ⟨fun i j σ H => j = items.length - i ∧ i ≤ items.length ∧ ∃ G' c' s2 ρ2, Ext G1 c1 G' c' ∧ Sk X.K G0 H0 c0 G' H c' s2 ρ2 σ ∧ forM (fun d ρ => M.bind (M.of (bind g d ρ)) fun ρ' => exs call b ρ') (items.drop i) ρ2 s2 = some (out, s'), ?_, ?_⟩
  · exact ⟨items.length, by simp, Nat.zero_le _, G1, c1, s1, ρ, .refl, k.step go1 ok1, by simpa using m⟩
  · rintro i j σ2 H2 ⟨rfl, hile, G2, c2, s2, ρ2, e2, k2, m2⟩
    have sm : Same G1 H2 := e2.g.trans k2.ok.sub
    by_cases hlt : i < items.length
    · refine .inr ⟨wd.go i H2 hlt sm, ?_⟩
      refine ⟨fun σ H => i + 1 ≤ items.length ∧ ∃ G' c' s2 ρ2, Ext G1 c1 G' c' ∧ Sk X.K G0 H0 c0 G' H c' s2 ρ2 σ ∧ forM (fun d ρ => M.bind (M.of (bind g d ρ)) fun ρ' => exs call b ρ') (items.drop (i + 1)) ρ2 s2 = some (out, s'), fun σ' H' h => ⟨items.length - (i + 1), by omega, rfl, h⟩, fun v Hy y => ?_⟩
      obtain ⟨dv, hdv, hyv⟩ := wd.yld i H2 v Hy hlt sm y
      have item : ∃ Gy, Go G2 H2 c2 Gy Hy c2 ∧ StOk X.K Gy Hy c2 s2 ∧ Rep X.K Gy c2 dv v := by
        rcases hyv with ⟨rfl, rv⟩ | ⟨T, ys, ds, rfl, hT, rfl, rfl, rv⟩
        · exact ⟨G2, .refl, k2.ok, rv.mono e2.g e2.c⟩
        · obtain ⟨gn, on⟩ := go_new (o := .tup ys) k2.ok hT
          exact ⟨_, gn, on, .tup (.inl (.inl upd_same)) ((rv.mono e2.g e2.c).mono gn.g gn.c)⟩
      obtain ⟨Gy, goy, oky, rv⟩ := item
      have ky := k2.step goy oky
      have hdrop : items.drop i = dv :: items.drop (i + 1) := by
        rw [List.drop_eq_getElem_cons hlt]
        congr 1
        exact Option.some.inj ((List.getElem?_eq_getElem hlt).symm.trans hdv)
      rw [hdrop] at m2
      obtain ⟨o1, s3, m3, m4⟩ := M.bind_some (show M.bind _ _ s2 = _ from m2)
      obtain ⟨ρ', s4, m5, m6⟩ := M.bind_some m3
      obtain ⟨e5, rfl⟩ := M.of_some m5
      refine ⟨Gy, c2, s2, ρ2, dv, ρ', oky, ky.en, rv, e5, fun σ' en' w o => ?_⟩
      have k4 : Sk X.K G0 H0 c0 Gy Hy c2 s2 ρ' σ' := ⟨ky.ok, en', ky.go, ky.ok0, fun l sl a h1 h2 h3 => by
        obtain ⟨h4, h5⟩ := o l sl h1 h2
        exact ky.own l sl a h4 h2 (h5 ▸ h3)⟩
      refine ⟨Gy, c2, s2, ρ', o1, s3, k4, m6, ?_⟩
      cases o1 with
      | nx ρ3 => exact fun G5 H5 c5 σ5 e5 k5 => ⟨hlt, G5, c5, s3, ρ3, (e2.trans goy.ext).trans e5, k5, m4⟩
      | ct ρ3 => exact fun G5 H5 c5 σ5 e5 k5 => ⟨hlt, G5, c5, s3, ρ3, (e2.trans goy.ext).trans e5, k5, m4⟩
      | bk ρ3 =>
        obtain ⟨rfl, rfl⟩ := M.pure_some m4
        exact fun G5 H5 c5 σ5 e5 k5 => q G5 H5 c5 σ5 (((go1.ext.trans e2).trans goy.ext).trans e5) k5
      | ret d =>
        obtain ⟨rfl, rfl⟩ := M.pure_some m4
        exact q
    · obtain rfl : i = items.length := by omega
      rw [List.drop_length] at m2
      obtain ⟨rfl, rfl⟩ := M.pure_some m2
      exact .inl ⟨wd.stop H2 sm, q G2 H2 c2 σ2 (go1.ext.trans e2) k2⟩
/-! ### while -/
theorem ss_while {c : Expr} {body : List Stmt} {x : E} {b : Cs} {pos : Pos} (hp : PassesOwn (model X.prog X.w) X.A X.env X.xe) (hc : Sd call X c x) (hb : Ssx call X body b) : Ss call X (.While c body [] pos) (.whl x b) := by
  intro G0 H0 c0
  refine PS.cq (ps_while hp hc.pt (hb G0 H0 c0)) fun F σ H hq => ?_
  obtain ⟨G, cs, s, ρ, out, s', k, m, q⟩ := hq
  refine ⟨fun n σ H => ∃ G' c' s2 ρ2, Ext G cs G' c' ∧ Sk X.K G0 H0 c0 G' H c' s2 ρ2 σ ∧ whileM (evT call x) (fun ρ => exs call b ρ) n ρ2 s2 = some (out, s'), ⟨1000000, G, cs, s, ρ, .refl, k, m⟩, ?_⟩
  rintro n σ2 H2 ⟨G2, c2, s2, ρ2, e2, k2, m2⟩
  cases n with
  | zero => cases m2
  | succ n =>
    obtain ⟨t, s3, m3, m4⟩ := M.bind_some (show M.bind _ _ s2 = _ from m2)
    refine ⟨G2, c2, s2, ρ2, t, s3, k2.ok, k2.en, m3, fun G3 H3 c3 go3 ok3 => ?_⟩
    have k3 := k2.step go3 ok3
    cases t with
    | false =>
      simp only [Bool.false_eq_true, if_false] at m4 ⊢
      obtain ⟨rfl, rfl⟩ := M.pure_some m4
      exact q G3 H3 c3 σ2 (e2.trans go3.ext) k3
    | true =>
      simp only [if_true] at m4 ⊢
      obtain ⟨o1, s5, m5, m6⟩ := M.bind_some m4
      refine ⟨fun σ' H' => ∃ G' c' s2 ρ2, Ext G cs G' c' ∧ Sk X.K G0 H0 c0 G' H' c' s2 ρ2 σ' ∧ whileM (evT call x) (fun ρ => exs call b ρ) n ρ2 s2 = some (out, s'), fun σ' H' h => ⟨n, Nat.lt_succ_self _, h⟩, G3, c3, s3, ρ2, o1, s5, k3, m5, ?_⟩
      cases o1 with
      | nx ρ3 => exact fun G5 H5 c5 σ5 e5 k5 => ⟨G5, c5, s5, ρ3, (e2.trans go3.ext).trans e5, k5, m6⟩
      | ct ρ3 => exact fun G5 H5 c5 σ5 e5 k5 => ⟨G5, c5, s5, ρ3, (e2.trans go3.ext).trans e5, k5, m6⟩
      | bk ρ3 =>
        obtain ⟨rfl, rfl⟩ := M.pure_some m6
        exact fun G5 H5 c5 σ5 e5 k5 => q G5 H5 c5 σ5 ((e2.trans go3.ext).trans e5) k5
      | ret d =>
        obtain ⟨rfl, rfl⟩ := M.pure_some m6
        exact q
end
end PV
set_option Elab.async false
set_option linter.all false
set_option autoImplicit false
set_option maxRecDepth 100000
set_option maxHeartbeats 4000000
namespace PV
open PySem PySem.Spec L2
open PyProof.Rows hiding St
/-! ### what the compiler makes of an assignment -/
def swB (sc : Scope) (y : Str) (py pos : Pos) (scope : Scope) : Bool := (sc.names.lookup y == some .local && py.line == pos.line) && !(scope.names.any fun (n, k) => n == y && (k == .local || k == .cell))
theorem bk_fn {env : PySem.Env} (hk : env.scope.kind = .function) : env.blockKind = .function := by unfold Env.blockKind; rw [hk]; rfl
theorem sw_lc {elt : Expr} {gs : List Comprehension} {scope : Scope} {pos py : Pos} {y : Str} {l : Nat} {env : PySem.Env} (hk : env.scope.kind = .function) : swapsWith (.ListComp elt gs scope pos) (some (.Name y py)) l env = pure (swB env.scope y py pos scope) := by
  have hb := bk_fn hk
  unfold swapsWith swB Env.kindOf
  simp only [hb, Expr.pos]
  rfl
theorem sw_dc {ke ve : Expr} {gs : List Comprehension} {scope : Scope} {pos py : Pos} {y : Str} {l : Nat} {env : PySem.Env} (hk : env.scope.kind = .function) : swapsWith (.DictComp ke ve gs scope pos) (some (.Name y py)) l env = pure (swB env.scope y py pos scope) := by
  have hb := bk_fn hk
  unfold swapsWith swB Env.kindOf
  simp only [hb, Expr.pos]
  rfl
theorem swB_loc {sc : Scope} {y : Str} {py pos : Pos} {scope : Scope} (h : swB sc y py pos scope = true) : sc.names.lookup y = some .local := by
  unfold swB at h
  simp only [Bool.and_eq_true] at h
  simpa using h.1.1
def swN (sc : Scope) (targets : List Expr) (value : Expr) : Option (Option (List Str)) :=
  match targets, value with
  | [.Tuple ts _ _], .Tuple vs _ _ =>
    if (!(ts.length == 2 || ts.length == 3) || vs.length != ts.length || ScopeKind.function != .function) then some none else
    if (vs.any fun | .Starred .. => true | _ => false) then some none else
    let line := (ts.head?.map (·.pos.line)).getD 0
    let names := ts.filterMap fun
      | .Name id pos => if sc.names.lookup id == some .local && pos.line == line then some id else none
      | _ => none
    if names.length != ts.length || names.eraseDups.length != names.length then some none else
    if vs.all (foldedForSure 8) then some none else
    if vs.all (constantsAlone 8) then none else some (some names)
  | [.Tuple _ _ _], _ => some none
  | _, _ => none
theorem swN_ok {env : PySem.Env} {ts : List Expr} {v : Expr} {r : Option (List Str)} (hk : env.scope.kind = .function) (h : swN env.scope ts v = some r) : swappedStores ts v env = pure r := by
  have hb := bk_fn hk
  unfold swN at h
  split at h
  · rename_i ts k p vs k2 p2
    unfold swappedStores
    simp only [hb]
    unfold Env.kindOf
    split at h
    · rename_i c; cases h; rw [if_pos c]
    · rename_i c
      rw [if_neg c]
      split at h
      · rename_i c2; cases h; exact if_pos c2
      · rename_i c2
        refine (if_neg c2).trans ?_
        simp only at h ⊢
        split at h
        · rename_i c3; cases h; exact if_pos c3
        · rename_i c3
          refine (if_neg c3).trans ?_
          split at h
          · rename_i c4; cases h; exact if_pos c4
          · rename_i c4
            refine (if_neg c4).trans ?_
            split at h
            · cases h
            · rename_i c5; cases h; exact (if_neg c5).trans rfl
  · rename_i ts k p hv
    cases h
    cases v with
    | Tuple vs k2 p2 => exact absurd rfl (hv vs k2 p2)
    | _ => rfl
  · cases h
theorem swSole_tup {ts : List Expr} {k : Nat} {p : Pos} {e : Expr} {l : Nat} {env : PySem.Env} : swapsWithSole [.Tuple ts k p] e l env = pure false := by
  cases e <;> rfl
/-! ### comprehensions, dict() -/
section
variable {p : Pr} {N : List Str} {call : Nat → List D → M D} {lv : Nat}
/-- a list comprehension's parts -/
structure LcOk (call : Nat → List D → M D) (X : Cx) (elt tgx iter : Expr) (ifs : List Expr) (scope : Scope) (own : List Nat) (g : Tg) (it : It) (ts : Es) (x : E) : Prop where
  cm : X.calm = true
  nd : X.N.Nodup
  bk : BlkOk X.N X.env.scope scope (own.map fun (i : Nat) => ((X.N[i]?).getD ("" : Str), i))
  ow : tgOwn own g = true
  hi : Si call X iter it
  hg : ∀ (s : Shared) (H : Hp) (C : Addr) (cl : List (Str × Addr)) (fp : List Addr), St1 (X.blk s H scope (compEnvC scope cl C X.env) fp) tgx g
  ht : ∀ (s : Shared) (H : Hp) (C : Addr) (cl : List (Str × Addr)) (fp : List Addr), Sc call (X.blk s H scope (compEnvC scope cl C X.env) fp) ifs ts
  he : ∀ (s : Shared) (H : Hp) (C : Addr) (cl : List (Str × Addr)) (fp : List Addr), Sd call (X.blk s H scope (compEnvC scope cl C X.env) fp) elt x
def lcC (p : Pr) (N : List Str) (n : Nat) (sc : Scope) (ast : Expr) (e : E) : Bool := match ast, e with
  | .ListComp elt [⟨tgx, iter, ifs, 0⟩] scope _, .comp own g it ts x => blkC N sc scope (own.map fun i => (N[i]?.getD "", i)) && (tgOwn own g && (chkI p N n sc iter it && (chkT p N n scope tgx g && (chkC p N n (relS scope sc) ifs ts && chkE p N n (relS scope sc) elt x))))
  | _, _ => false
def dcC (p : Pr) (N : List Str) (n : Nat) (sc : Scope) (ast : Expr) (e : E) : Bool := match ast, e with
  | .DictComp ke ve [⟨tgx, iter, ifs, 0⟩] scope _, .dcomp own g it ts x y => blkC N sc scope (own.map fun i => (N[i]?.getD "", i)) && (tgOwn own g && (chkI p N n sc iter it && (chkT p N n scope tgx g && (chkC p N n (relS scope sc) ifs ts && (chkE p N n (relS scope sc) ke x && chkE p N n (relS scope sc) ve y)))))
  | _, _ => false
theorem lc_of {n : Nat} (ih : All p N call lv n) {sc : Scope} {X : Cx} (o : XOk p N call lv sc X) {ast : Expr} {e : E} (h : lcC p N n sc ast e = true) :
    ∃ elt tgx iter ifs scope pos own g it ts x, ast = .ListComp elt [⟨tgx, iter, ifs, 0⟩] scope pos ∧ e = .comp own g it ts x ∧ LcOk call X elt tgx iter ifs scope own g it ts x := by
  unfold lcC at h
  split at h
  · rename_i elt tgx iter ifs scope pos own g it ts x
    obtain ⟨h1, h⟩ := b2 h
    obtain ⟨h2, h⟩ := b2 h
    obtain ⟨h3, h⟩ := b2 h
    obtain ⟨h4, h⟩ := b2 h
    obtain ⟨h5, h6⟩ := b2 h
    exact ⟨elt, tgx, iter, ifs, scope, pos, own, g, it, ts, x, rfl, rfl, o.calm, by rw [o.nN]; exact o.nd, by rw [o.nN, o.sc]; exact blkOk_by h1, h2, ih.fi _ _ _ _ o h3, fun s H C cl fp => ih.ft _ _ _ _ (TOk.blk o s H scope C cl fp) h4, fun s H C cl fp => ih.fc _ _ _ _ (o.blk s H scope C cl fp) h5,
      fun s H C cl fp => ih.fe _ _ _ _ (o.blk s H scope C cl fp) h6⟩
  · cases h
theorem dc_of2 {n : Nat} (ih : All p N call lv n) {sc : Scope} {X : Cx} (o : XOk p N call lv sc X) {ast : Expr} {e : E} (h : dcC p N n sc ast e = true) :
    ∃ ke ve tgx iter ifs scope pos own g it ts x y, ast = .DictComp ke ve [⟨tgx, iter, ifs, 0⟩] scope pos ∧ e = .dcomp own g it ts x y ∧ DcOk call X ke ve tgx iter ifs scope own g it ts x y := by
  unfold dcC at h
  split at h
  · rename_i ke ve tgx iter ifs scope pos own g it ts x y
    exact ⟨ke, ve, tgx, iter, ifs, scope, pos, own, g, it, ts, x, y, rfl, rfl, dc_of ih o h⟩
  · cases h
section
variable {X : Cx} {elt ke ve tgx iter : Expr} {ifs : List Expr} {scope : Scope} {own : List Nat} {g : Tg} {it : It} {ts : Es} {x y : E} {pos : Pos}
theorem LcOk.pe (h : LcOk call X elt tgx iter ifs scope own g it ts x) : PE X (.ListComp elt [⟨tgx, iter, ifs, 0⟩] scope pos) (tLc (tI X.K true (evI call it true)) (tG X.K g) (tT X.K (tests call ts)) (tE call X x false) own) := by
  have := pe_lc (X := X) (pos := pos) (wi := tI X.K true (evI call it true)) (g := tG X.K g) (tt := tT X.K (tests call ts)) (te := tE call X x false) h.cm h.nd (h.hi.pi tgx true) h.bk (fun s H C cl fp => (h.hg s H C cl fp).pg) (fun s H C cl fp => (h.ht s H C cl fp).pt) (fun s H C cl fp => (h.he s H C cl fp).pe false) (setI_ok h.hi.fs _)
  rw [own_map] at this
  exact this
theorem LcOk.core (h : LcOk call X elt tgx iter ifs scope own g it ts x) : ∀ (σ : St) (H : Hp) (Q : VK), tV X.K true (ev call (.comp own g it ts x) false) σ H Q → tLc (tI X.K true (evI call it true)) (tG X.K g) (tT X.K (tests call ts)) (tE call X x false) own σ H Q :=
  sd_comp (pos := ⟨0, 0, 0, 0⟩) h.cm h.nd h.bk h.ow h.hi h.hg h.ht h.he
theorem nl_lc (h : LcOk call X elt tgx iter ifs scope own g it ts x) : PE X (.ListComp elt [⟨tgx, iter, ifs, 0⟩] scope pos) (tV X.K true (ev call (.comp own g it ts x) false)) := PE.cq h.pe h.core
theorem an_lc {i : Nat} {nm : Str} {px spos : Pos} (h : LcOk call X elt tgx iter ifs scope own g it ts x) (hk : X.env.scope.kind = .function) (hi : X.N[i]? = some nm) (hx : Loc X.env.scope nm) (hf : X.fn nm = true ∨ X.env.scope.names.lookup nm = some .local) :
    PS X (.Assign [.Name nm px] (.ListComp elt [⟨tgx, iter, ifs, 0⟩] scope pos) spos) (tAsg (tV X.K true (ev call (.comp own g it ts x) false)) (gName i)) := by
  have sw := sw_lc (elt := elt) (gs := [⟨tgx, iter, ifs, 0⟩]) (scope := scope) (pos := pos) (py := px) (y := nm) (l := spos.line) hk
  cases hb : swB X.env.scope nm px pos scope with
  | false =>
    rw [hb] at sw
    exact ps_set h.nd hi hx (nl_lc h) sw hf
  | true =>
    rw [hb] at sw
    have q := ps_setLc (X := X) (i := i) (wi := tI X.K true (evI call it true)) (g := tG X.K g) (tt := tT X.K (tests call ts)) (te := tE call X x false) h.cm h.nd hi (swB_loc hb) sw (h.hi.pi tgx true) h.bk (fun s H C cl fp => (h.hg s H C cl fp).pg) (fun s H C cl fp => (h.ht s H C cl fp).pt) (fun s H C cl fp => (h.he s H C cl fp).pe false) (setI_ok h.hi.fs _)
    rw [own_map] at q
    exact PS.cq q fun D σ H hq => h.core σ H _ hq
theorem an_lcF {i : Nat} {nm : Str} {px spos : Pos} (h : LcOk call X elt tgx iter ifs scope own g it ts x) (hk : X.env.scope.kind = .function) (hi : X.N[i]? = some nm) (hx : Loc X.env.scope nm) (hf : X.fn nm = true ∨ X.env.scope.names.lookup nm = some .local) :
    PS X (.Assign [.Name nm px] (.ListComp elt [⟨tgx, iter, ifs, 0⟩] scope pos) spos) (tAsg (tV X.K false (ev call (.comp own g it ts x) false)) (gName i)) := PS.cq (an_lc h hk hi hx hf) fun D σ H hq => by
  obtain ⟨G, cs, s, ρ, d, s', ok, en, m, _, k⟩ := hq
  have hd : ∃ ds, d = .lst ds := by
    obtain ⟨items, s1, m1, m2⟩ := M.bind_some m
    obtain ⟨r, s2, m3, m4⟩ := M.bind_some m2
    split at m4
    · exact ⟨_, (M.pure_some m4).1.symm⟩
    · cases m4
  obtain ⟨ds, rfl⟩ := hd
  have k : Res X.K G H cs s' (.lst ds) _ := k
  exact ⟨G, cs, s, ρ, _, s', ok, en, m, fun _ => rfl, k.newL⟩
theorem ps_setDc {i : Nat} {nm : Str} {px : Pos} {own : List (Str × Nat)} {spos : Pos} {wi : TI} {g : TG} {tt : TT} {tk tv : TE} (hc : X.calm = true) (hN : X.N.Nodup) (hy : X.N[i]? = some nm) (hyl : X.env.scope.names.lookup nm = some .local)
    (hsw : swapsWith (.DictComp ke ve [⟨tgx, iter, ifs, 0⟩] scope pos) (some (.Name nm px)) spos.line X.env = pure true) (hi : PI X tgx iter wi) (ok : BlkOk X.N X.env.scope scope own)
    (hg : ∀ (s : Shared) (H : Hp) (C : Addr) (cl : List (Str × Addr)) (fp : List Addr), PG (X.blk s H scope (compEnvC scope cl C X.env) fp) tgx g) (ht : ∀ (s : Shared) (H : Hp) (C : Addr) (cl : List (Str × Addr)) (fp : List Addr), PTs (X.blk s H scope (compEnvC scope cl C X.env) fp) ifs tt)
    (hk : ∀ (s : Shared) (H : Hp) (C : Addr) (cl : List (Str × Addr)) (fp : List Addr), PE (X.blk s H scope (compEnvC scope cl C X.env) fp) ke tk)
    (he : ∀ (s : Shared) (H : Hp) (C : Addr) (cl : List (Str × Addr)) (fp : List Addr), PE (X.blk s H scope (compEnvC scope cl C X.env) fp) ve tv) (hs : ∀ x, foldedSetIterable iter X.env x = pure x) :
    PS X (.Assign [.Name nm px] (.DictComp ke ve [⟨tgx, iter, ifs, 0⟩] scope pos) spos) (tAsg (tDc wi g tt tk tv (own.map (·.2))) (gName i)) := by
  refine ⟨fun pins s σ H D I h => ?_⟩
  rw [exec_Assign_Name_used _ _ _ _ hsw]
  refine wpAny_bind (wpAny_standAt (wpAny_bind ?_))
  show wpAny _ X.A (do let _ ← comprehension (.DictComp ke ve [⟨tgx, iter, ifs, 0⟩] scope pos) scope X.env (firstIterPos [⟨tgx, iter, ifs, 0⟩] pos) newDict false (eval iter X.env) (some (assign (.Name nm px) X.env))) _ _ s
  have h : tDc wi g tt tk tv (own.map (·.2)) σ H (fun x H1 => gName i x σ H1 D.nx) := h
  refine wpAny_bind (thn (dc_core (Qf := fun _ s' => SP X pins D .next s') hc hN I hi ok hg ht hk he hs h fun L C s' m H' I' q hn f => ?_) fun _ s' hq => wpAny_pure (wpAny_pure hq))
  show wpAny _ _ (assign (.Name nm px) X.env (.ref L)) _ _ _
  refine wpAny_assign_Name (store_ok2 (v := V.ref L) I' hN hy (.inl hyl) rfl (fun s2 I2 ⟨a, sb, ha⟩ => ?_) (.inr hyl))
  obtain ⟨f0, f1, f2, f3, f4, f5⟩ := f
  have haC : C ≠ a := by
    rcases ha with z | z
    · rw [z]; exact f1
    · exact fun e => f4 nm a z e.symm
  refine ⟨m, hn.sameBut sb haC, fun h3 sb3 => ?_⟩
  exact ⟨_, H', I2.turned (t' := s2.toks) (fun b o hb e => (sb3.2 b hb).trans e) f0 f1 f3 f4 f5, q⟩
theorem an_dc {i : Nat} {nm : Str} {px spos : Pos} (h : DcOk call X ke ve tgx iter ifs scope own g it ts x y) (hk : X.env.scope.kind = .function) (hi : X.N[i]? = some nm) (hx : Loc X.env.scope nm) (hf : X.fn nm = true ∨ X.env.scope.names.lookup nm = some .local) :
    PS X (.Assign [.Name nm px] (.DictComp ke ve [⟨tgx, iter, ifs, 0⟩] scope pos) spos) (tAsg (tV X.K true (ev call (.dcomp own g it ts x y) false)) (gName i)) := by
  have sw := sw_dc (ke := ke) (ve := ve) (gs := [⟨tgx, iter, ifs, 0⟩]) (scope := scope) (pos := pos) (py := px) (y := nm) (l := spos.line) hk
  cases hb : swB X.env.scope nm px pos scope with
  | false =>
    rw [hb] at sw
    exact ps_set h.nd hi hx (nl_dcomp h) sw hf
  | true =>
    rw [hb] at sw
    have q := ps_setDc (X := X) (i := i) (wi := tI X.K true (evI call it true)) (g := tG X.K g) (tt := tT X.K (tests call ts)) (tk := tE call X x false) (tv := tE call X y false) h.cm h.nd hi (swB_loc hb) sw (h.hi.pi tgx true) h.bk (fun s H C cl fp => (h.hg s H C cl fp).pg) (fun s H C cl fp => (h.ht s H C cl fp).pt) (fun s H C cl fp => (h.hk s H C cl fp).pe false) (fun s H C cl fp => (h.hv s H C cl fp).pe false) (setI_ok h.hi.fs _)
    rw [own_map] at q
    exact PS.cq q fun D σ H hq => sd_dcore (kx := ke) (vx := ve) (iter := iter) (tgx := tgx) (ifs := ifs) h.nd h.bk h.ow σ H _ hq
/-- dict(x) -/
theorem nl_dict {nm : Str} {a : Expr} {e : E} {pc pos : Pos} (hcm : X.calm = true) (hf : ∀ x ∈ bltNames, X.mg x = none) (hx : nm = ("dict" : Str)) (hg : Gl X nm) (hn : noStar a = true) (h : Sd call X a e) :
    PE X (.Call (.Name nm pc) [a] [] pos) (tV X.K true (ev call (.blt .dict (.cons e .nil)) false)) := by
  subst hx
  have cr : CallR X (.type "dict") (fun xs H Q => (∃ (a : Addr) (ps : List Addr) (kvs : List (Key × V)), xs = [.ref a] ∧ SqL X.K H a (ps.map V.ref) ∧ Paired (fun p kv => SqT X.K H p [kV kv.1, kv.2]) ps kvs ∧ ∀ p, H p = none → Q (.ref p) (upd H p (.dK (mergeK [] kvs)))) ∨
      (∃ (a : Addr) (kvs : List (Key × V)), xs = [.ref a] ∧ Rd H a (.dK kvs) ∧ ∀ p, H p = none → Q (.ref p) (upd H p (.dK kvs)))) := by
    intro pins s σ H xs us Q I r q
    rcases q with q | q
    · exact call_dictP hcm pins s σ H xs us Q I r q
    · exact call_dictD pins s σ H xs us Q I r q
  refine PE.cq (pe_callTy cr hg (hf _ (by decide +kernel)) (by decide +kernel) (pa_cons (h.pe true) pa_nil (star_ok hn)) (by decide +kernel) (by decide +kernel) (star_ok hn) (anyStar rfl)) fun σ H Q hq => ?_
  obtain ⟨G, cs, s, ρ, d, s', ok, en, m, _, k⟩ := hq
  obtain ⟨xs, s1, m1, m⟩ := M.bind_some m
  obtain ⟨e2, rfl⟩ := M.of_some m
  obtain ⟨x1, s2, m2, m1⟩ := M.bind_some m1
  obtain ⟨x2, s3, m3, m1⟩ := M.bind_some m1
  obtain ⟨rfl, rfl⟩ := M.pure_some m3
  obtain ⟨rfl, rfl⟩ := M.pure_some m1
  have k : NewL X.K G H cs _ d Q := k
  refine ⟨G, cs, s, ρ, x1, _, ok, en, m2, fun G1 H1 c1 v go1 ok1 r1 => ?_⟩
  cases x1 with
  | lst ds =>
    obtain ⟨ps, hb, rfl⟩ := Option.map_eq_some_iff.mp (show (prL ds).map (fun ps => D.dct (dputs ps ([], [])).1 (dputs ps ([], [])).2) = some d from e2)
    obtain ⟨a, xs, rfl, hH, ra⟩ := r1.B.lst ok1
    obtain ⟨as, kvs, rfl, hp, rp⟩ := prL_ok ok1 hb ra
    obtain ⟨d1, d2⟩ := dputs_ok (acc := []) (vs := []) .nil rp
    have d1 : (dputs ps ([], [])).1 = (mergeK [] kvs).map fun p => kD p.1 := d1
    rw [d1] at k
    exact .inl ⟨a, as, kvs, rfl, .inl (.inl hH), hp, fun p hp => k.atD go1 ok1 hp d2⟩
  | dct ks vs =>
    cases (show some (D.dct ks vs) = some d from e2)
    obtain ⟨a, kvs, rfl, hH, rfl, ra⟩ := r1.B.dct ok1
    exact .inr ⟨a, kvs, rfl, hH, fun p hp => k.atD go1 ok1 hp ra⟩
  | _ => cases (show (none : Option D) = some d from e2)
end
end
end PV
set_option Elab.async false
set_option linter.all false
set_option autoImplicit false
set_option maxRecDepth 100000
set_option maxHeartbeats 4000000
namespace PV
open PySem PySem.Spec L2
open PyProof.Rows hiding St
section
variable (p : Pr) (N : List Str)
/-- an expression that makes a new list or dict -/
def newC (n : Nat) (sc : Scope) (ast : Expr) (y : E) : Bool := match ast, y with
  | .List as _, .lst es => chkEs p N n sc as es
  | .Call (.Name x _) [a] [] _, .blt .list (.cons e .nil) => decide (x = ("list" : Str)) && (gim sc x && (noStar a && chkE p N n sc a e))
  | .Call (.Name x _) [a] [] _, .blt .dict (.cons e .nil) => decide (x = ("dict" : Str)) && (gim sc x && (noStar a && chkE p N n sc a e))
  | .BinOp a o c _, .bin op x y => decide (o = opA op) && (chkE p N n sc a x && chkE p N n sc c y)
  | .Dict ks vs _, .dct ps => decide (ks.length ≤ 15) && chkPs p N n sc ks vs ps
  | _, _ => false
/-- the value of a name, kept or to be changed -/
def valC (n : Nat) (sc : Scope) (o : Bool) (ast : Expr) (y : E) : Bool :=
  if o then (newC p N n sc ast y || (lcC p N n sc ast y || dcC p N n sc ast y)) else chkE p N n sc ast y
def isTupE : Expr → Bool
  | .Tuple .. => true
  | _ => false
mutual
def chkS : Nat → Scope → Stmt → C → Bool
  | 0, _, _, _ => false
  | n + 1, sc, st, c => match c with
    | .never => true
    | .frz _ c => chkS n sc st c
    | .set i y => (match st with
      | .Assign [.Name x _] e _ => decide (N[i]? = some x) && (loc sc x && ((noComp e && chkE p N n sc e y) || lcC p N n sc e y))
      | _ => false)
    | .own i y => (match st with
      | .Assign [.Name x _] e _ => decide (N[i]? = some x) && (loc sc x && ((noComp e && newC p N n sc e y) || (lcC p N n sc e y || dcC p N n sc e y)))
      | _ => false)
    | .cell i y => (match st with
      | .Assign [.Name x _] e _ => decide (N[i]? = some x) && (loc sc x && ((noComp e && newC p N n sc e y) || (lcC p N n sc e y || dcC p N n sc e y)))
      | _ => false)
    | .unpack t y => (match st with
      | .Assign [tg] e _ => isTupE tg && (chkT p N n sc tg t && (chkE p N n sc e y && decide (swN sc [tg] e = some none)))
      | _ => false)
    | .par2 i j oa ob a b => (match st with
      | .Assign [.Tuple [.Name x px, .Name y py] kt pt] (.Tuple [u, v] k2 pt2) _ => decide (N[i]? = some x) && (decide (N[j]? = some y) && (decide (i ≠ j) && (decide (sc.names.lookup x = some .local) && (decide (sc.names.lookup y = some .local) &&
          (decide (swN sc [.Tuple [.Name x px, .Name y py] kt pt] (.Tuple [u, v] k2 pt2) = some (some [x, y])) && (noStar u && (noStar v && (valC p N n sc oa u a && valC p N n sc ob v b))))))))
      | _ => false)
    | .par3 i j l oa ob oc a b c => (match st with
      | .Assign [.Tuple [.Name x px, .Name y py, .Name z pz] kt pt] (.Tuple [u, v, w] k2 pt2) _ => decide (N[i]? = some x) && (decide (N[j]? = some y) && (decide (N[l]? = some z) && (decide (i ≠ j ∧ i ≠ l ∧ j ≠ l) && (decide (sc.names.lookup x = some .local) && (decide (sc.names.lookup y = some .local) && (decide (sc.names.lookup z = some .local) &&
          (decide (swN sc [.Tuple [.Name x px, .Name y py, .Name z pz] kt pt] (.Tuple [u, v, w] k2 pt2) = some (some [x, y, z])) && (noStar u && (noStar v && (noStar w && (valC p N n sc oa u a && (valC p N n sc ob v b && valC p N n sc oc w c))))))))))))
      | _ => false)
    | .ext i y => (match st with
      | .AugAssign (.Name x _) .Add e _ => decide (N[i]? = some x) && (loc sc x && chkE p N n sc e y)
      | _ => false)
    | .aug i op y => (match st with
      | .AugAssign (.Name x _) o e _ => decide (o = opA op) && (decide (op ≠ .pow) && (decide (N[i]? = some x) && (loc sc x && chkE p N n sc e y)))
      | _ => false)
    | .app i y => (match st with
      | .Expr (.Call (.Attribute (.Name x _) nm pa) [e] [] pc) _ => decide (N[i]? = some x) && (vis sc x && (okName x && (noStar e && (decide (nm = ("append" : Str)) && (pa.endLine == pc.line && chkE p N n sc e y)))))
      | _ => false)
    | .put i k y => (match st with
      | .Assign [.Subscript (.Name x _) ke _] e _ => decide (N[i]? = some x) && (vis sc x && (okName x && (noSlice ke && (chkE p N n sc ke k && chkE p N n sc e y))))
      | _ => false)
    | .cput o k y => (match st with
      | .Assign [.Subscript oe ke _] e _ => noSlice ke && (chkE p N n sc oe o && (chkE p N n sc ke k && chkE p N n sc e y))
      | _ => false)
    | .drop y => (match st with
      | .Expr e _ => noComp e && chkE p N n sc e y
      | _ => false)
    | .ret y => (match st with
      | .Return (some e) _ => chkE p N n sc e y
      | _ => false)
    | .retn => (match st with
      | .Return none _ => true
      | _ => false)
    | .ifs t a b => (match st with
      | .If te as bs _ => chkE p N n sc te t && (chkSs n sc as a && chkSs n sc bs b)
      | _ => false)
    | .fors g it b => (match st with
      | .For tg iter body [] _ => chkI p N n sc iter it && (chkT p N n sc tg g && chkSs n sc body b)
      | _ => false)
    | .whl t b => (match st with
      | .While te body [] _ => chkE p N n sc te t && chkSs n sc body b
      | _ => false)
    | .brk => (match st with
      | .Break _ => true
      | _ => false)
    | .cont => (match st with
      | .Continue _ => true
      | _ => false)
    | .pass => (match st with
      | .Pass _ => true
      | _ => false)
def chkSs : Nat → Scope → List Stmt → Cs → Bool
  | 0, _, _, _ => false
  | n + 1, sc, sts, cs => match sts, cs with
    | [], .nil => true
    | st :: sts, .cons c cs => chkS n sc st c && chkSs n sc sts cs
    | _, _ => false
end
end
section
variable {p : Pr} {N : List Str} {call : Nat → List D → M D} {lv : Nat}
theorem nl_new {n : Nat} (ih : All p N call lv n) {sc : Scope} {X : Cx} (o : XOk p N call lv sc X) {ast : Expr} {y : E} (h : newC p N n sc ast y = true) : PE X ast (tV X.K true (ev call y false)) := by
  have gl : ∀ {x : Str}, gim sc x = true → Gl X x := fun {x} h => by show X.env.scope.names.lookup x = _; rw [o.sc]; exact dt h
  unfold newC at h
  split at h
  · exact nl_lst (ih.fes _ _ _ _ o h)
  · obtain ⟨h1, h⟩ := b2 h
    obtain ⟨h2, h⟩ := b2 h
    obtain ⟨h3, h4⟩ := b2 h
    exact nl_list o.free (dt h1) (gl h2) h3 (ih.fe _ _ _ _ o h4)
  · obtain ⟨h1, h⟩ := b2 h
    obtain ⟨h2, h⟩ := b2 h
    obtain ⟨h3, h4⟩ := b2 h
    exact nl_dict o.calm o.free (dt h1) (gl h2) h3 (ih.fe _ _ _ _ o h4)
  · obtain ⟨h1, h⟩ := b2 h
    obtain ⟨h2, h3⟩ := b2 h
    rw [dt h1]
    exact nl_bin (ih.fe _ _ _ _ o h2) (ih.fe _ _ _ _ o h3)
  · obtain ⟨h1, h2⟩ := b2 h
    exact nl_dct (ih.fps _ _ _ _ _ o h2) (dt h1)
  · cases h
theorem nl_val {n : Nat} (ih : All p N call lv n) {sc : Scope} {X : Cx} (o : XOk p N call lv sc X) {b : Bool} {ast : Expr} {y : E} (h : valC p N n sc b ast y = true) : PE X ast (tV X.K b (ev call y false)) := by
  unfold valC at h
  cases b with
  | false => exact pv_of (ih.fe _ _ _ _ o h)
  | true =>
    rcases Bool.or_eq_true_iff.mp h with h | h
    · exact nl_new ih o h
    rcases Bool.or_eq_true_iff.mp h with h | h
    · obtain ⟨elt, tgx, iter, ifs, scope, pos, own, g, it, ts, x, rfl, rfl, hc⟩ := lc_of ih o h
      exact nl_lc hc
    · obtain ⟨ke, ve, tgx, iter, ifs, scope, pos, own, g, it, ts, x, y, rfl, rfl, hc⟩ := dc_of2 ih o h
      exact nl_dcomp hc
/-- a def's own block -/
structure BOk (p : Pr) (N : List Str) (call : Nat → List D → M D) (lv : Nat) (sc : Scope) (X : Cx) : Prop where
  x : XOk p N call lv sc X
  t : TOk N sc X
  k : sc.kind = .function
  po : PassesOwn (model X.prog X.w) X.A X.env X.xe
theorem an_new {n : Nat} (ih : All p N call lv n) {sc : Scope} {X : Cx} (o : BOk p N call lv sc X) {i : Nat} {nm : Str} {px pos : Pos} {ast : Expr} {y : E} (hi : N[i]? = some nm) (hl : loc sc nm = true)
    (h : ((noComp ast && newC p N n sc ast y) || (lcC p N n sc ast y || dcC p N n sc ast y)) = true) : PS X (.Assign [.Name nm px] ast pos) (tAsg (tV X.K true (ev call y false)) (gName i)) := by
  obtain ⟨l1, l2⟩ := o.t.tk nm hl
  have hN : X.N[i]? = some nm := by rw [o.x.nN]; exact hi
  have nd : X.N.Nodup := by rw [o.x.nN]; exact o.x.nd
  have hk : X.env.scope.kind = .function := by rw [o.x.sc]; exact o.k
  rcases Bool.or_eq_true_iff.mp h with h | h
  · obtain ⟨h1, h2⟩ := b2 h
    exact ps_set nd hN l1 (nl_new ih o.x h2) (swap_no h1) l2
  rcases Bool.or_eq_true_iff.mp h with h | h
  · obtain ⟨elt, tgx, iter, ifs, scope, pos, own, g, it, ts, x, rfl, rfl, hc⟩ := lc_of ih o.x h
    exact an_lc hc hk hN l1 l2
  · obtain ⟨ke, ve, tgx, iter, ifs, scope, pos, own, g, it, ts, x, y, rfl, rfl, hc⟩ := dc_of2 ih o.x h
    exact an_dc hc hk hN l1 l2
structure AllS (p : Pr) (N : List Str) (call : Nat → List D → M D) (lv n : Nat) : Prop where
  s : ∀ sc st c X, BOk p N call lv sc X → chkS p N n sc st c = true → Ss call X st c
  ss : ∀ sc st c X, BOk p N call lv sc X → chkSs p N n sc st c = true → Ssx call X st c
theorem sall_snd (hlen : ∀ i q, p.fns[i]? = some q → ∀ ds s r, call i ds s = some r → ds.length = q.2) : ∀ n, AllS p N call lv n
  | 0 => ⟨fun _ _ _ _ _ h => by simp [chkS] at h, fun _ _ _ _ _ h => by simp [chkSs] at h⟩
  | n + 1 => by
    have ih := sall_snd hlen n
    have ie := all_snd (N := N) (lv := lv) hlen n
    refine ⟨fun sc st c X o h => ?_, fun sc st c X o h => ?_⟩
    · have nd : X.N.Nodup := by rw [o.x.nN]; exact o.x.nd
      have hk : X.env.scope.kind = .function := by rw [o.x.sc]; exact o.k
      have hN : ∀ {i : Nat} {x : Str}, N[i]? = some x → X.N[i]? = some x := fun h => by rw [o.x.nN]; exact h
      have hv : ∀ {x : Str}, vis sc x = true → Vis X.env.scope x := fun h => by rw [o.x.sc]; exact vis_ok h
      have hL : ∀ {x : Str}, decide (sc.names.lookup x = some .local) = true → X.env.scope.names.lookup x = some .local := fun h => by rw [o.x.sc]; exact dt h
      have hsw : ∀ {ts : List Expr} {v : Expr} {r : Option (List Str)}, decide (swN sc ts v = some r) = true → swappedStores ts v X.env = pure r := fun h => swN_ok hk (by rw [o.x.sc]; exact dt h)
      cases c with
      | never => exact ss_never
      | frz i c => exact ss_frz (ih.s _ _ _ _ o (by simpa [chkS] using h))
      | set i y =>
        simp only [chkS] at h
        split at h
        · obtain ⟨h1, h⟩ := b2 h
          obtain ⟨h2, h⟩ := b2 h
          obtain ⟨l1, l2⟩ := o.t.tk _ h2
          rcases Bool.or_eq_true_iff.mp h with h | h
          · obtain ⟨h3, h4⟩ := b2 h
            exact ss_name (o := false) (ps_set nd (hN (dt h1)) l1 (pv_of (ie.fe _ _ _ _ o.x h4)) (swap_no h3) l2)
          · obtain ⟨elt, tgx, iter, ifs, scope, pos, own, g, it, ts, x, rfl, rfl, hc⟩ := lc_of ie o.x h
            exact ss_name (o := false) (an_lcF hc hk (hN (dt h1)) l1 l2)
        · cases h
      | own i y =>
        simp only [chkS] at h
        split at h
        · obtain ⟨h1, h⟩ := b2 h
          obtain ⟨h2, h⟩ := b2 h
          exact ss_name (o := true) (an_new ie o (dt h1) h2 h)
        · cases h
      | cell i y =>
        simp only [chkS] at h
        split at h
        · obtain ⟨h1, h⟩ := b2 h
          obtain ⟨h2, h⟩ := b2 h
          exact ss_cell (an_new ie o (dt h1) h2 h)
        · cases h
      | unpack t y =>
        simp only [chkS] at h
        split at h
        · rename_i tg e pos
          obtain ⟨h1, h⟩ := b2 h
          obtain ⟨h2, h⟩ := b2 h
          obtain ⟨h3, h4⟩ := b2 h
          cases tg with
          | Tuple es k pt => exact ss_unpack (ie.fe _ _ _ _ o.x h3) (ie.ft _ _ _ _ o.t h2) swSole_tup (hsw h4)
          | _ => cases h1
        · cases h
      | par2 i j oa ob a b =>
        simp only [chkS] at h
        split at h
        · obtain ⟨h1, h⟩ := b2 h
          obtain ⟨h2, h⟩ := b2 h
          obtain ⟨h3, h⟩ := b2 h
          obtain ⟨h4, h⟩ := b2 h
          obtain ⟨h5, h⟩ := b2 h
          obtain ⟨h6, h⟩ := b2 h
          obtain ⟨h7, h⟩ := b2 h
          obtain ⟨h8, h⟩ := b2 h
          obtain ⟨h9, h10⟩ := b2 h
          exact ss_par2 o.x.calm nd (hN (dt h1)) (hN (dt h2)) (dt h3) (hL h4) (hL h5) (hsw h6) h7 h8 (nl_val ie o.x h9) (nl_val ie o.x h10)
        · cases h
      | par3 i j l oa ob oc a b c =>
        simp only [chkS] at h
        split at h
        · obtain ⟨h1, h⟩ := b2 h
          obtain ⟨h2, h⟩ := b2 h
          obtain ⟨h3, h⟩ := b2 h
          obtain ⟨h4, h⟩ := b2 h
          obtain ⟨h5, h⟩ := b2 h
          obtain ⟨h6, h⟩ := b2 h
          obtain ⟨h7, h⟩ := b2 h
          obtain ⟨h8, h⟩ := b2 h
          obtain ⟨h9, h⟩ := b2 h
          obtain ⟨h10, h⟩ := b2 h
          obtain ⟨h11, h⟩ := b2 h
          obtain ⟨h12, h⟩ := b2 h
          obtain ⟨h13, h14⟩ := b2 h
          obtain ⟨n1, n2, n3⟩ := dt h4
          exact ss_par3 o.x.calm nd (hN (dt h1)) (hN (dt h2)) (hN (dt h3)) n1 n2 n3 (hL h5) (hL h6) (hL h7) (hsw h8) h9 h10 h11 (nl_val ie o.x h12) (nl_val ie o.x h13) (nl_val ie o.x h14)
        · cases h
      | ext i y =>
        simp only [chkS] at h
        split at h
        · obtain ⟨h1, h⟩ := b2 h
          obtain ⟨h2, h3⟩ := b2 h
          obtain ⟨l1, l2⟩ := o.t.tk _ h2
          exact ss_ext nd (hN (dt h1)) l1 l2 (ie.fe _ _ _ _ o.x h3)
        · cases h
      | aug i op y =>
        simp only [chkS] at h
        split at h
        · obtain ⟨h0, h⟩ := b2 h
          obtain ⟨h00, h⟩ := b2 h
          obtain ⟨h1, h⟩ := b2 h
          obtain ⟨h2, h3⟩ := b2 h
          obtain ⟨l1, l2⟩ := o.t.tk _ h2
          rw [dt h0]
          exact ss_aug nd (hN (dt h1)) l1 l2 (dt h00) (ie.fe _ _ _ _ o.x h3)
        · cases h
      | app i y =>
        simp only [chkS] at h
        split at h
        · obtain ⟨h1, h⟩ := b2 h
          obtain ⟨h2, h⟩ := b2 h
          obtain ⟨h3, h⟩ := b2 h
          obtain ⟨h4, h⟩ := b2 h
          obtain ⟨h5, h⟩ := b2 h
          obtain ⟨h6, h7⟩ := b2 h
          obtain ⟨n1, n2, _⟩ := okName_ok h3
          exact ss_app (hN (dt h1)) (hv h2) n1 n2 h4 (dt h5) h6 (ie.fe _ _ _ _ o.x h7)
        · cases h
      | put i k y =>
        simp only [chkS] at h
        split at h
        · obtain ⟨h1, h⟩ := b2 h
          obtain ⟨h2, h⟩ := b2 h
          obtain ⟨h3, h⟩ := b2 h
          obtain ⟨h4, h⟩ := b2 h
          obtain ⟨h5, h6⟩ := b2 h
          obtain ⟨n1, n2, _⟩ := okName_ok h3
          exact ss_put o.x.room (hN (dt h1)) (hv h2) n1 n2 h4 (ie.fe _ _ _ _ o.x h5) (ie.fe _ _ _ _ o.x h6)
        · cases h
      | cput ob k y =>
        simp only [chkS] at h
        split at h
        · obtain ⟨h1, h⟩ := b2 h
          obtain ⟨h2, h⟩ := b2 h
          obtain ⟨h3, h4⟩ := b2 h
          exact ss_cput h1 (ie.fe _ _ _ _ o.x h2) (ie.fe _ _ _ _ o.x h3) (ie.fe _ _ _ _ o.x h4)
        · cases h
      | drop y =>
        simp only [chkS] at h
        split at h
        · obtain ⟨h1, h2⟩ := b2 h
          exact ss_drop h1 (ie.fe _ _ _ _ o.x h2)
        · cases h
      | ret y =>
        simp only [chkS] at h
        split at h
        · exact ss_ret (ie.fe _ _ _ _ o.x h)
        · cases h
      | retn =>
        simp only [chkS] at h
        split at h
        · exact ss_retn
        · cases h
      | ifs t a b =>
        simp only [chkS] at h
        split at h
        · obtain ⟨h1, h⟩ := b2 h
          obtain ⟨h2, h3⟩ := b2 h
          exact ss_if (ie.fe _ _ _ _ o.x h1) (ih.ss _ _ _ _ o h2) (ih.ss _ _ _ _ o h3)
        · cases h
      | fors g it b =>
        simp only [chkS] at h
        split at h
        · obtain ⟨h1, h⟩ := b2 h
          obtain ⟨h2, h3⟩ := b2 h
          exact ss_for o.po o.x.calm (ie.fi _ _ _ _ o.x h1) (ie.ft _ _ _ _ o.t h2) (ih.ss _ _ _ _ o h3)
        · cases h
      | whl t b =>
        simp only [chkS] at h
        split at h
        · obtain ⟨h1, h2⟩ := b2 h
          exact ss_while o.po (ie.fe _ _ _ _ o.x h1) (ih.ss _ _ _ _ o h2)
        · cases h
      | brk =>
        simp only [chkS] at h
        split at h
        · exact ss_break
        · cases h
      | cont =>
        simp only [chkS] at h
        split at h
        · exact ss_cont
        · cases h
      | pass =>
        simp only [chkS] at h
        split at h
        · exact ss_pass
        · cases h
    · simp only [chkSs] at h
      split at h
      · exact ssx_nil
      · obtain ⟨h1, h2⟩ := b2 h
        exact ssx_cons (ih.s _ _ _ _ o h1) (ih.ss _ _ _ _ o h2)
      · cases h
end
end PV
set_option Elab.async false
set_option linter.all false
set_option autoImplicit false
set_option maxRecDepth 100000
set_option maxHeartbeats 4000000
namespace PV
open PySem PySem.Spec L2
open PyProof.Rows hiding St
/-- a def of the text and its form -/
structure Fd where
  fn : Fn
  st : Stmt
  ps : List Str
  N : List Str
/-- what the kernel looks at in a def -/
structure FnDat (p : Pr) (d : Fd) : Prop where
  np : d.ps.length = d.fn.np
  ns : d.N.length = d.fn.ns
  sc : FnScope d.N d.ps (defScope d.st)
  bind : ∀ (kV doc pm : Value) (an : Option Addr) (cdv ct : Value) (us : List Value), us.length = d.ps.length → bindArgs (PySem.W.fnOf d.fn.name d.fn.name (defArgs d.st) (defBody d.st) (defScope d.st) .none kV doc pm an cdv ct) ⟨us, []⟩ = pure (d.ps.zip us)
  chk : ∃ n, chkSs p d.N n (defScope d.st) (defBody d.st) d.fn.body = true
section
variable {P : Program} {w : World} {K : PySem.W.Frag} {mg : Str → Option Value} {base : Heap}
/-- a def that stands -/
structure Stands (K : PySem.W.Frag) (mg : Str → Option Value) (d : Fd) : Prop where
  ex : ∃ (f : Addr) (fd : FuncData), mg d.fn.name = some (.ref f) ∧ FunD K d.fn.name d.fn.name (defArgs d.st) (defBody d.st) (defScope d.st) [] [] f fd
/-- the start of a def's block -/
theorem start_ok {G H : Hp} {cs : List Addr} {s : S} {ds : List D} {vs : List V} {N : List Str} (ok : StOk K G H cs s) (ra : RepAll K G cs ds vs) : Sk K G H cs G H cs s (ds.map Slot.val ++ List.replicate (N.length - ds.length) .no) (L2.start N vs) := by
  have hl := ra.length
  have noOwn : ∀ (i : Nat) (sl : Slot), (ds.map Slot.val ++ List.replicate (N.length - ds.length) Slot.no)[i]? = some sl → sl.isOwn = false := fun i sl h => by
    have hm := List.mem_of_getElem? h
    rcases List.mem_append.mp hm with z | z
    · obtain ⟨d, _, rfl⟩ := List.mem_map.mp z; rfl
    · rw [(List.mem_replicate.mp z).2]; rfl
  refine ⟨ok, ⟨by unfold L2.start; simp [hl], fun i sl ov h1 h2 => ?_, fun i j si sj v _ h1 _ o1 => ?_⟩, .refl, ⟨s, ok⟩, fun i sl a h1 h2 => ?_⟩
  · by_cases hi : i < ds.length
    · rw [List.getElem?_append_left (by rw [List.length_map]; exact hi)] at h1
      unfold L2.start at h2
      rw [List.getElem?_append_left (by rw [List.length_map, ← hl]; exact hi)] at h2
      rw [List.getElem?_map] at h1 h2
      obtain ⟨d, hd, rfl⟩ := Option.map_eq_some_iff.mp h1
      obtain ⟨v, hv, rfl⟩ := Option.map_eq_some_iff.mp h2
      obtain ⟨v', hv', r⟩ := ra.get hd
      rw [hv] at hv'
      cases hv'
      exact ⟨v, rfl, r⟩
    · rw [List.getElem?_append_right (by rw [List.length_map]; omega)] at h1
      rw [(List.mem_replicate.mp (List.mem_of_getElem? h1)).2]
      trivial
  · rw [noOwn i si h1] at o1; cases o1
  · rw [noOwn i sl h1] at h2; cases h2
theorem fnok {ds : List Fd} {p : Pr} (hp : p.fns = ds.map fun d => (d.fn.name, d.fn.np)) (free : ∀ x ∈ bltNames, mg x = none) (glob : ∀ q ∈ p.gl, ∃ u v, mg q.1 = some u ∧ RelV v u ∧ ∀ G cs, Rep K G cs q.2 v)
    (dat : ∀ d ∈ ds, FnDat p d) (std : ∀ d ∈ ds, Stands K mg d) : ∀ (k i : Nat) (d : Fd), ds[i]? = some d →
    ∀ (f : Addr) (fd : FuncData), FunD K d.fn.name d.fn.name (defArgs d.st) (defBody d.st) (defScope d.st) [] [] f fd → FnOk P w K mg base CX0 k f fd d.ps (spM K d.fn.np (callN (ds.map Fd.fn) k i))
  | 0, i, d, hd, f, fd, F => by
    have D := dat d (List.mem_of_getElem? hd)
    refine ⟨fun vs H Q E h => ?_, fun A outer s H args us vs Q E _ _ _ _ h => ?_⟩
    · obtain ⟨G, cs, s, xs, d', s', _, ra, hl, _⟩ := h
      rw [← ra.length, hl, D.np]
    · obtain ⟨G, cs, s, xs, d', s', _, _, _, m, _⟩ := h
      cases m
  | k + 1, i, d, hd, f, fd, F => by
    have ih := fnok hp free glob dat std k
    have D := dat d (List.mem_of_getElem? hd)
    have look : ∀ {j : Nat} {q : Str × Nat}, p.fns[j]? = some q → ∃ e, ds[j]? = some e ∧ q = (e.fn.name, e.fn.np) := fun {j q} hj => by
      rw [hp, List.getElem?_map] at hj
      obtain ⟨e, he, rfl⟩ := Option.map_eq_some_iff.mp hj
      exact ⟨e, he, rfl⟩
    refine F.ok D.sc (fun vs H Q E h => ?_) (fun cdv A outer s0 H vs Q E hr h => ?_)
    · obtain ⟨G, cs, s, xs, d', s', _, ra, hl, _⟩ := h
      rw [← ra.length, hl, D.np]
    · obtain ⟨G, cs, s, xs, d', s', ok, ra, hl, m0, res⟩ := h
      have m : (match (ds.map Fd.fn)[i]? with
        | none => M.fail
        | some fn => if xs.length = fn.np then M.bind (exs (callN (ds.map Fd.fn) k) fn.body (xs.map Slot.val ++ List.replicate (fn.ns - fn.np) Slot.no)) fun o => (match o with
          | .ret d => M.pure d
          | .nx _ => M.pure .non
          | _ => M.fail) else M.fail) s = some (d', s') := m0
      clear m0
      rw [List.getElem?_map, hd] at m
      simp only [Option.map_some] at m
      rw [if_pos hl] at m
      obtain ⟨o, s1, m1, m2⟩ := M.bind_some m
      obtain ⟨n, hchk⟩ := D.chk
      refine ⟨tS K G H cs (exs (callN (ds.map Fd.fn) k) d.fn.body), PSs.nox ?_, ?_⟩
      · have hb := (sall_snd (p := p) (N := d.N) (call := callN (ds.map Fd.fn) k) (lv := k) (fun j q2 hj xs s r h => by
          obtain ⟨fn2, e1, e2⟩ := callN_len h
          obtain ⟨e, he, rfl⟩ := look hj
          rw [List.getElem?_map, he] at e1
          cases e1
          exact e2) n).ss (defScope d.st) (defBody d.st) d.fn.body (cxOf CX0 P w K mg base d.N d.fn.name (defScope d.st) f cdv A outer s0 H E).nox
          ⟨⟨rfl, D.sc.nd, rfl, hr, rfl, free, glob, fun j q2 hj => by
            obtain ⟨e, he, rfl⟩ := look hj
            obtain ⟨f', fd', h2, F'⟩ := (std e (List.mem_of_getElem? he)).ex
            have D' := dat e (List.mem_of_getElem? he)
            exact ⟨f', fd', e.ps, D'.np, ih j e he f' fd' F', h2, F'.kp, F'.bindsN D'.bind⟩⟩, ⟨rfl, D.sc.nd, rfl, fun x hx => ⟨loc_ok hx, .inl rfl⟩⟩, D.sc.kind, PassesOwn.never⟩ hchk
        exact hb G H cs
      · have hns : d.fn.ns - d.fn.np = d.N.length - xs.length := by rw [D.ns, hl]
        rw [hns] at m1
        refine ⟨G, cs, s, _, o, s1, start_ok ok ra, m1, ?_⟩
        cases o with
        | ret d' => obtain ⟨rfl, rfl⟩ := M.pure_some m2; exact res
        | nx ρ => obtain ⟨rfl, rfl⟩ := M.pure_some m2; exact fun G1 H1 c1 σ e1 k1 => res G1 H1 c1 .non k1.go k1.ok .non
        | bk ρ => cases m2
        | ct ρ => cases m2
end
/-! ### the head -/
def dOf (d : Fd) : He.DefD := ⟨(d.fn.name, none), d.fn.name, d.fn.name, defArgs d.st, defBody d.st, defScope d.st, [], []⟩
def glFa : Str × D → He.Fa
  | (x, .int i) => .int x i
  | (x, .str z) => .str x z
  | (x, _) => .glo x
def glOk : Str × D → Bool
  | (_, .int _) => true
  | (_, .str _) => true
  | _ => false
def faOf (ds : List Fd) (gl : List (Str × D)) : List He.Fa := ds.map (fun d => .glo d.fn.name) ++ (bltNames.map .free ++ gl.map glFa)
theorem fact_mem {K : PySem.W.Frag} {fa : List He.Fa} {fn : List He.DefD} (c : He.SaysD fa fn K) {f : He.Fa} (h : f ∈ fa) : f.ok K = true := by
  obtain ⟨i, hi⟩ := List.getElem?_of_mem h
  exact c.fact i hi
theorem says_all {K : PySem.W.Frag} {h : Heap} {mg : Str → Option Value} {ds : List Fd} {gl : List (Str × D)} (KX : K.In h) (G : h.Ns mainGlobals mg) (c : He.SaysD (faOf ds gl) (ds.map dOf) K) (hgl : gl.all glOk = true) :
    (∀ d ∈ ds, Stands K mg d) ∧ (∀ x ∈ bltNames, mg x = none) ∧ ∀ q ∈ gl, ∃ u v, mg q.1 = some u ∧ RelV v u ∧ ∀ G cs, Rep K G cs q.2 v := by
  refine ⟨fun d hd => ?_, fun x hx => ?_, fun q hq => ?_⟩
  · obtain ⟨i, hi⟩ := List.getElem?_of_mem hd
    obtain ⟨fd, F⟩ := c.def_ i (d := dOf d) (by rw [List.getElem?_map, hi]; rfl)
    exact ⟨_, fd, He.glo_ok KX G (fact_mem c (List.mem_append_left _ (List.mem_map.mpr ⟨d, hd, rfl⟩))), F⟩
  · exact He.free_ok KX G (fact_mem c (List.mem_append_right _ (List.mem_append_left _ (List.mem_map.mpr ⟨x, hx, rfl⟩))))
  · have hf := fact_mem c (List.mem_append_right _ (List.mem_append_right _ (List.mem_map.mpr ⟨q, hq, rfl⟩)))
    have ho := List.all_eq_true.mp hgl q hq
    obtain ⟨x, e⟩ := q
    cases e with
    | int i =>
      obtain ⟨t, ht⟩ := He.int_ok KX G hf
      exact ⟨_, .int i, ht, ⟨t, rfl⟩, fun _ _ => .int i⟩
    | str z =>
      obtain ⟨t, ht⟩ := He.str_ok KX G hf
      exact ⟨_, .str z, ht, ⟨t, rfl⟩, fun _ _ => .str z⟩
    | _ => cases ho
/-- the law's def keeps its word -/
theorem law_of {P : Program} {w : World} {K : PySem.W.Frag} {h : Heap} {mg : Str → Option Value} {ds : List Fd} {p : Pr} {fa : Addr} {k i : Nat} {d : Fd} (KX : K.In h) (G : h.Ns mainGlobals mg) (c : He.SaysD (faOf ds p.gl) (ds.map dOf) K) (hgl : p.gl.all glOk = true)
    (hp : p.fns = ds.map fun d => (d.fn.name, d.fn.np)) (dat : ∀ d ∈ ds, FnDat p d) (hd : ds[i]? = some d) (hname : d.fn.name = "law") (hps : d.ps = [("script" : Str)]) (hmg : mg ("law" : Str) = some (.ref fa)) {n : Nat}
    (math : ∀ ns : List Int, ns.length ≤ n → ∃ s', callN (ds.map Fd.fn) k i [.scr ns] [] = some (.bl true, s')) :
    ∃ (fd : FuncData) (sp : L2.Sp), (∀ (s : Shared) (u : Value), BindsTo s fd ⟨[u], []⟩ [(("script" : Str), u)]) ∧
      (∀ (H : Hp) (a : Addr) (ns : List Int), ns.length ≤ n → SqL K H a (ns.map V.int) → sp [.ref a] H (fun v _ => v = .bl true) fun _ _ _ => False) ∧
      ∀ base : Heap, K.In base → base.Ns mainGlobals mg → FnOk P w K mg base CX0 k fa fd [("script" : Str)] sp := by
  obtain ⟨s1, s2, s3⟩ := says_all KX G c hgl
  obtain ⟨f, fd, hm, F⟩ := (s1 d (List.mem_of_getElem? hd)).ex
  have D := dat d (List.mem_of_getElem? hd)
  have hnp : d.fn.np = 1 := by rw [← D.np, hps]; rfl
  have e : f = fa := by
    rw [hname] at hm
    rw [hm] at hmg
    cases hmg; rfl
  subst e
  refine ⟨fd, spM K d.fn.np (callN (ds.map Fd.fn) k i), fun s u => ?_, fun H a ns hn hS => ?_, fun base hb hG => ?_⟩
  · have := F.bindsA D.bind s [u] (by rw [hps]; rfl)
    rw [hps] at this
    exact this
  · obtain ⟨s', hs⟩ := math ns hn
    refine ⟨H, [], [], [.scr ns], .bl true, s', ⟨Same.refl _, rfl, List.nodup_nil, fun n a o h => by cases h⟩, .cons (.scr hS) .nil, hnp.symm, hs, fun G' H' cs' v _ _ r => ?_⟩
    cases r; rfl
  · have h1 := fnok (P := P) (w := w) (base := base) hp s2 s3 dat s1 k i d hd f fd F
    rw [hps] at h1
    exact h1
theorem mem_step {α : Type} {q : α → Prop} {x : α} {l : List α} (h : q x) (t : ∀ y ∈ l, q y) : ∀ y ∈ x :: l, q y := fun y hy => by
  rcases List.mem_cons.mp hy with z | z
  · rw [z]; exact h
  · exact t y z
theorem mem_nil {α : Type} {q : α → Prop} : ∀ y ∈ ([] : List α), q y := fun y hy => by cases hy
end PV
set_option Elab.async false
set_option linter.all false
set_option autoImplicit false
set_option maxRecDepth 100000
set_option maxHeartbeats 0
namespace K34
open PySem PySem.Spec L2 PV
open PyProof.Rows hiding St
abbrev BODY : List Stmt := PySem.Challenge.pw_wirestowords_k34_whole_asks_of_a_host_by.main.body
def top (i : Nat) : Stmt := BODY.getD i (.Pass ⟨0, 0, 0, 0⟩)
/-- is_count(value) -/
def F_is_count : Fn := ⟨"is_count", 1, 1,
  (.cons (.ret (.and2 (.isi (.var 0) .int) (.and2 (.nott (.isi (.var 0) .bool)) (.cmp .ge (.var 0) (.int 0))))) .nil)⟩
/-- is_octet(value) -/
def F_is_octet : Fn := ⟨"is_octet", 1, 1,
  (.cons (.ret (.and2 (.call 0 (.cons (.var 0) .nil)) (.cmp .lt (.var 0) (.glob "OCTET" (.int 256))))) .nil)⟩
/-- are_octets(value) -/
def F_are_octets : Fn := ⟨"are_octets", 1, 2,
  (.cons (.ret (.and2 (.isi (.var 0) .tuple) (.blt .all (.cons (.comp [1] (.name 1) (.seq (.var 0)) .nil (.call 1 (.cons (.var 1) .nil))) .nil)))) .nil)⟩
/-- octet_pairs(number, size) -/
def F_octet_pairs : Fn := ⟨"octet_pairs", 2, 3,
  (.cons (.ret (.blt .tuple (.cons (.comp [2] (.name 2) (.rng1 (.var 1)) .nil (.bin .and (.bin .shr (.var 0) (.bin .mul (.int 8) (.bin .sub (.bin .sub (.var 1) (.int 1)) (.var 2)))) (.int 255))) .nil))) .nil)⟩
/-- number_of_octets(octets) -/
def F_number_of_octets : Fn := ⟨"number_of_octets", 1, 3,
  (.cons (.set 1 (.int 0)) (.cons (.fors (.name 2) (.seq (.var 0))
    (.cons (.set 1 (.bin .add (.bin .mul (.int 256) (.var 1)) (.var 2))) .nil)) (.cons (.ret (.var 1)) .nil)))⟩
/-- is_address(value) -/
def F_is_address : Fn := ⟨"is_address", 1, 2,
  (.cons (.ifs (.or2 (.nott (.isi (.var 0) .tuple)) (.or2 (.cmp .ne (.blt .len (.cons (.var 0) .nil)) (.int 2)) (.nott (.blt .all (.cons (.comp [1] (.name 1) (.seq (.var 0)) .nil (.call 0 (.cons (.var 1) .nil))) .nil)))))
    (.cons (.ret (.bl false)) .nil)
    .nil) (.cons (.ret (.and2 (.chain .le .le (.int 1) (.idx (.var 0) (.int 0)) (.glob "MOST_LAN" (.int 30))) (.chain .le .le (.int 1) (.idx (.var 0) (.int 1)) (.glob "MOST_HOST" (.int 250))))) .nil))⟩
/-- address_octets(address) -/
def F_address_octets : Fn := ⟨"address_octets", 1, 1,
  (.cons (.ifs (.cmp .is (.var 0) .non)
    (.cons (.ret (.tup (.cons (.int 0) (.cons (.int 0) .nil)))) .nil)
    .nil) (.cons (.ifs (.nott (.call 5 (.cons (.var 0) .nil)))
    (.cons .never .nil)
    .nil) (.cons (.ret (.var 0)) .nil)))⟩
/-- address_of_octets(octets) -/
def F_address_of_octets : Fn := ⟨"address_of_octets", 1, 1,
  (.cons (.ret (.ifx (.call 5 (.cons (.blt .tuple (.cons (.var 0) .nil)) .nil)) (.blt .tuple (.cons (.var 0) .nil)) .non)) .nil)⟩
/-- is_hardware(value) -/
def F_is_hardware : Fn := ⟨"is_hardware", 1, 1,
  (.cons (.ret (.and2 (.call 0 (.cons (.var 0) .nil)) (.chain .le .le (.int 1) (.var 0) (.glob "MOST_HW" (.int 200))))) .nil)⟩
/-- is_boot(value) -/
def F_is_boot : Fn := ⟨"is_boot", 1, 1,
  (.cons (.ret (.and2 (.call 0 (.cons (.var 0) .nil)) (.chain .le .le (.int 1) (.var 0) (.glob "MOST_BOOT" (.int 201))))) .nil)⟩
/-- lease_ask(hw, boot, number) -/
def F_lease_ask : Fn := ⟨"lease_ask", 3, 3,
  (.cons (.ret (.bin .add (.tup (.cons (.glob "LEASE_ASK" (.int 1)) (.cons (.var 0) (.cons (.var 1) .nil)))) (.call 3 (.cons (.var 2) (.cons (.int 2) .nil))))) .nil)⟩
/-- lease_answer(hw, boot, number, address) -/
def F_lease_answer : Fn := ⟨"lease_answer", 4, 4,
  (.cons (.ret (.bin .add (.bin .add (.tup (.cons (.glob "LEASE_ANSWER" (.int 2)) (.cons (.var 0) (.cons (.var 1) .nil)))) (.call 3 (.cons (.var 2) (.cons (.int 2) .nil)))) (.call 6 (.cons (.var 3) .nil)))) .nil)⟩
/-- lease_word(octets) -/
def F_lease_word : Fn := ⟨"lease_word", 1, 3,
  (.cons (.ifs (.or2 (.nott (.call 2 (.cons (.var 0) .nil))) (.cmp .notin (.blt .len (.cons (.var 0) .nil)) (.tup (.cons (.int 5) (.cons (.int 7) .nil)))))
    (.cons (.ret .non) .nil)
    .nil) (.cons (.ifs (.or2 (.nott (.call 8 (.cons (.idx (.var 0) (.int 1)) .nil))) (.nott (.call 9 (.cons (.idx (.var 0) (.int 2)) .nil))))
    (.cons (.ret .non) .nil)
    .nil) (.cons (.set 1 (.call 4 (.cons (.slice (.var 0) (.at (.int 3)) (.at (.int 5))) .nil))) (.cons (.ifs (.and2 (.cmp .eq (.idx (.var 0) (.int 0)) (.glob "LEASE_ASK" (.int 1))) (.cmp .eq (.blt .len (.cons (.var 0) .nil)) (.int 5)))
    (.cons (.ret (.tup (.cons (.str "ask") (.cons (.idx (.var 0) (.int 1)) (.cons (.idx (.var 0) (.int 2)) (.cons (.var 1) .nil)))))) .nil)
    .nil) (.cons (.set 2 (.call 7 (.cons (.slice (.var 0) (.at (.int 5)) .no) .nil))) (.cons (.ifs (.or2 (.cmp .ne (.idx (.var 0) (.int 0)) (.glob "LEASE_ANSWER" (.int 2))) (.or2 (.cmp .ne (.blt .len (.cons (.var 0) .nil)) (.int 7)) (.cmp .is (.var 2) .non)))
    (.cons (.ret .non) .nil)
    .nil) (.cons (.ret (.tup (.cons (.str "answer") (.cons (.idx (.var 0) (.int 1)) (.cons (.idx (.var 0) (.int 2)) (.cons (.var 1) (.cons (.var 2) .nil))))))) .nil)))))))⟩
/-- lease_host_start(hw, boot) -/
def F_lease_host_start : Fn := ⟨"lease_host_start", 2, 2,
  (.cons (.ifs (.nott (.call 8 (.cons (.var 0) .nil)))
    (.cons .never .nil)
    .nil) (.cons (.ifs (.nott (.call 9 (.cons (.var 1) .nil)))
    (.cons .never .nil)
    .nil) (.cons (.ret (.tup (.cons (.str "lease host") (.cons (.var 0) (.cons (.var 1) (.cons (.int 0) (.cons (.int 0) (.cons (.tup .nil) (.cons .non .nil))))))))) .nil)))⟩
/-- is_lease_host(value) -/
def F_is_lease_host : Fn := ⟨"is_lease_host", 1, 3,
  (.cons (.ifs (.or2 (.nott (.isi (.var 0) .tuple)) (.or2 (.cmp .ne (.blt .len (.cons (.var 0) .nil)) (.int 7)) (.cmp .ne (.idx (.var 0) (.int 0)) (.str "lease host"))))
    (.cons (.ret (.bl false)) .nil)
    .nil) (.cons (.ifs (.or2 (.nott (.call 8 (.cons (.idx (.var 0) (.int 1)) .nil))) (.or2 (.nott (.call 9 (.cons (.idx (.var 0) (.int 2)) .nil))) (.or2 (.nott (.call 0 (.cons (.idx (.var 0) (.int 3)) .nil))) (.nott (.call 0 (.cons (.idx (.var 0) (.int 4)) .nil))))))
    (.cons (.ret (.bl false)) .nil)
    .nil) (.cons (.ifs (.or2 (.nott (.isi (.idx (.var 0) (.int 5)) .tuple)) (.or2 (.cmp .gt (.blt .len (.cons (.idx (.var 0) (.int 5)) .nil)) (.glob "KEPT_ASKS" (.int 17))) (.cmp .ge (.idx (.var 0) (.int 4)) (.glob "LEASE_ROUND" (.int 65536)))))
    (.cons (.ret (.bl false)) .nil)
    .nil) (.cons (.ifs (.nott (.blt .all (.cons (.comp [2] (.name 2) (.seq (.idx (.var 0) (.int 5))) .nil (.and2 (.call 15 (.cons (.var 2) .nil)) (.cmp .le (.idx (.var 2) (.int 1)) (.idx (.var 0) (.int 3))))) .nil)))
    (.cons (.ret (.bl false)) .nil)
    .nil) (.cons (.set 1 (.idx (.var 0) (.int 6))) (.cons (.ret (.or2 (.cmp .is (.var 1) .non) (.and2 (.call 16 (.cons (.var 1) .nil)) (.chain .le .lt (.idx (.var 1) (.int 1)) (.idx (.var 0) (.int 3)) (.bin .add (.idx (.var 1) (.int 1)) (.glob "LEASE_TICKS" (.int 200))))))) .nil))))))⟩
/-- is_ask_pair(value) -/
def F_is_ask_pair : Fn := ⟨"is_ask_pair", 1, 2,
  (.cons (.ifs (.or2 (.nott (.isi (.var 0) .tuple)) (.or2 (.cmp .ne (.blt .len (.cons (.var 0) .nil)) (.int 2)) (.nott (.blt .all (.cons (.comp [1] (.name 1) (.seq (.var 0)) .nil (.call 0 (.cons (.var 1) .nil))) .nil)))))
    (.cons (.ret (.bl false)) .nil)
    .nil) (.cons (.ret (.cmp .lt (.idx (.var 0) (.int 0)) (.glob "LEASE_ROUND" (.int 65536)))) .nil))⟩
/-- is_held(value) -/
def F_is_held : Fn := ⟨"is_held", 1, 1,
  (.cons (.ret (.and2 (.isi (.var 0) .tuple) (.and2 (.cmp .eq (.blt .len (.cons (.var 0) .nil)) (.int 2)) (.and2 (.call 5 (.cons (.idx (.var 0) (.int 0)) .nil)) (.call 0 (.cons (.idx (.var 0) (.int 1)) .nil)))))) .nil)⟩
/-- lease_held(state) -/
def F_lease_held : Fn := ⟨"lease_held", 1, 1,
  (.cons (.ret (.ifx (.cmp .is (.idx (.var 0) (.int 6)) .non) .non (.idx (.idx (.var 0) (.int 6)) (.int 0)))) .nil)⟩
/-- lease_host_step(state, event) -/
def F_lease_host_step : Fn := ⟨"lease_host_step", 2, 2,
  (.cons (.ifs (.cmp .eq (.var 1) (.tup (.cons (.str "tick") .nil)))
    (.cons (.ret (.call 20 (.cons (.var 0) .nil))) .nil)
    .nil) (.cons (.ifs (.or2 (.nott (.isi (.var 1) .tuple)) (.or2 (.cmp .ne (.blt .len (.cons (.var 1) .nil)) (.int 2)) (.or2 (.cmp .ne (.idx (.var 1) (.int 0)) (.str "up")) (.nott (.call 19 (.cons (.idx (.var 1) (.int 1)) .nil))))))
    (.cons .never .nil)
    .nil) (.cons (.ret (.call 22 (.cons (.var 0) (.cons (.call 12 (.cons (.idx (.idx (.var 1) (.int 1)) (.int 1)) .nil)) .nil)))) .nil)))⟩
/-- is_frame(value) -/
def F_is_frame : Fn := ⟨"is_frame", 1, 1,
  (.cons (.ret (.and2 (.isi (.var 0) .tuple) (.and2 (.cmp .eq (.blt .len (.cons (.var 0) .nil)) (.int 2)) (.and2 (.call 8 (.cons (.idx (.var 0) (.int 0)) .nil)) (.isi (.idx (.var 0) (.int 1)) .tuple))))) .nil)⟩
/-- host_tick(state) -/
def F_host_tick : Fn := ⟨"host_tick", 1, 9,
  (.cons (.unpack (.tup (.cons (.name 1) (.cons (.name 2) (.cons (.name 3) (.cons (.name 4) (.cons (.name 5) (.cons (.name 6) (.cons (.name 7) .nil)))))))) (.var 0)) (.cons (.par2 4 8 false false (.bin .add (.var 4) (.int 1)) (.tup .nil)) (.cons (.ifs (.and2 (.cmp .isnot (.var 7) .non) (.cmp .ge (.var 4) (.bin .add (.idx (.var 7) (.int 1)) (.glob "LEASE_TICKS" (.int 200)))))
    (.cons (.unpack (.tup (.cons (.name 7) (.cons (.name 8) .nil))) (.tup (.cons .non (.cons (.tup (.cons (.tup (.cons (.str "up") (.cons (.tup (.cons (.str "address") (.cons .non .nil))) .nil))) .nil)) .nil)))) .nil)
    .nil) (.cons (.ifs (.call 21 (.cons (.var 4) (.cons (.var 6) (.cons (.var 7) .nil))))
    (.cons (.set 6 (.slice (.bin .add (.var 6) (.tup (.cons (.tup (.cons (.var 5) (.cons (.var 4) .nil))) .nil))) (.at (.neg (.glob "KEPT_ASKS" (.int 17)))) .no)) (.cons (.set 8 (.bin .add (.var 8) (.tup (.cons (.tup (.cons (.str "down") (.cons (.tup (.cons (.glob "LEASE_ALL" (.int 255)) (.cons (.call 10 (.cons (.var 2) (.cons (.var 3) (.cons (.var 5) .nil)))) .nil))) .nil))) .nil)))) (.cons (.set 5 (.bin .mod (.bin .add (.var 5) (.int 1)) (.glob "LEASE_ROUND" (.int 65536)))) .nil)))
    .nil) (.cons (.ret (.tup (.cons (.tup (.cons (.var 1) (.cons (.var 2) (.cons (.var 3) (.cons (.var 4) (.cons (.var 5) (.cons (.var 6) (.cons (.var 7) .nil)))))))) (.cons (.var 8) .nil)))) .nil)))))⟩
/-- is_asking(ticks, asks, held) -/
def F_is_asking : Fn := ⟨"is_asking", 3, 3,
  (.cons (.ifs (.and2 (.cmp .isnot (.var 2) .non) (.cmp .lt (.var 0) (.bin .add (.idx (.var 2) (.int 1)) (.glob "LEASE_HALF" (.int 100)))))
    (.cons (.ret (.bl false)) .nil)
    .nil) (.cons (.ret (.or2 (.cmp .eq (.var 1) (.tup .nil)) (.cmp .ge (.var 0) (.bin .add (.idx (.idx (.var 1) (.neg (.int 1))) (.int 1)) (.glob "ASK_TICKS" (.int 12)))))) .nil))⟩
/-- host_answer(state, word) -/
def F_host_answer : Fn := ⟨"host_answer", 2, 12,
  (.cons (.unpack (.tup (.cons (.name 2) (.cons (.name 3) (.cons (.name 4) (.cons (.name 5) (.cons (.name 6) (.cons (.name 7) (.cons (.name 8) .nil)))))))) (.var 0)) (.cons (.ifs (.or2 (.cmp .is (.var 1) .non) (.or2 (.cmp .ne (.idx (.var 1) (.int 0)) (.str "answer")) (.cmp .ne (.slice (.var 1) (.at (.int 1)) (.at (.int 3))) (.tup (.cons (.var 3) (.cons (.var 4) .nil))))))
    (.cons (.ret (.tup (.cons (.var 0) (.cons (.tup .nil) .nil)))) .nil)
    .nil) (.cons (.set 9 (.comp [10, 11] (.tup (.cons (.name 10) (.cons (.name 11) .nil))) (.seq (.var 7)) (.cons (.cmp .eq (.var 10) (.idx (.var 1) (.int 3))) .nil) (.var 11))) (.cons (.ifs (.or2 (.cmp .eq (.var 9) (.lst .nil)) (.or2 (.cmp .ge (.var 5) (.bin .add (.idx (.var 9) (.int 0)) (.glob "LEASE_TICKS" (.int 200)))) (.and2 (.cmp .isnot (.var 8) .non) (.cmp .ne (.idx (.var 8) (.int 0)) (.idx (.var 1) (.int 4))))))
    (.cons (.ret (.tup (.cons (.var 0) (.cons (.tup .nil) .nil)))) .nil)
    .nil) (.cons (.ifs (.cmp .isnot (.var 8) .non)
    (.cons (.ret (.tup (.cons (.tup (.cons (.var 2) (.cons (.var 3) (.cons (.var 4) (.cons (.var 5) (.cons (.var 6) (.cons (.var 7) (.cons (.tup (.cons (.idx (.var 8) (.int 0)) (.cons (.blt .max2 (.cons (.idx (.var 8) (.int 1)) (.cons (.idx (.var 9) (.int 0)) .nil))) .nil))) .nil)))))))) (.cons (.tup .nil) .nil)))) .nil)
    .nil) (.cons (.ret (.tup (.cons (.tup (.cons (.var 2) (.cons (.var 3) (.cons (.var 4) (.cons (.var 5) (.cons (.var 6) (.cons (.var 7) (.cons (.tup (.cons (.idx (.var 1) (.int 4)) (.cons (.idx (.var 9) (.int 0)) .nil))) .nil)))))))) (.cons (.tup (.cons (.tup (.cons (.str "up") (.cons (.tup (.cons (.str "address") (.cons (.idx (.var 1) (.int 4)) .nil))) .nil))) .nil)) .nil)))) .nil))))))⟩
/-- _law_draw(tape, many) -/
def F__law_draw : Fn := ⟨"_law_draw", 2, 4,
  (.cons (.ifs (.cmp .eq (.idx (.var 0) (.int 2)) (.int 0))
    (.cons (.set 2 (.ifx (.cmp .lt (.idx (.var 0) (.int 1)) (.blt .len (.cons (.idx (.var 0) (.int 0)) .nil))) (.blt .abs (.cons (.blt .int (.cons (.idx (.idx (.var 0) (.int 0)) (.idx (.var 0) (.int 1))) .nil)) .nil)) (.int 0))) (.cons (.cput (.var 0) (.int 1) (.bin .add (.idx (.var 0) (.int 1)) (.int 1))) (.cons (.cput (.var 0) (.int 3) (.bin .mod (.blt .int (.cons (.bin .add (.bin .add (.bin .mul (.idx (.var 0) (.int 3)) (.int 48271)) (.bin .mul (.var 2) (.int 7919))) (.int 12345)) .nil)) (.int 2147483647))) (.cons (.cput (.var 0) (.int 2) (.ifx (.cmp .ge (.var 2) (.bin .pow (.int 10) (.int 18))) (.var 2) (.int 0))) .nil))))
    .nil) (.cons (.ifs (.cmp .gt (.idx (.var 0) (.int 2)) (.int 0))
    (.cons (.set 3 (.bin .mod (.blt .int (.cons (.idx (.var 0) (.int 2)) .nil)) (.var 1))) (.cons (.cput (.var 0) (.int 2) (.bin .fdiv (.blt .int (.cons (.idx (.var 0) (.int 2)) .nil)) (.var 1))) (.cons (.ret (.var 3)) .nil)))
    .nil) (.cons (.ret (.bin .mod (.blt .int (.cons (.bin .fdiv (.idx (.var 0) (.int 3)) (.int 7)) .nil)) (.var 1))) .nil)))⟩
/-- _law_row(first, step, end) -/
def F__law_row : Fn := ⟨"_law_row", 3, 4,
  (.cons (.ret (.comp [3] (.name 3) (.rng1 (.var 2)) (.cons (.cmp .le (.bin .add (.var 0) (.bin .mul (.var 1) (.var 3))) (.var 2)) .nil) (.bin .add (.var 0) (.bin .mul (.var 1) (.var 3))))) .nil)⟩
/-- _law_run(hw, boot, answers, ticks) -/
def F__law_run : Fn := ⟨"_law_run", 4, 14,
  (.cons (.par3 4 5 6 false true true (.call 13 (.cons (.var 0) (.cons (.var 1) .nil))) (.lst .nil) (.lst .nil)) (.cons (.fors (.name 7) (.rng2 (.int 1) (.bin .add (.var 3) (.int 1)))
    (.cons (.unpack (.tup (.cons (.name 4) (.cons (.name 8) .nil))) (.call 18 (.cons (.var 4) (.cons (.tup (.cons (.str "tick") .nil)) .nil)))) (.cons (.fors (.tup (.cons (.name 9) (.cons (.name 10) .nil))) (.seq (.var 8))
    (.cons (.ifs (.cmp .eq (.var 9) (.str "down"))
    (.cons (.ifs (.cmp .ne (.var 10) (.tup (.cons (.int 255) (.cons (.call 10 (.cons (.var 0) (.cons (.var 1) (.cons (.blt .len (.cons (.bor 5) .nil)) .nil)))) .nil))))
    (.cons (.ret .non) .nil)
    .nil) (.cons (.app 5 (.var 7)) .nil))
    (.cons (.app 6 (.tup (.cons (.var 7) (.cons (.idx (.var 10) (.int 1)) .nil)))) .nil)) .nil)) (.cons (.fors (.tup (.cons (.name 11) (.cons (.name 12) .nil))) (.seq (.meth .get2 (.var 2) (.cons (.var 7) (.cons (.tup .nil) .nil))))
    (.cons (.unpack (.tup (.cons (.name 4) (.cons (.name 8) .nil))) (.call 18 (.cons (.var 4) (.cons (.tup (.cons (.str "up") (.cons (.tup (.cons (.int 9) (.cons (.call 11 (.cons (.var 0) (.cons (.var 1) (.cons (.var 11) (.cons (.var 12) .nil))))) .nil))) .nil))) .nil)))) (.cons (.own 6 (.bin .add (.bor 6) (.comp [9, 10] (.tup (.cons (.name 9) (.cons (.name 10) .nil))) (.seq (.var 8)) .nil (.tup (.cons (.var 7) (.cons (.idx (.var 10) (.int 1)) .nil)))))) .nil))) (.cons (.ifs (.or2 (.cmp .isnot (.call 14 (.cons (.var 4) .nil)) (.bl true)) (.or2 (.cmp .ne (.idx (.var 4) (.int 3)) (.var 7)) (.or2 (.cmp .ne (.comp [13] (.name 13) (.seq (.idx (.var 4) (.int 5))) (.cons (.cmp .isnot (.call 15 (.cons (.var 13) .nil)) (.bl true)) .nil) (.int 1)) (.lst .nil)) (.cmp .ne (.blt .len (.cons (.idx (.var 4) (.int 5)) .nil)) (.blt .min2 (.cons (.blt .len (.cons (.bor 5) .nil)) (.cons (.int 17) .nil)))))))
    (.cons (.ret .non) .nil)
    .nil) (.cons (.ifs (.and2 (.cmp .isnot (.idx (.var 4) (.int 6)) .non) (.or2 (.cmp .isnot (.call 16 (.cons (.idx (.var 4) (.int 6)) .nil)) (.bl true)) (.cmp .ne (.call 17 (.cons (.var 4) .nil)) (.idx (.idx (.var 4) (.int 6)) (.int 0)))))
    (.cons (.ret .non) .nil)
    .nil) .nil)))))) (.cons (.frz 6 (.frz 5 (.ret (.tup (.cons (.var 5) (.cons (.var 6) (.cons (.var 4) .nil))))))) .nil)))⟩
/-- _law_late(tape, hw, boot, one, other) -/
def F__law_late : Fn := ⟨"_law_late", 5, 10,
  (.cons (.par2 5 6 false false (.idx (.tup (.cons (.call 23 (.cons (.var 0) (.cons (.int 230) .nil))) (.cons (.call 23 (.cons (.var 0) (.cons (.int 30) .nil))) .nil))) (.call 23 (.cons (.var 0) (.cons (.int 2) .nil)))) (.int 420)) (.cons (.set 7 (.call 25 (.cons (.var 1) (.cons (.var 2) (.cons (.dct (.cons (.bin .add (.int 1) (.var 5)) (.lst (.cons (.tup (.cons (.int 0) (.cons (.var 3) .nil))) (.cons (.tup (.cons (.int 0) (.cons (.var 4) .nil))) (.cons (.tup (.cons (.int 0) (.cons (.var 3) .nil))) .nil)))) .nil)) (.cons (.var 6) .nil)))))) (.cons (.ifs (.cmp .is (.var 7) .non)
    (.cons (.ret (.bl false)) .nil)
    .nil) (.cons (.ifs (.cmp .gt (.var 5) (.int 199))
    (.cons (.ret (.and2 (.cmp .eq (.slice (.var 7) .no (.at (.int 2))) (.tup (.cons (.call 24 (.cons (.int 1) (.cons (.int 12) (.cons (.var 6) .nil)))) (.cons (.lst .nil) .nil)))) (.cmp .is (.call 17 (.cons (.idx (.var 7) (.int 2)) .nil)) .non))) .nil)
    .nil) (.cons (.set 8 (.call 24 (.cons (.int 1) (.cons (.int 12) (.cons (.bin .add (.int 1) (.var 5)) .nil))))) (.cons (.set 9 (.bin .add (.var 8) (.call 24 (.cons (.blt .max2 (.cons (.int 101) (.cons (.bin .add (.idx (.var 8) (.neg (.int 1))) (.int 12)) .nil))) (.cons (.int 12) (.cons (.var 6) .nil)))))) (.cons (.ret (.cmp .eq (.slice (.var 7) .no (.at (.int 2))) (.tup (.cons (.var 9) (.cons (.lst (.cons (.tup (.cons (.bin .add (.int 1) (.var 5)) (.cons (.var 3) .nil))) (.cons (.tup (.cons (.int 201) (.cons .non .nil))) .nil))) .nil))))) .nil)))))))⟩
/-- _law_renewed(tape, hw, boot, one, other) -/
def F__law_renewed : Fn := ⟨"_law_renewed", 5, 18,
  (.cons (.par2 5 6 false false (.bin .add (.int 1) (.call 23 (.cons (.var 0) (.cons (.int 6) .nil)))) (.int 1600)) (.cons (.set 7 (.bin .add (.int 1) (.bin .mul (.int 100) (.bin .sub (.var 5) (.int 1))))) (.cons (.own 8 (.blt .dict (.cons (.comp [16] (.name 16) (.rng1 (.var 5)) .nil (.tup (.cons (.bin .add (.int 1) (.bin .mul (.int 100) (.var 16))) (.cons (.lst (.cons (.tup (.cons (.var 16) (.cons (.var 3) .nil))) .nil)) .nil)))) .nil))) (.cons (.set 9 (.call 24 (.cons (.bin .add (.var 7) (.int 100)) (.cons (.int 12) (.cons (.var 6) .nil))))) (.cons (.set 10 (.call 23 (.cons (.var 0) (.cons (.int 30) .nil)))) (.cons (.set 11 (.idx (.var 9) (.var 10))) (.cons (.set 12 (.cmp .lt (.var 11) (.bin .add (.var 7) (.int 200)))) (.cons (.put 8 (.var 11) (.ifx (.var 12) (.lst (.cons (.tup (.cons (.bin .add (.var 5) (.var 10)) (.cons (.var 4) .nil))) (.cons (.tup (.cons (.bin .add (.var 5) (.var 10)) (.cons (.var 3) .nil))) .nil))) (.lst (.cons (.tup (.cons (.bin .add (.var 5) (.var 10)) (.cons (.var 4) .nil))) (.cons (.tup (.cons (.bin .add (.var 5) (.var 10)) (.cons (.var 3) .nil))) .nil))))) (.cons (.frz 8 (.set 13 (.call 25 (.cons (.var 1) (.cons (.var 2) (.cons (.var 8) (.cons (.blt .min2 (.cons (.var 6) (.cons (.bin .add (.var 11) (.int 150)) .nil))) .nil))))))) (.cons (.ifs (.cmp .is (.var 13) .non)
    (.cons (.ret (.bl false)) .nil)
    .nil) (.cons (.set 14 (.bin .add (.comp [16] (.name 16) (.rng1 (.var 5)) .nil (.bin .add (.int 1) (.bin .mul (.int 100) (.var 16)))) (.comp [17] (.name 17) (.seq (.var 9)) (.cons (.cmp .le (.var 17) (.var 11)) .nil) (.var 17)))) (.cons (.set 14 (.bin .add (.var 14) (.call 24 (.cons (.bin .add (.var 11) (.int 100)) (.cons (.int 12) (.cons (.bin .add (.var 11) (.int 150)) .nil)))))) (.cons (.set 15 (.bin .add (.lst (.cons (.tup (.cons (.int 1) (.cons (.var 3) .nil))) .nil)) (.ifx (.var 12) (.lst .nil) (.lst (.cons (.tup (.cons (.bin .add (.var 7) (.int 200)) (.cons .non .nil))) (.cons (.tup (.cons (.var 11) (.cons (.var 4) .nil))) .nil)))))) (.cons (.ret (.and2 (.cmp .eq (.idx (.var 13) (.int 0)) (.var 14)) (.and2 (.cmp .eq (.idx (.var 13) (.int 1)) (.var 15)) (.and2 (.cmp .eq (.call 17 (.cons (.idx (.var 13) (.int 2)) .nil)) (.ifx (.var 12) (.var 3) (.var 4))) (.cmp .eq (.idx (.idx (.idx (.var 13) (.int 2)) (.int 6)) (.int 1)) (.var 11)))))) .nil))))))))))))))⟩
/-- _law_never(hw, boot) -/
def F__law_never : Fn := ⟨"_law_never", 2, 10,
  (.cons (.set 2 (.dct (.cons (.int 5) (.lst (.cons (.tup (.cons (.int 0) (.cons (.tup (.cons (.int 3) (.cons (.int 1) .nil))) .nil))) .nil)) .nil))) (.cons (.set 3 (.call 25 (.cons (.var 0) (.cons (.var 1) (.cons (.dct .nil) (.cons (.int 300) .nil)))))) (.cons (.unpack (.tup (.cons (.name 4) (.cons (.name 5) .nil))) (.call 18 (.cons (.idx (.var 3) (.int 2)) (.cons (.tup (.cons (.str "up") (.cons (.tup (.cons (.int 9) (.cons (.call 11 (.cons (.bin .add (.bin .mod (.var 0) (.int 200)) (.int 1)) (.cons (.var 1) (.cons (.int 24) (.cons (.tup (.cons (.int 3) (.cons (.int 1) .nil))) .nil))))) .nil))) .nil))) .nil)))) (.cons (.unpack (.tup (.cons (.name 6) (.cons (.name 7) .nil))) (.call 18 (.cons (.idx (.var 3) (.int 2)) (.cons (.tup (.cons (.str "up") (.cons (.tup (.cons (.int 9) (.cons (.call 11 (.cons (.var 0) (.cons (.bin .add (.bin .mod (.var 1) (.int 201)) (.int 1)) (.cons (.int 24) (.cons (.tup (.cons (.int 3) (.cons (.int 1) .nil))) .nil))))) .nil))) .nil))) .nil)))) (.cons (.unpack (.tup (.cons (.name 8) (.cons (.name 9) .nil))) (.call 18 (.cons (.idx (.var 3) (.int 2)) (.cons (.tup (.cons (.str "up") (.cons (.tup (.cons (.int 9) (.cons (.call 11 (.cons (.var 0) (.cons (.var 1) (.cons (.int 60000) (.cons (.tup (.cons (.int 3) (.cons (.int 1) .nil))) .nil))))) .nil))) .nil))) .nil)))) (.cons (.ifs (.or2 (.cmp .ne (.slice (.var 3) .no (.at (.int 2))) (.tup (.cons (.call 24 (.cons (.int 1) (.cons (.int 12) (.cons (.int 300) .nil)))) (.cons (.lst .nil) .nil)))) (.or2 (.cmp .ne (.tup (.cons (.var 4) (.cons (.var 6) (.cons (.var 8) .nil)))) (.bin .mul (.tup (.cons (.idx (.var 3) (.int 2)) .nil)) (.int 3))) (.cmp .ne (.tup (.cons (.var 5) (.cons (.var 7) (.cons (.var 9) .nil)))) (.tup (.cons (.tup .nil) (.cons (.tup .nil) (.cons (.tup .nil) .nil)))))))
    (.cons (.ret (.bl false)) .nil)
    .nil) (.cons (.ret (.cmp .eq (.idx (.call 25 (.cons (.var 0) (.cons (.var 1) (.cons (.var 2) (.cons (.int 150) .nil))))) (.int 1)) (.lst (.cons (.tup (.cons (.int 5) (.cons (.tup (.cons (.int 3) (.cons (.int 1) .nil))) .nil))) .nil)))) .nil)))))))⟩
/-- law(script) -/
def F_law : Fn := ⟨"law", 1, 6,
  (.cons (.cell 1 (.lst (.cons (.blt .list (.cons (.var 0) .nil)) (.cons (.int 0) (.cons (.int 0) (.cons (.int 34) .nil)))))) (.cons (.par2 2 3 false false (.bin .add (.int 1) (.call 23 (.cons (.var 1) (.cons (.int 200) .nil)))) (.bin .add (.int 1) (.call 23 (.cons (.var 1) (.cons (.int 201) .nil))))) (.cons (.set 4 (.tup (.cons (.bin .add (.int 1) (.call 23 (.cons (.var 1) (.cons (.int 30) .nil)))) (.cons (.bin .add (.int 1) (.call 23 (.cons (.var 1) (.cons (.int 250) .nil)))) .nil)))) (.cons (.set 5 (.tup (.cons (.bin .add (.bin .mod (.idx (.var 4) (.int 0)) (.int 30)) (.int 1)) (.cons (.bin .add (.int 1) (.call 23 (.cons (.var 1) (.cons (.int 250) .nil)))) .nil)))) (.cons (.ret (.and2 (.call 26 (.cons (.var 1) (.cons (.var 2) (.cons (.var 3) (.cons (.var 4) (.cons (.var 5) .nil)))))) (.and2 (.call 27 (.cons (.var 1) (.cons (.var 2) (.cons (.var 3) (.cons (.var 4) (.cons (.var 5) .nil)))))) (.call 28 (.cons (.var 2) (.cons (.var 3) .nil)))))) .nil)))))⟩
def gl : List (Str × D) := [("LEASE_TICKS", .int 200), ("LEASE_HALF", .int 100), ("ASK_TICKS", .int 12), ("KEPT_ASKS", .int 17), ("OCTET", .int 256), ("LEASE_ASK", .int 1), ("LEASE_ANSWER", .int 2), ("LEASE_ALL", .int 255), ("LEASE_ROUND", .int 65536), ("MOST_LAN", .int 30), ("MOST_HOST", .int 250), ("MOST_HW", .int 200), ("MOST_BOOT", .int 201)]
def fds : List Fd := [⟨F_is_count, top 10, ["value"], ["value"]⟩,
  ⟨F_is_octet, top 11, ["value"], ["value"]⟩,
  ⟨F_are_octets, top 12, ["value"], ["value", "one"]⟩,
  ⟨F_octet_pairs, top 13, ["number", "size"], ["number", "size", "k"]⟩,
  ⟨F_number_of_octets, top 14, ["octets"], ["octets", "found", "one"]⟩,
  ⟨F_is_address, top 24, ["value"], ["value", "one"]⟩,
  ⟨F_address_octets, top 25, ["address"], ["address"]⟩,
  ⟨F_address_of_octets, top 26, ["octets"], ["octets"]⟩,
  ⟨F_is_hardware, top 27, ["value"], ["value"]⟩,
  ⟨F_is_boot, top 28, ["value"], ["value"]⟩,
  ⟨F_lease_ask, top 29, ["hw", "boot", "number"], ["hw", "boot", "number"]⟩,
  ⟨F_lease_answer, top 30, ["hw", "boot", "number", "address"], ["hw", "boot", "number", "address"]⟩,
  ⟨F_lease_word, top 31, ["octets"], ["octets", "number", "address"]⟩,
  ⟨F_lease_host_start, top 33, ["hw", "boot"], ["hw", "boot"]⟩,
  ⟨F_is_lease_host, top 34, ["value"], ["value", "held", "one"]⟩,
  ⟨F_is_ask_pair, top 35, ["value"], ["value", "one"]⟩,
  ⟨F_is_held, top 36, ["value"], ["value"]⟩,
  ⟨F_lease_held, top 37, ["state"], ["state"]⟩,
  ⟨F_lease_host_step, top 38, ["state", "event"], ["state", "event"]⟩,
  ⟨F_is_frame, top 39, ["value"], ["value"]⟩,
  ⟨F_host_tick, top 40, ["state"], ["state", "kind", "hw", "boot", "ticks", "number", "asks", "held", "outs"]⟩,
  ⟨F_is_asking, top 41, ["ticks", "asks", "held"], ["ticks", "asks", "held"]⟩,
  ⟨F_host_answer, top 42, ["state", "word"], ["state", "word", "kind", "hw", "boot", "ticks", "number", "asks", "held", "told", "one", "tick"]⟩,
  ⟨F__law_draw, top 44, ["tape", "many"], ["tape", "many", "cell", "digit"]⟩,
  ⟨F__law_row, top 45, ["first", "step", "end"], ["first", "step", "end", "k"]⟩,
  ⟨F__law_run, top 46, ["hw", "boot", "answers", "ticks"], ["hw", "boot", "answers", "ticks", "state", "asks", "turns", "tick", "outs", "way", "value", "number", "address", "one"]⟩,
  ⟨F__law_late, top 47, ["tape", "hw", "boot", "one", "other"], ["tape", "hw", "boot", "one", "other", "late", "end", "told", "early", "asks"]⟩,
  ⟨F__law_renewed, top 48, ["tape", "hw", "boot", "one", "other"], ["tape", "hw", "boot", "one", "other", "often", "end", "last", "answers", "silent", "again", "tick", "held", "told", "asks", "turns", "k", "at"]⟩,
  ⟨F__law_never, top 49, ["hw", "boot"], ["hw", "boot", "other", "told", "state", "outs", "later", "more", "elder", "others"]⟩,
  ⟨F_law, top 50, ["script"], ["script", "tape", "hw", "boot", "one", "other"]⟩]
def pr : Pr := ⟨fds.map fun d => (d.fn.name, d.fn.np), gl⟩
end K34
set_option Elab.async false
set_option linter.all false
set_option autoImplicit false
set_option maxRecDepth 100000
set_option maxHeartbeats 1000000
namespace K34
open PySem PySem.Spec L2 PV
open PyProof.Rows hiding St
abbrev P : List Fn := fds.map Fd.fn
theorem callN_eq (n f : Nat) (ds : List D) (s : S) (fn : Fn) (h : P[f]? = some fn) (hl : ds.length = fn.np) : callN P (n + 1) f ds s = (match exs (callN P n) fn.body (ds.map .val ++ List.replicate (fn.ns - fn.np) .no) s with
  | some (.ret d, s') => some (d, s')
  | some (.nx _, s') => some (.non, s')
  | _ => none) := by
  show (match P[f]? with
    | none => M.fail
    | some fn => if ds.length = fn.np then M.bind (exs (callN P n) fn.body (ds.map Slot.val ++ List.replicate (fn.ns - fn.np) Slot.no)) fun o => (match o with
      | .ret d => M.pure d
      | .nx _ => M.pure .non
      | _ => M.fail) else M.fail) s = _
  rw [h]
  simp only [if_pos hl]
  unfold M.bind
  cases exs (callN P n) fn.body (ds.map Slot.val ++ List.replicate (fn.ns - fn.np) Slot.no) s with
  | none => rfl
  | some r =>
    obtain ⟨o, s'⟩ := r
    cases o <;> rfl
theorem is_count_ok (n : Nat) (i : Int) (s : S) : callN P (n + 1) 0 [.int i] s = some (.bl (decide (0 ≤ i)), s) := by
  rw [callN_eq n 0 _ s F_is_count rfl rfl]
  simp [F_is_count, exs, ex, ev, evs, M.bind, M.pure, M.of, M.fail, Env.get, isTy, tru, cop]
theorem is_octet_ok (n : Nat) (i : Int) (s : S) : callN P (n + 2) 1 [.int i] s = some (.bl (decide (0 ≤ i ∧ i < 256)), s) := by
  rw [callN_eq (n + 1) 1 _ s F_is_octet rfl rfl]
  by_cases h : 0 ≤ i <;> simp [F_is_octet, exs, ex, ev, evs, M.bind, M.pure, M.of, M.fail, Env.get, isTy, tru, cop, is_count_ok, h]
theorem is_hardware_ok (n : Nat) (i : Int) (s : S) : callN P (n + 2) 8 [.int i] s = some (.bl (decide (1 ≤ i ∧ i ≤ 200)), s) := by
  rw [callN_eq (n + 1) 8 _ s F_is_hardware rfl rfl]
  by_cases h : 0 ≤ i
  · by_cases h1 : 1 ≤ i <;> simp [F_is_hardware, exs, ex, ev, evs, M.bind, M.pure, M.of, M.fail, Env.get, isTy, tru, cop, is_count_ok, h, h1]
  · simp [F_is_hardware, exs, ex, ev, evs, M.bind, M.pure, M.of, M.fail, Env.get, isTy, tru, cop, is_count_ok, h]
    omega
theorem is_boot_ok (n : Nat) (i : Int) (s : S) : callN P (n + 2) 9 [.int i] s = some (.bl (decide (1 ≤ i ∧ i ≤ 201)), s) := by
  rw [callN_eq (n + 1) 9 _ s F_is_boot rfl rfl]
  by_cases h : 0 ≤ i
  · by_cases h1 : 1 ≤ i <;> simp [F_is_boot, exs, ex, ev, evs, M.bind, M.pure, M.of, M.fail, Env.get, isTy, tru, cop, is_count_ok, h, h1]
  · simp [F_is_boot, exs, ex, ev, evs, M.bind, M.pure, M.of, M.fail, Env.get, isTy, tru, cop, is_count_ok, h]
    omega
/-- two octets of a number -/
theorem octet_pairs_ok (n : Nat) (i : Int) (s : S) : callN P (n + 1) 3 [.int i, .int 2] s = some (.tup [.int (Builtin.bitAnd (i / 256) 255), .int (Builtin.bitAnd i 255)], s) := by
  rw [callN_eq n 3 _ s F_octet_pairs rfl rfl]
  simp [F_octet_pairs, exs, ex, ev, evs, evP, evI, tests, M.bind, M.pure, M.of, M.fail, Env.get, Env.bor, isTy, tru, cop, bop, PV.bi, PV.bind, PV.binds, wipeE, consO, PV.small64, line, mkS, asPart, okD, okDs, eqD, eqDs, sub, subM, slc, meM, meK, evPs, PV.forM, freezeE, PV.isNon, pmod, pdiv, PV.putAt, sameD, rngOk, rngD, mapMd, List.range, List.range.loop]
theorem is_address_ok (n : Nat) (a b : Int) (s : S) (h1 : 1 ≤ a) (h2 : a ≤ 30) (h3 : 1 ≤ b) (h4 : b ≤ 250) : callN P (n + 2) 5 [.tup [.int a, .int b]] s = some (.bl true, s) := by
  rw [callN_eq (n + 1) 5 _ s F_is_address rfl rfl]
  have g1 : 0 ≤ a := by omega
  have g2 : 0 ≤ b := by omega
  simp [F_is_address, exs, ex, ev, evs, evP, evI, tests, M.bind, M.pure, M.of, M.fail, Env.get, Env.bor, isTy, tru, cop, bop, PV.bi, PV.bind, PV.binds, wipeE, consO, PV.small64, line, mkS, asPart, okD, okDs, eqD, eqDs, sub, subM, slc, meM, meK, evPs, PV.forM, freezeE, PV.isNon, pmod, pdiv, PV.putAt, sameD, blL, mapMd, is_count_ok, h1, h2, h3, h4, g1, g2, seqAt]
/-! ### drawing -/
def Tape (ns : List Int) (i x seed : Int) : S := [.lst [.lst (ns.map .int), .int i, .int x, .int seed]]
def TapeOk (s : S) : Prop := ∃ ns i x seed, s = Tape ns i x seed ∧ ns.length ≤ 63 ∧ 0 ≤ i ∧ 0 ≤ x ∧ 0 ≤ seed
/-- the cell that is looked at -/
def cellAt (ns : List Int) (i : Int) : Int := if i < (ns.length : Int) then (if ns.getD i.toNat 0 < 0 then -(ns.getD i.toNat 0) else ns.getD i.toNat 0) else 0
theorem cellAt_pos (ns : List Int) (i : Int) : 0 ≤ cellAt ns i := by
  unfold cellAt
  split
  · split <;> omega
  · omega
theorem draw_a (n : Nat) (ns : List Int) (i seed many : Int) (hl : ns.length ≤ 63) (hi : 0 ≤ i) :
    ex (callN P n) (match F__law_draw.body with | .cons c _ => c | .nil => .pass) [.val (.cel 0), .val (.int many), .no, .no] (Tape ns i 0 seed) =
      some (.nx [.val (.cel 0), .val (.int many), .val (.int (cellAt ns i)), .no], Tape ns (i + 1) (if 10 ^ 18 ≤ cellAt ns i then cellAt ns i else 0) ((seed * 48271 + cellAt ns i * 7919 + 12345) % 2147483647)) := by
  by_cases hin : i < (ns.length : Int)
  · have hin' : i.toNat < ns.length := by omega
    have hg : ns.getD i.toNat 0 = ns[i.toNat] := by rw [List.getD_eq_getElem?_getD, List.getElem?_eq_getElem hin']; rfl
    have hb : i < 4611686018427387904 := by omega
    have hc : cellAt ns i = if ns[i.toNat] < 0 then -ns[i.toNat] else ns[i.toNat] := by unfold cellAt; rw [if_pos hin, hg]
    by_cases hbig : (10 : Int) ^ 18 ≤ cellAt ns i
    · have hbig' : (1000000000000000000 : Int) ≤ cellAt ns i := by omega
      rw [hc] at hbig' ⊢
      simp [Tape, F__law_draw, exs, ex, ev, evs, evP, evI, tests, M.bind, M.pure, M.of, M.fail, Env.get, Env.bor, isTy, tru, cop, bop, PV.bi, PV.bind, PV.binds, wipeE, consO, PV.small64, line, mkS, asPart, okD, okDs, eqD, eqDs, sub, subM, slc, meM, meK, evPs, PV.forM, freezeE, PV.isNon, pmod, pdiv, PV.putAt, sameD, seqAt, hin, hin', hi, hb, line, hbig', decide_eq_true hbig']
    · have hbig' : ¬ (1000000000000000000 : Int) ≤ cellAt ns i := by omega
      rw [hc] at hbig' ⊢
      simp [Tape, F__law_draw, exs, ex, ev, evs, evP, evI, tests, M.bind, M.pure, M.of, M.fail, Env.get, Env.bor, isTy, tru, cop, bop, PV.bi, PV.bind, PV.binds, wipeE, consO, PV.small64, line, mkS, asPart, okD, okDs, eqD, eqDs, sub, subM, slc, meM, meK, evPs, PV.forM, freezeE, PV.isNon, pmod, pdiv, PV.putAt, sameD, seqAt, hin, hin', hi, hb, line, hbig', decide_eq_false hbig']
  · have hc : cellAt ns i = 0 := by unfold cellAt; rw [if_neg hin]
    rw [hc]
    simp [Tape, F__law_draw, exs, ex, ev, evs, evP, evI, tests, M.bind, M.pure, M.of, M.fail, Env.get, Env.bor, isTy, tru, cop, bop, PV.bi, PV.bind, PV.binds, wipeE, consO, PV.small64, line, mkS, asPart, okD, okDs, eqD, eqDs, sub, subM, slc, meM, meK, evPs, PV.forM, freezeE, PV.isNon, pmod, pdiv, PV.putAt, sameD, seqAt, hin, line]
theorem draw_b (n : Nat) (ns : List Int) (i x seed many : Int) (sl : Slot) (h1 : 1 ≤ many) (h2 : many < 1073741824) :
    exs (callN P n) (match F__law_draw.body with | .cons _ c => c | .nil => .nil) [.val (.cel 0), .val (.int many), sl, .no] (Tape ns i x seed) =
      if 0 < x then some (.ret (.int (x % many)), Tape ns i (x / many) seed) else some (.ret (.int (seed / 7 % many)), Tape ns i x seed) := by
  have e1 : 0 < many := by omega
  have e2 : ¬ many = 0 := by omega
  have e3 : many.natAbs < 1073741824 := by omega
  by_cases hx : 0 < x
  · rw [if_pos hx]
    simp [Tape, F__law_draw, exs, ex, ev, evs, evP, evI, tests, M.bind, M.pure, M.of, M.fail, Env.get, Env.bor, isTy, tru, cop, bop, PV.bi, PV.bind, PV.binds, wipeE, consO, PV.small64, line, mkS, asPart, okD, okDs, eqD, eqDs, sub, subM, slc, meM, meK, evPs, PV.forM, freezeE, PV.isNon, pmod, pdiv, PV.putAt, sameD, seqAt, line, hx, e1, e2, e3]
  · rw [if_neg hx]
    simp [Tape, F__law_draw, exs, ex, ev, evs, evP, evI, tests, M.bind, M.pure, M.of, M.fail, Env.get, Env.bor, isTy, tru, cop, bop, PV.bi, PV.bind, PV.binds, wipeE, consO, PV.small64, line, mkS, asPart, okD, okDs, eqD, eqDs, sub, subM, slc, meM, meK, evPs, PV.forM, freezeE, PV.isNon, pmod, pdiv, PV.putAt, sameD, seqAt, line, hx, e1, e2, e3]
theorem draw_c (n : Nat) (ns : List Int) (i x seed many : Int) (hx : ¬ x = 0) :
    ex (callN P n) (match F__law_draw.body with | .cons c _ => c | .nil => .pass) [.val (.cel 0), .val (.int many), .no, .no] (Tape ns i x seed) = some (.nx [.val (.cel 0), .val (.int many), .no, .no], Tape ns i x seed) := by
  simp [Tape, F__law_draw, exs, ex, ev, evs, evP, evI, tests, M.bind, M.pure, M.of, M.fail, Env.get, Env.bor, isTy, tru, cop, bop, PV.bi, PV.bind, PV.binds, wipeE, consO, PV.small64, line, mkS, asPart, okD, okDs, eqD, eqDs, sub, subM, slc, meM, meK, evPs, PV.forM, freezeE, PV.isNon, pmod, pdiv, PV.putAt, sameD, seqAt, line, hx]
theorem draw_ok (n : Nat) (s : S) (many : Int) (h : TapeOk s) (h1 : 1 ≤ many) (h2 : many < 1073741824) : ∃ d s', callN P (n + 1) 23 [.cel 0, .int many] s = some (.int d, s') ∧ 0 ≤ d ∧ d < many ∧ TapeOk s' := by
  obtain ⟨ns, i, x, seed, rfl, hl, hi, hx, hs⟩ := h
  rw [callN_eq n 23 _ _ F__law_draw rfl rfl]
  have hb : exs (callN P n) F__law_draw.body ([D.cel 0, D.int many].map Slot.val ++ List.replicate (F__law_draw.ns - F__law_draw.np) Slot.no) (Tape ns i x seed) =
      M.bind (ex (callN P n) (match F__law_draw.body with | .cons c _ => c | .nil => .pass) [.val (.cel 0), .val (.int many), .no, .no]) (fun o => match o with
        | .nx ρ' => exs (callN P n) (match F__law_draw.body with | .cons _ c => c | .nil => .nil) ρ'
        | o => M.pure o) (Tape ns i x seed) := rfl
  rw [hb]
  have e1 : 0 < many := by omega
  have e2 : many ≠ 0 := by omega
  have fin : ∀ (sl : Slot) (i' x' seed' : Int), 0 ≤ i' → 0 ≤ x' → 0 ≤ seed' → ∃ d s', (match exs (callN P n) (match F__law_draw.body with | .cons _ c => c | .nil => .nil) [.val (.cel 0), .val (.int many), sl, .no] (Tape ns i' x' seed') with
      | some (.ret d, s') => some (d, s')
      | some (.nx _, s') => some (.non, s')
      | _ => none) = some (.int d, s') ∧ 0 ≤ d ∧ d < many ∧ TapeOk s' := by
    intro sl i' x' seed' hi' hx' hs'
    rw [draw_b n ns i' x' seed' many sl h1 h2]
    by_cases hp : 0 < x'
    · rw [if_pos hp]
      exact ⟨_, _, rfl, Int.emod_nonneg _ e2, Int.emod_lt_of_pos _ e1, ns, i', x' / many, seed', rfl, hl, hi', Int.ediv_nonneg hx' (by omega), hs'⟩
    · rw [if_neg hp]
      exact ⟨_, _, rfl, Int.emod_nonneg _ e2, Int.emod_lt_of_pos _ e1, ns, i', x', seed', rfl, hl, hi', hx', hs'⟩
  unfold M.bind
  by_cases x0 : x = 0
  · subst x0
    rw [draw_a n ns i seed many hl hi]
    have hc := cellAt_pos ns i
    exact fin _ _ _ _ (by omega) (by split <;> omega) (by omega)
  · rw [draw_c n ns i x seed many x0]
    exact fin _ _ _ _ hi hx hs
/-! ### plain arithmetic -/
theorem and255 {i : Int} (h : 0 ≤ i) : Builtin.bitAnd i 255 = i % 256 := by
  rw [bitAnd_pp h (by decide)]
  have e : (i.toNat &&& (255 : Int).toNat) = i.toNat % 256 := by
    have := Nat.and_two_pow_sub_one_eq_mod i.toNat 8
    simpa using this
  rw [e]
  omega
theorem octs {i : Int} (h : 0 ≤ i) (h2 : i < 65536) : 256 * Builtin.bitAnd (i / 256) 255 + Builtin.bitAnd i 255 = i ∧ 0 ≤ Builtin.bitAnd (i / 256) 255 ∧ Builtin.bitAnd (i / 256) 255 < 256 ∧ 0 ≤ Builtin.bitAnd i 255 ∧ Builtin.bitAnd i 255 < 256 := by
  rw [and255 h, and255 (by omega)]
  omega
theorem mapMd_pure (f : D → M (Option D)) (g : D → Option D) : ∀ (l : List D) (s : S), (∀ d ∈ l, f d s = some (g d, s)) → mapMd f l s = some (l.filterMap g, s)
  | [], s, _ => rfl
  | d :: ds, s, h => by
    unfold mapMd
    simp only [h d (List.mem_cons_self ..), mapMd_pure f g ds s fun x hx => h x (List.mem_cons_of_mem _ hx)]
    cases e : g d <;> simp [consO, e]
theorem M.bind_of {α β : Type} {m : M α} {f : α → M β} {s s1 : S} {a : α} (h : m s = some (a, s1)) : M.bind m f s = f a s1 := by
  unfold M.bind; rw [h]
theorem ev_comp {call : Nat → List D → M D} {own : List Nat} {g : Tg} {it : PV.It} {ifs : Es} {elt : E} {b : Bool} {ρ : PV.Env} {s : S} {items : List D} (gf : D → Option D) (hI : evI call it true ρ s = some (items, s))
    (h : ∀ d ∈ items, (M.bind (M.of (PV.bind g d (wipeE ρ own))) fun ρ' => M.bind (tests call ifs ρ') fun t => if t then M.bind (ev call elt false ρ') fun y => M.pure (some y) else M.pure none) s = some (gf d, s)) (hl : (items.filterMap gf).length ≤ line) :
    ev call (.comp own g it ifs elt) b ρ s = some (.lst (items.filterMap gf), s) := by
  show M.bind (evI call it true ρ) (fun items => M.bind (mapMd (fun d => M.bind (M.of (PV.bind g d (wipeE ρ own))) fun ρ' => M.bind (tests call ifs ρ') fun t => if t then M.bind (ev call elt false ρ') fun y => M.pure (some y) else M.pure none) items) fun r => if r.length ≤ line then M.pure (D.lst r) else M.fail) s = _
  rw [M.bind_of hI, M.bind_of (mapMd_pure _ gf _ _ h), if_pos hl]
  rfl
theorem okDs_map {α : Type} (n : Nat) (f : α → D) : ∀ (l : List α), (∀ x ∈ l, okD n (f x) = true) → okDs n (l.map f) = true
  | [], _ => by cases n <;> rfl
  | x :: xs, h => by
    have h1 := h x (List.mem_cons_self ..)
    have h2 := okDs_map n f xs fun y hy => h y (List.mem_cons_of_mem _ hy)
    cases n with
    | zero => simp [okD] at h1
    | succ n => simp [okDs, h1, h2]
theorem sq0 (a : D) (xs : List D) : seqAt (a :: xs) 0 = some a := rfl
theorem sq1 (a b : D) (xs : List D) : seqAt (a :: b :: xs) 1 = some b := rfl
theorem sq2 (a b c : D) (xs : List D) : seqAt (a :: b :: c :: xs) 2 = some c := rfl
theorem sq3 (a b c d : D) (xs : List D) : seqAt (a :: b :: c :: d :: xs) 3 = some d := rfl
theorem sq4 (a b c d e : D) (xs : List D) : seqAt (a :: b :: c :: d :: e :: xs) 4 = some e := rfl
theorem sq5 (a b c d e f : D) (xs : List D) : seqAt (a :: b :: c :: d :: e :: f :: xs) 5 = some f := rfl
theorem sq6 (a b c d e f g : D) (xs : List D) : seqAt (a :: b :: c :: d :: e :: f :: g :: xs) 6 = some g := rfl
/-! ### the host -/
def pairD (p : Int × Int) : D := .tup [.int p.1, .int p.2]
abbrev Held := Option ((Int × Int) × Int)
def heldD : Held → D
  | none => .non
  | some (a, t) => .tup [pairD a, .int t]
/-- a state of the host -/
def stD (hw boot t num : Int) (asks : List (Int × Int)) (held : Held) : D := .tup [.str "lease host", .int hw, .int boot, .int t, .int num, .tup (asks.map pairD), heldD held]
def o1 (i : Int) : Int := Builtin.bitAnd (i / 256) 255
def o2 (i : Int) : Int := Builtin.bitAnd i 255
theorem lease_ask_ok (n : Nat) (hw boot num : Int) (s : S) : callN P (n + 2) 10 [.int hw, .int boot, .int num] s = some (.tup [.int 1, .int hw, .int boot, .int (o1 num), .int (o2 num)], s) := by
  rw [callN_eq (n + 1) 10 _ s F_lease_ask rfl rfl]
  simp [F_lease_ask, exs, ex, ev, evs, evP, evI, tests, M.bind, M.pure, M.of, M.fail, Env.get, Env.bor, isTy, tru, cop, bop, PV.bi, PV.bind, PV.binds, wipeE, consO, PV.small64, line, mkS, asPart, okD, okDs, eqD, eqDs, sub, subM, slc, meM, meK, evPs, PV.forM, freezeE, PV.isNon, pmod, pdiv, PV.putAt, sameD, octet_pairs_ok, o1, o2]
theorem lease_answer_ok (n : Nat) (hw boot num a b : Int) (s : S) (h1 : 1 ≤ a) (h2 : a ≤ 30) (h3 : 1 ≤ b) (h4 : b ≤ 250) :
    callN P (n + 4) 11 [.int hw, .int boot, .int num, .tup [.int a, .int b]] s = some (.tup [.int 2, .int hw, .int boot, .int (o1 num), .int (o2 num), .int a, .int b], s) := by
  have e : callN P (n + 3) 6 [.tup [.int a, .int b]] s = some (.tup [.int a, .int b], s) := by
    rw [callN_eq (n + 2) 6 _ s F_address_octets rfl rfl]
    simp [F_address_octets, exs, ex, ev, evs, evP, evI, tests, M.bind, M.pure, M.of, M.fail, Env.get, Env.bor, isTy, tru, cop, bop, PV.bi, PV.bind, PV.binds, wipeE, consO, PV.small64, line, mkS, asPart, okD, okDs, eqD, eqDs, sub, subM, slc, meM, meK, evPs, PV.forM, freezeE, PV.isNon, pmod, pdiv, PV.putAt, sameD, is_address_ok, h1, h2, h3, h4]
  rw [callN_eq (n + 3) 11 _ s F_lease_answer rfl rfl]
  simp [F_lease_answer, exs, ex, ev, evs, evP, evI, tests, M.bind, M.pure, M.of, M.fail, Env.get, Env.bor, isTy, tru, cop, bop, PV.bi, PV.bind, PV.binds, wipeE, consO, PV.small64, line, mkS, asPart, okD, okDs, eqD, eqDs, sub, subM, slc, meM, meK, evPs, PV.forM, freezeE, PV.isNon, pmod, pdiv, PV.putAt, sameD, octet_pairs_ok, e, o1, o2]
theorem lease_host_start_ok (n : Nat) (hw boot : Int) (s : S) (h1 : 1 ≤ hw) (h2 : hw ≤ 200) (h3 : 1 ≤ boot) (h4 : boot ≤ 201) : callN P (n + 3) 13 [.int hw, .int boot] s = some (stD hw boot 0 0 [] none, s) := by
  rw [callN_eq (n + 2) 13 _ s F_lease_host_start rfl rfl]
  simp [F_lease_host_start, exs, ex, ev, evs, evP, evI, tests, M.bind, M.pure, M.of, M.fail, Env.get, Env.bor, isTy, tru, cop, bop, PV.bi, PV.bind, PV.binds, wipeE, consO, PV.small64, line, mkS, asPart, okD, okDs, eqD, eqDs, sub, subM, slc, meM, meK, evPs, PV.forM, freezeE, PV.isNon, pmod, pdiv, PV.putAt, sameD, is_hardware_ok, is_boot_ok, h1, h2, h3, h4, stD, heldD]
theorem is_ask_pair_ok (n : Nat) (p : Int × Int) (s : S) (h1 : 0 ≤ p.1) (h2 : p.1 < 65536) (h3 : 0 ≤ p.2) : callN P (n + 2) 15 [pairD p] s = some (.bl true, s) := by
  rw [callN_eq (n + 1) 15 _ s F_is_ask_pair rfl rfl]
  simp [F_is_ask_pair, exs, ex, ev, evs, evP, evI, tests, M.bind, M.pure, M.of, M.fail, Env.get, Env.bor, isTy, tru, cop, bop, PV.bi, PV.bind, PV.binds, wipeE, consO, PV.small64, line, mkS, asPart, okD, okDs, eqD, eqDs, sub, subM, slc, meM, meK, evPs, PV.forM, freezeE, PV.isNon, pmod, pdiv, PV.putAt, sameD, blL, mapMd, is_count_ok, pairD, h1, h2, h3, seqAt]
theorem is_held_ok (n : Nat) (a : Int × Int) (t : Int) (s : S) (h1 : 1 ≤ a.1) (h2 : a.1 ≤ 30) (h3 : 1 ≤ a.2) (h4 : a.2 ≤ 250) (h5 : 0 ≤ t) : callN P (n + 3) 16 [.tup [pairD a, .int t]] s = some (.bl true, s) := by
  rw [callN_eq (n + 2) 16 _ s F_is_held rfl rfl]
  simp [F_is_held, exs, ex, ev, evs, evP, evI, tests, M.bind, M.pure, M.of, M.fail, Env.get, Env.bor, isTy, tru, cop, bop, PV.bi, PV.bind, PV.binds, wipeE, consO, PV.small64, line, mkS, asPart, okD, okDs, eqD, eqDs, sub, subM, slc, meM, meK, evPs, PV.forM, freezeE, PV.isNon, pmod, pdiv, PV.putAt, sameD, is_count_ok, pairD, is_address_ok, h1, h2, h3, h4, h5, seqAt]
theorem lease_held_ok (n : Nat) (hw boot t num : Int) (asks : List (Int × Int)) (held : Held) (s : S) : callN P (n + 1) 17 [stD hw boot t num asks held] s = some (match held with
    | none => .non
    | some (a, _) => pairD a, s) := by
  rw [callN_eq n 17 _ s F_lease_held rfl rfl]
  cases held with
  | none => simp [F_lease_held, exs, ex, ev, evs, evP, evI, tests, M.bind, M.pure, M.of, M.fail, Env.get, Env.bor, isTy, tru, cop, bop, PV.bi, PV.bind, PV.binds, wipeE, consO, PV.small64, line, mkS, asPart, okD, okDs, eqD, eqDs, sub, subM, slc, meM, meK, evPs, PV.forM, freezeE, PV.isNon, pmod, pdiv, PV.putAt, sameD, stD, heldD, seqAt]
  | some h => obtain ⟨a, t'⟩ := h; simp [F_lease_held, exs, ex, ev, evs, evP, evI, tests, M.bind, M.pure, M.of, M.fail, Env.get, Env.bor, isTy, tru, cop, bop, PV.bi, PV.bind, PV.binds, wipeE, consO, PV.small64, line, mkS, asPart, okD, okDs, eqD, eqDs, sub, subM, slc, meM, meK, evPs, PV.forM, freezeE, PV.isNon, pmod, pdiv, PV.putAt, sameD, stD, heldD, seqAt, pairD]
/-- whether a host asks -/
def asking (t : Int) (asks : List (Int × Int)) (held : Held) : Bool :=
  (match held with
  | some (_, h) => decide (h + 100 ≤ t)
  | none => true) && (match asks.getLast? with
  | none => true
  | some p => decide (p.2 + 12 ≤ t))
theorem last_at (asks : List (Int × Int)) (p : Int × Int) (h : asks.getLast? = some p) : seqAt (asks.map pairD) (-1) = some (pairD p) := by
  have hne : asks ≠ [] := fun e => by rw [e] at h; cases h
  have hl : 0 < asks.length := List.length_pos_iff.mpr hne
  unfold seqAt
  rw [if_neg (by decide), if_pos (by rw [List.length_map]; omega), List.length_map]
  have e : ((-1 : Int) + (asks.length : Int)).toNat = asks.length - 1 := by omega
  rw [e, List.getElem?_map, ← List.getLast?_eq_getElem?, h]
  rfl
theorem is_asking_ok (n : Nat) (t : Int) (asks : List (Int × Int)) (held : Held) (s : S) : callN P (n + 1) 21 [.int t, .tup (asks.map pairD), heldD held] s = some (.bl (asking t asks held), s) := by
  rw [callN_eq n 21 _ s F_is_asking rfl rfl]
  have tl : ∀ (c : D → M D), True := fun _ => trivial
  cases hl : asks.getLast? with
  | none =>
    have e : asks = [] := List.getLast?_eq_none_iff.mp hl
    subst e
    cases held with
    | none => simp [F_is_asking, exs, ex, ev, evs, evP, evI, tests, M.bind, M.pure, M.of, M.fail, Env.get, Env.bor, isTy, tru, cop, bop, PV.bi, PV.bind, PV.binds, wipeE, consO, PV.small64, line, mkS, asPart, okD, okDs, eqD, eqDs, sub, subM, slc, meM, meK, evPs, PV.forM, freezeE, PV.isNon, pmod, pdiv, PV.putAt, sameD, heldD, asking]
    | some h =>
      obtain ⟨a, t'⟩ := h
      by_cases c : t < t' + 100
      · have c' : ¬ (t' + 100 ≤ t) := by omega
        simp [F_is_asking, exs, ex, ev, evs, evP, evI, tests, M.bind, M.pure, M.of, M.fail, Env.get, Env.bor, isTy, tru, cop, bop, PV.bi, PV.bind, PV.binds, wipeE, consO, PV.small64, line, mkS, asPart, okD, okDs, eqD, eqDs, sub, subM, slc, meM, meK, evPs, PV.forM, freezeE, PV.isNon, pmod, pdiv, PV.putAt, sameD, heldD, asking, seqAt, c, c']
      · have c' : t' + 100 ≤ t := by omega
        simp [F_is_asking, exs, ex, ev, evs, evP, evI, tests, M.bind, M.pure, M.of, M.fail, Env.get, Env.bor, isTy, tru, cop, bop, PV.bi, PV.bind, PV.binds, wipeE, consO, PV.small64, line, mkS, asPart, okD, okDs, eqD, eqDs, sub, subM, slc, meM, meK, evPs, PV.forM, freezeE, PV.isNon, pmod, pdiv, PV.putAt, sameD, heldD, asking, seqAt, c, c']
  | some p =>
    have la := last_at asks p hl
    have hne : asks ≠ [] := fun e => by rw [e] at hl; cases hl
    have ok : okDs 59 (asks.map pairD) = true := okDs_map 59 pairD asks fun x _ => by simp [pairD, okD, okDs]
    have en : eqDs (asks.map pairD) [] = false := by
      cases asks with
      | nil => exact absurd rfl hne
      | cons q qs => rfl
    have l1 : seqAt [D.int p.1, D.int p.2] 1 = some (D.int p.2) := rfl
    generalize asks.map pairD = L at la ok en ⊢
    cases held with
    | none => simp [F_is_asking, exs, ex, ev, evs, evP, evI, tests, M.bind, M.pure, M.of, M.fail, Env.get, Env.bor, isTy, tru, cop, bop, PV.bi, PV.bind, PV.binds, wipeE, consO, PV.small64, line, mkS, asPart, okD, okDs, eqD, eqDs, sub, subM, slc, meM, meK, evPs, PV.forM, freezeE, PV.isNon, pmod, pdiv, PV.putAt, sameD, heldD, asking, hl, la, ok, en, pairD, sq1]
    | some h =>
      obtain ⟨a, t'⟩ := h
      by_cases c : t < t' + 100
      · have c' : ¬ (t' + 100 ≤ t) := by omega
        simp [F_is_asking, exs, ex, ev, evs, evP, evI, tests, M.bind, M.pure, M.of, M.fail, Env.get, Env.bor, isTy, tru, cop, bop, PV.bi, PV.bind, PV.binds, wipeE, consO, PV.small64, line, mkS, asPart, okD, okDs, eqD, eqDs, sub, subM, slc, meM, meK, evPs, PV.forM, freezeE, PV.isNon, pmod, pdiv, PV.putAt, sameD, heldD, asking, sq1, c, c']
      · have c' : t' + 100 ≤ t := by omega
        simp [F_is_asking, exs, ex, ev, evs, evP, evI, tests, M.bind, M.pure, M.of, M.fail, Env.get, Env.bor, isTy, tru, cop, bop, PV.bi, PV.bind, PV.binds, wipeE, consO, PV.small64, line, mkS, asPart, okD, okDs, eqD, eqDs, sub, subM, slc, meM, meK, evPs, PV.forM, freezeE, PV.isNon, pmod, pdiv, PV.putAt, sameD, heldD, asking, hl, la, ok, en, pairD, sq1, c, c']
def last17 (l : List (Int × Int)) : List (Int × Int) := l.drop (l.length - 17)
theorem cut17 (l : List (Int × Int)) : cut (l.map pairD) (some (-17)) none = (last17 l).map pairD := by
  unfold cut last17
  have h1 : HT.sIx (l.map pairD).length 0 (some (-17)) = l.length - 17 := by
    unfold HT.sIx
    simp
    omega
  have h2 : HT.sIx (l.map pairD).length (l.map pairD).length none = l.length := by
    unfold HT.sIx
    simp
  rw [h1, h2, ← List.map_drop, ← List.map_take]
  congr 1
  exact List.take_of_length_le (by rw [List.length_drop]; exact Nat.le_refl _)
def expire (t : Int) (held : Held) : Bool := match held with
  | some (_, h) => decide (h + 200 ≤ t)
  | none => false
def tickHeld (t : Int) (held : Held) : Held := if expire t held then none else held
def outAddr (a : D) : D := .tup [.str "up", .tup [.str "address", a]]
def outAsk (hw boot num : Int) : D := .tup [.str "down", .tup [.int 255, .tup [.int 1, .int hw, .int boot, .int (o1 num), .int (o2 num)]]]
/-- what a tick makes -/
theorem host_tick_ok (n : Nat) (hw boot t num : Int) (asks : List (Int × Int)) (held : Held) (s : S) (hl : asks.length ≤ 17) : callN P (n + 3) 20 [stD hw boot t num asks held] s =
    some (.tup [stD hw boot (t + 1) (if asking (t + 1) asks (tickHeld (t + 1) held) then (num + 1) % 65536 else num) (if asking (t + 1) asks (tickHeld (t + 1) held) then last17 (asks ++ [(num, t + 1)]) else asks) (tickHeld (t + 1) held),
      .tup ((if expire (t + 1) held then [outAddr .non] else []) ++ if asking (t + 1) asks (tickHeld (t + 1) held) then [outAsk hw boot num] else [])], s) := by
  rw [callN_eq (n + 2) 20 _ s F_host_tick rfl rfl]
  have ask := fun (t : Int) (h : Held) => is_asking_ok (n + 1) t asks h s
  have hc : cut (asks.map pairD ++ [D.tup [D.int num, D.int (t + 1)]]) (some (-17)) none = (last17 (asks ++ [(num, t + 1)])).map pairD := by
    have := cut17 (asks ++ [(num, t + 1)])
    rw [List.map_append] at this
    exact this
  have hlen : (asks.map pairD).length + 1 ≤ 16777216 := by rw [List.length_map]; omega
  have a1 := fun (h : Held) => is_asking_ok (n + 1) (t + 1) asks h s
  have a2 : callN P (n + 2) 21 [.int (t + 1), .tup (asks.map pairD), .non] s = some (.bl (asking (t + 1) asks none), s) := a1 none
  have a3 := fun (x : D) (h : Int) (p : Int × Int) (e : x = pairD p) => a1 (some (p, h))
  unfold stD
  generalize hL : asks.map pairD = L at hc hlen a1 a2 ⊢
  cases held with
  | none =>
    have e1 : tickHeld (t + 1) none = none := rfl
    cases c : asking (t + 1) asks none with
    | true =>
      rw [c] at a2
      simp [F_host_tick, exs, ex, ev, evs, evP, evI, tests, M.bind, M.pure, M.of, M.fail, Env.get, Env.bor, isTy, tru, cop, bop, PV.bi, PV.bind, PV.binds, wipeE, consO, PV.small64, line, mkS, asPart, okD, okDs, eqD, eqDs, sub, subM, slc, meM, meK, evPs, PV.forM, freezeE, PV.isNon, pmod, pdiv, PV.putAt, sameD, heldD, a2, c, e1, expire, outAsk, outAddr, lease_ask_ok, sq1, hlen, hc]
    | false =>
      rw [c] at a2
      simp [F_host_tick, exs, ex, ev, evs, evP, evI, tests, M.bind, M.pure, M.of, M.fail, Env.get, Env.bor, isTy, tru, cop, bop, PV.bi, PV.bind, PV.binds, wipeE, consO, PV.small64, line, mkS, asPart, okD, okDs, eqD, eqDs, sub, subM, slc, meM, meK, evPs, PV.forM, freezeE, PV.isNon, pmod, pdiv, PV.putAt, sameD, heldD, a2, c, e1, expire, outAsk, outAddr, lease_ask_ok, sq1, hlen, hL]
  | some h =>
    obtain ⟨p, h⟩ := h
    by_cases x : h + 200 ≤ t + 1
    · have e1 : tickHeld (t + 1) (some (p, h)) = none := by simp [tickHeld, expire, x]
      cases c : asking (t + 1) asks none with
      | true =>
        rw [c] at a2
        simp [F_host_tick, exs, ex, ev, evs, evP, evI, tests, M.bind, M.pure, M.of, M.fail, Env.get, Env.bor, isTy, tru, cop, bop, PV.bi, PV.bind, PV.binds, wipeE, consO, PV.small64, line, mkS, asPart, okD, okDs, eqD, eqDs, sub, subM, slc, meM, meK, evPs, PV.forM, freezeE, PV.isNon, pmod, pdiv, PV.putAt, sameD, heldD, a2, c, e1, expire, outAsk, outAddr, lease_ask_ok, sq1, hlen, hc, x]
      | false =>
        rw [c] at a2
        simp [F_host_tick, exs, ex, ev, evs, evP, evI, tests, M.bind, M.pure, M.of, M.fail, Env.get, Env.bor, isTy, tru, cop, bop, PV.bi, PV.bind, PV.binds, wipeE, consO, PV.small64, line, mkS, asPart, okD, okDs, eqD, eqDs, sub, subM, slc, meM, meK, evPs, PV.forM, freezeE, PV.isNon, pmod, pdiv, PV.putAt, sameD, heldD, a2, c, e1, expire, outAsk, outAddr, lease_ask_ok, sq1, hlen, hL, x]
    · have e1 : tickHeld (t + 1) (some (p, h)) = some (p, h) := by simp [tickHeld, expire, x]
      have a4 : callN P (n + 2) 21 [.int (t + 1), .tup L, .tup [pairD p, .int h]] s = some (.bl (asking (t + 1) asks (some (p, h))), s) := a1 (some (p, h))
      cases c : asking (t + 1) asks (some (p, h)) with
      | true =>
        rw [c] at a4
        simp [F_host_tick, exs, ex, ev, evs, evP, evI, tests, M.bind, M.pure, M.of, M.fail, Env.get, Env.bor, isTy, tru, cop, bop, PV.bi, PV.bind, PV.binds, wipeE, consO, PV.small64, line, mkS, asPart, okD, okDs, eqD, eqDs, sub, subM, slc, meM, meK, evPs, PV.forM, freezeE, PV.isNon, pmod, pdiv, PV.putAt, sameD, heldD, a4, c, e1, expire, outAsk, outAddr, lease_ask_ok, sq1, hlen, hc, x]
      | false =>
        rw [c] at a4
        simp [F_host_tick, exs, ex, ev, evs, evP, evI, tests, M.bind, M.pure, M.of, M.fail, Env.get, Env.bor, isTy, tru, cop, bop, PV.bi, PV.bind, PV.binds, wipeE, consO, PV.small64, line, mkS, asPart, okD, okDs, eqD, eqDs, sub, subM, slc, meM, meK, evPs, PV.forM, freezeE, PV.isNon, pmod, pdiv, PV.putAt, sameD, heldD, a4, c, e1, expire, outAsk, outAddr, lease_ask_ok, sq1, hlen, hL, x]
theorem is_frame_ok (n : Nat) (i : Int) (l : List D) (s : S) (h1 : 1 ≤ i) (h2 : i ≤ 200) : callN P (n + 3) 19 [.tup [.int i, .tup l]] s = some (.bl true, s) := by
  rw [callN_eq (n + 2) 19 _ s F_is_frame rfl rfl]
  simp [F_is_frame, exs, ex, ev, evs, evP, evI, tests, M.bind, M.pure, M.of, M.fail, Env.get, Env.bor, isTy, tru, cop, bop, PV.bi, PV.bind, PV.binds, wipeE, consO, PV.small64, line, mkS, asPart, okD, okDs, eqD, eqDs, sub, subM, slc, meM, meK, evPs, PV.forM, freezeE, PV.isNon, pmod, pdiv, PV.putAt, sameD, is_hardware_ok, sq0, sq1, h1, h2]
theorem step_tick (n : Nat) (hw boot t num : Int) (asks : List (Int × Int)) (held : Held) (s : S) (hl : asks.length ≤ 17) : callN P (n + 4) 18 [stD hw boot t num asks held, .tup [.str "tick"]] s =
    callN P (n + 3) 20 [stD hw boot t num asks held] s := by
  rw [callN_eq (n + 3) 18 _ s F_lease_host_step rfl rfl]
  rw [host_tick_ok n hw boot t num asks held s hl]
  have e : PyData.strOk ("tick" : Str) = true := by decide +kernel
  simp [F_lease_host_step, exs, ex, ev, evs, evP, evI, tests, M.bind, M.pure, M.of, M.fail, Env.get, Env.bor, isTy, tru, cop, bop, PV.bi, PV.bind, PV.binds, wipeE, consO, PV.small64, line, mkS, asPart, okD, okDs, eqD, eqDs, sub, subM, slc, meM, meK, evPs, PV.forM, freezeE, PV.isNon, pmod, pdiv, PV.putAt, sameD, host_tick_ok n hw boot t num asks held s hl, e]
/-! ### answers -/
theorem strok {x : Str} (h : PyData.strOk x = true := by decide +kernel) : PyData.strOk x = true := h
theorem number_of_octets_ok (n : Nat) (a b : Int) (s : S) : callN P (n + 1) 4 [.tup [.int a, .int b]] s = some (.int (256 * a + b), s) := by
  rw [callN_eq n 4 _ s F_number_of_octets rfl rfl]
  simp [F_number_of_octets, exs, ex, ev, evs, evP, evI, tests, M.bind, M.pure, M.of, M.fail, Env.get, Env.bor, isTy, tru, cop, bop, PV.bi, PV.bind, PV.binds, wipeE, consO, PV.small64, line, mkS, asPart, okD, okDs, eqD, eqDs, sub, subM, slc, meM, meK, evPs, PV.forM, freezeE, PV.isNon, pmod, pdiv, PV.putAt, sameD]
theorem lease_word_ok (n : Nat) (hw boot num a b : Int) (s : S) (w1 : 1 ≤ hw) (w2 : hw ≤ 200) (b1 : 1 ≤ boot) (b2 : boot ≤ 201) (n1 : 0 ≤ num) (n2 : num < 65536) (h1 : 1 ≤ a) (h2 : a ≤ 30) (h3 : 1 ≤ b) (h4 : b ≤ 250) :
    callN P (n + 5) 12 [.tup [.int 2, .int hw, .int boot, .int (o1 num), .int (o2 num), .int a, .int b]] s = some (.tup [.str "answer", .int hw, .int boot, .int num, .tup [.int a, .int b]], s) := by
  rw [callN_eq (n + 4) 12 _ s F_lease_word rfl rfl]
  obtain ⟨q1, q2, q3, q4, q5⟩ := octs n1 n2
  have e1 : callN P (n + 4) 2 [.tup [.int 2, .int hw, .int boot, .int (o1 num), .int (o2 num), .int a, .int b]] s = some (.bl true, s) := by
    rw [callN_eq (n + 3) 2 _ s F_are_octets rfl rfl]
    have hh : (0 ≤ hw ∧ hw < 256) ∧ (0 ≤ boot ∧ boot < 256) ∧ (0 ≤ a ∧ a < 256) ∧ (0 ≤ b ∧ b < 256) := by omega
    have ho : (0 ≤ o1 num ∧ o1 num < 256) ∧ (0 ≤ o2 num ∧ o2 num < 256) := ⟨⟨q2, q3⟩, q4, q5⟩
    simp [F_are_octets, exs, ex, ev, evs, evP, evI, tests, M.bind, M.pure, M.of, M.fail, Env.get, Env.bor, isTy, tru, cop, bop, PV.bi, PV.bind, PV.binds, wipeE, consO, PV.small64, line, mkS, asPart, okD, okDs, eqD, eqDs, sub, subM, slc, meM, meK, evPs, PV.forM, freezeE, PV.isNon, pmod, pdiv, PV.putAt, sameD, mapMd, blL, is_octet_ok, hh, ho]
  have e2 : callN P (n + 4) 7 [.tup [.int a, .int b]] s = some (.tup [.int a, .int b], s) := by
    rw [callN_eq (n + 3) 7 _ s F_address_of_octets rfl rfl]
    simp [F_address_of_octets, exs, ex, ev, evs, evP, evI, tests, M.bind, M.pure, M.of, M.fail, Env.get, Env.bor, isTy, tru, cop, bop, PV.bi, PV.bind, PV.binds, wipeE, consO, PV.small64, line, mkS, asPart, okD, okDs, eqD, eqDs, sub, subM, slc, meM, meK, evPs, PV.forM, freezeE, PV.isNon, pmod, pdiv, PV.putAt, sameD, is_address_ok, h1, h2, h3, h4]
  have e3 : 256 * o1 num + o2 num = num := q1
  simp [F_lease_word, exs, ex, ev, evs, evP, evI, tests, M.bind, M.pure, M.of, M.fail, Env.get, Env.bor, isTy, tru, cop, bop, PV.bi, PV.bind, PV.binds, wipeE, consO, PV.small64, line, mkS, asPart, okD, okDs, eqD, eqDs, sub, subM, slc, meM, meK, evPs, PV.forM, freezeE, PV.isNon, pmod, pdiv, PV.putAt, sameD, e1, e2, e3, is_hardware_ok, is_boot_ok, number_of_octets_ok, cut, HT.sIx, sq0, sq1, sq2, w1, w2, b1, b2]
def toldL (num : Int) (asks : List (Int × Int)) : List Int := (asks.filter fun p => p.1 == num).map (·.2)
/-- what an answer makes of what is held -/
def ansHeld (t num : Int) (a : Int × Int) (asks : List (Int × Int)) (held : Held) : Held := match toldL num asks with
  | [] => held
  | k :: _ => if k + 200 ≤ t then held else match held with
    | some (c, h) => if c = a then some (c, if k > h then k else h) else held
    | none => some (a, k)
def ansOut (t num : Int) (a : Int × Int) (asks : List (Int × Int)) (held : Held) : List D := match toldL num asks with
  | [] => []
  | k :: _ => if k + 200 ≤ t then [] else match held with
    | some _ => []
    | none => [outAddr (pairD a)]
theorem told_map (l : List (Int × Int)) (num : Int) : (l.map pairD).filterMap (fun d => match d with | .tup [.int a, .int b] => if a == num then some (D.int b) else none | _ => none) = (toldL num l).map D.int := by
  unfold toldL
  induction l with
  | nil => rfl
  | cons p ps ih =>
    rw [List.map_cons, List.filterMap_cons, List.filter_cons]
    by_cases h : p.1 = num
    · have hb : (p.1 == num) = true := beq_iff_eq.mpr h
      simp only [pairD, hb, if_true, ih, List.map_cons]
    · have hb : (p.1 == num) = false := beq_eq_false_iff_ne.mpr h
      simp only [pairD, hb, Bool.false_eq_true, if_false, ih]
theorem okDs_ints (n : Nat) (l : List Int) : okDs (n + 1) (l.map D.int) = true := okDs_map (n + 1) D.int l fun x _ => rfl
theorem eq_pair (a c : Int × Int) : eqD (pairD a) (pairD c) = decide (a = c) := by
  obtain ⟨a1, a2⟩ := a
  obtain ⟨c1, c2⟩ := c
  by_cases h1 : a1 = c1 <;> by_cases h2 : a2 = c2 <;> simp [pairD, eqD, eqDs, h1, h2]
def toldE : E := (.comp [10, 11] (.tup (.cons (.name 10) (.cons (.name 11) .nil))) (.seq (.var 7)) (.cons (.cmp .eq (.var 10) (.idx (.var 1) (.int 3))) .nil) (.var 11))
def toldE_body : Cs := (.cons (.unpack (.tup (.cons (.name 2) (.cons (.name 3) (.cons (.name 4) (.cons (.name 5) (.cons (.name 6) (.cons (.name 7) (.cons (.name 8) .nil)))))))) (.var 0)) (.cons (.ifs (.or2 (.cmp .is (.var 1) .non) (.or2 (.cmp .ne (.idx (.var 1) (.int 0)) (.str "answer")) (.cmp .ne (.slice (.var 1) (.at (.int 1)) (.at (.int 3))) (.tup (.cons (.var 3) (.cons (.var 4) .nil))))))
    (.cons (.ret (.tup (.cons (.var 0) (.cons (.tup .nil) .nil)))) .nil)
    .nil) (.cons (.set 9 toldE) (.cons (.ifs (.or2 (.cmp .eq (.var 9) (.lst .nil)) (.or2 (.cmp .ge (.var 5) (.bin .add (.idx (.var 9) (.int 0)) (.glob "LEASE_TICKS" (.int 200)))) (.and2 (.cmp .isnot (.var 8) .non) (.cmp .ne (.idx (.var 8) (.int 0)) (.idx (.var 1) (.int 4))))))
    (.cons (.ret (.tup (.cons (.var 0) (.cons (.tup .nil) .nil)))) .nil)
    .nil) (.cons (.ifs (.cmp .isnot (.var 8) .non)
    (.cons (.ret (.tup (.cons (.tup (.cons (.var 2) (.cons (.var 3) (.cons (.var 4) (.cons (.var 5) (.cons (.var 6) (.cons (.var 7) (.cons (.tup (.cons (.idx (.var 8) (.int 0)) (.cons (.blt .max2 (.cons (.idx (.var 8) (.int 1)) (.cons (.idx (.var 9) (.int 0)) .nil))) .nil))) .nil)))))))) (.cons (.tup .nil) .nil)))) .nil)
    .nil) (.cons (.ret (.tup (.cons (.tup (.cons (.var 2) (.cons (.var 3) (.cons (.var 4) (.cons (.var 5) (.cons (.var 6) (.cons (.var 7) (.cons (.tup (.cons (.idx (.var 1) (.int 4)) (.cons (.idx (.var 9) (.int 0)) .nil))) .nil)))))))) (.cons (.tup (.cons (.tup (.cons (.str "up") (.cons (.tup (.cons (.str "address") (.cons (.idx (.var 1) (.int 4)) .nil))) .nil))) .nil)) .nil)))) .nil))))))
theorem toldE_eq : F_host_answer.body = toldE_body := rfl
theorem toldE_ok (n : Nat) (v0 v2 v3 v4 v5 v6 v8 : Slot) (hw boot k : Int) (a : D) (asks : List (Int × Int)) (s : S) (hl : asks.length ≤ 17) :
    ev (callN P n) toldE false [v0, .val (.tup [.str "answer", .int hw, .int boot, .int k, a]), v2, v3, v4, v5, v6, .val (.tup (asks.map pairD)), v8, .no, .no, .no] s = some (.lst ((toldL k asks).map D.int), s) := by
  have hlen : ((toldL k asks).map D.int).length ≤ line := by
    have : (toldL k asks).length ≤ asks.length := by unfold toldL; rw [List.length_map]; exact List.length_filter_le ..
    rw [List.length_map]
    unfold line
    omega
  rw [← told_map] at hlen ⊢
  refine ev_comp _ rfl (fun d hd => ?_) hlen
  obtain ⟨p, _, rfl⟩ := List.mem_map.mp hd
  by_cases h : p.1 = k
  · simp [exs, ex, ev, evs, evP, evI, tests, M.bind, M.pure, M.of, M.fail, Env.get, Env.bor, isTy, tru, cop, bop, PV.bi, PV.bind, PV.binds, wipeE, consO, PV.small64, line, mkS, asPart, okD, okDs, eqD, eqDs, sub, subM, slc, meM, meK, evPs, PV.forM, freezeE, PV.isNon, pmod, pdiv, PV.putAt, sameD, pairD, sq3, h]
  · simp [exs, ex, ev, evs, evP, evI, tests, M.bind, M.pure, M.of, M.fail, Env.get, Env.bor, isTy, tru, cop, bop, PV.bi, PV.bind, PV.binds, wipeE, consO, PV.small64, line, mkS, asPart, okD, okDs, eqD, eqDs, sub, subM, slc, meM, meK, evPs, PV.forM, freezeE, PV.isNon, pmod, pdiv, PV.putAt, sameD, pairD, sq3, h]
theorem host_answer_ok (n : Nat) (hw boot t num k : Int) (a : Int × Int) (asks : List (Int × Int)) (held : Held) (s : S) (hl : asks.length ≤ 17) :
    callN P (n + 1) 22 [stD hw boot t num asks held, .tup [.str "answer", .int hw, .int boot, .int k, pairD a]] s = some (.tup [stD hw boot t num asks (ansHeld t k a asks held), .tup (ansOut t k a asks held)], s) := by
  rw [callN_eq n 22 _ s F_host_answer rfl rfl, toldE_eq]
  have e0 : PyData.strOk ("answer" : Str) = true := by decide +kernel
  have hT := fun (v0 v2 v3 v4 v5 v6 v8 : Slot) => toldE_ok n v0 v2 v3 v4 v5 v6 v8 hw boot k (pairD a) asks s hl
  unfold ansHeld ansOut stD
  have okI := okDs_ints 58 (toldL k asks)
  generalize asks.map pairD = L at hT ⊢
  cases hk : toldL k asks with
  | nil =>
    rw [hk] at hT
    simp [F_host_answer, toldE_body, exs, ex, ev, evs, evP, evI, tests, M.bind, M.pure, M.of, M.fail, Env.get, Env.bor, isTy, tru, cop, bop, PV.bi, PV.bind, PV.binds, wipeE, consO, PV.small64, line, mkS, asPart, okD, okDs, eqD, eqDs, sub, subM, slc, meM, meK, evPs, PV.forM, freezeE, PV.isNon, pmod, pdiv, PV.putAt, sameD, e0, hT, cut, HT.sIx, sq0, sq1]
  | cons q qs =>
    rw [hk] at hT okI
    have okI' : okDs 59 (qs.map D.int) = true := okDs_ints 58 qs
    have okp : okD 60 (pairD a) = true := rfl
    have eqp := fun c : Int × Int => eq_pair c a
    by_cases x : q + 200 ≤ t
    · simp [F_host_answer, toldE_body, exs, ex, ev, evs, evP, evI, tests, M.bind, M.pure, M.of, M.fail, Env.get, Env.bor, isTy, tru, cop, bop, PV.bi, PV.bind, PV.binds, wipeE, consO, PV.small64, line, mkS, asPart, okD, okDs, eqD, eqDs, sub, subM, slc, meM, meK, evPs, PV.forM, freezeE, PV.isNon, pmod, pdiv, PV.putAt, sameD, e0, hT, okI', cut, HT.sIx, sq0, sq1, x]
    · cases held with
      | none =>
        simp [F_host_answer, toldE_body, exs, ex, ev, evs, evP, evI, tests, M.bind, M.pure, M.of, M.fail, Env.get, Env.bor, isTy, tru, cop, bop, PV.bi, PV.bind, PV.binds, wipeE, consO, PV.small64, line, mkS, asPart, okD, okDs, eqD, eqDs, sub, subM, slc, meM, meK, evPs, PV.forM, freezeE, PV.isNon, pmod, pdiv, PV.putAt, sameD, e0, hT, okI', cut, HT.sIx, sq0, sq1, sq4, x, heldD, outAddr]
      | some h =>
        obtain ⟨c, h⟩ := h
        have okc : okD 60 (pairD c) = true := rfl
        by_cases ca : c = a
        · subst ca
          have e1 : eqD (pairD c) (pairD c) = true := (eqp c).trans (decide_eq_true rfl)
          by_cases qh : q > h
          · simp [F_host_answer, toldE_body, exs, ex, ev, evs, evP, evI, tests, M.bind, M.pure, M.of, M.fail, Env.get, Env.bor, isTy, tru, cop, bop, PV.bi, PV.bind, PV.binds, wipeE, consO, PV.small64, line, mkS, asPart, okD, okDs, eqD, eqDs, sub, subM, slc, meM, meK, evPs, PV.forM, freezeE, PV.isNon, pmod, pdiv, PV.putAt, sameD, e0, hT, okI', cut, HT.sIx, sq0, sq1, sq4, x, heldD, okp, okc, e1, qh]
          · simp [F_host_answer, toldE_body, exs, ex, ev, evs, evP, evI, tests, M.bind, M.pure, M.of, M.fail, Env.get, Env.bor, isTy, tru, cop, bop, PV.bi, PV.bind, PV.binds, wipeE, consO, PV.small64, line, mkS, asPart, okD, okDs, eqD, eqDs, sub, subM, slc, meM, meK, evPs, PV.forM, freezeE, PV.isNon, pmod, pdiv, PV.putAt, sameD, e0, hT, okI', cut, HT.sIx, sq0, sq1, sq4, x, heldD, okp, okc, e1, qh]
        · have e1 : eqD (pairD c) (pairD a) = false := (eqp c).trans (decide_eq_false ca)
          simp [F_host_answer, toldE_body, exs, ex, ev, evs, evP, evI, tests, M.bind, M.pure, M.of, M.fail, Env.get, Env.bor, isTy, tru, cop, bop, PV.bi, PV.bind, PV.binds, wipeE, consO, PV.small64, line, mkS, asPart, okD, okDs, eqD, eqDs, sub, subM, slc, meM, meK, evPs, PV.forM, freezeE, PV.isNon, pmod, pdiv, PV.putAt, sameD, e0, hT, okI', cut, HT.sIx, sq0, sq1, sq4, x, heldD, okp, okc, e1, ca]
theorem step_up (n : Nat) (hw boot t num k : Int) (a : Int × Int) (asks : List (Int × Int)) (held : Held) (s : S) (hl : asks.length ≤ 17) (w1 : 1 ≤ hw) (w2 : hw ≤ 200) (b1 : 1 ≤ boot) (b2 : boot ≤ 201) (n1 : 0 ≤ k) (n2 : k < 65536) (h1 : 1 ≤ a.1) (h2 : a.1 ≤ 30) (h3 : 1 ≤ a.2) (h4 : a.2 ≤ 250) :
    callN P (n + 6) 18 [stD hw boot t num asks held, .tup [.str "up", .tup [.int 9, .tup [.int 2, .int hw, .int boot, .int (o1 k), .int (o2 k), .int a.1, .int a.2]]]] s =
      some (.tup [stD hw boot t num asks (ansHeld t k a asks held), .tup (ansOut t k a asks held)], s) := by
  rw [callN_eq (n + 5) 18 _ s F_lease_host_step rfl rfl]
  have e1 : PyData.strOk ("tick" : Str) = true := by decide +kernel
  have e2 : PyData.strOk ("up" : Str) = true := by decide +kernel
  have lw := lease_word_ok n hw boot k a.1 a.2 s w1 w2 b1 b2 n1 n2 h1 h2 h3 h4
  have ha := host_answer_ok (n + 4) hw boot t num k a asks held s hl
  have ha' : callN P (n + 5) 22 [stD hw boot t num asks held, .tup [.str "answer", .int hw, .int boot, .int k, .tup [.int a.1, .int a.2]]] s = some (.tup [stD hw boot t num asks (ansHeld t k a asks held), .tup (ansOut t k a asks held)], s) := ha
  have nt : (("up" : Str) == ("tick" : Str)) = false := by decide +kernel
  have ok9 : okD 60 (.tup [.str "up", .tup [.int 9, .tup [.int 2, .int hw, .int boot, .int (o1 k), .int (o2 k), .int a.1, .int a.2]]]) = true := by simp [okD, okDs, e2]
  simp [F_lease_host_step, exs, ex, ev, evs, evP, evI, tests, M.bind, M.pure, M.of, M.fail, Env.get, Env.bor, isTy, tru, cop, bop, PV.bi, PV.bind, PV.binds, wipeE, consO, PV.small64, line, mkS, asPart, okD, okDs, eqD, eqDs, sub, subM, slc, meM, meK, evPs, PV.forM, freezeE, PV.isNon, pmod, pdiv, PV.putAt, sameD, e1, e2, lw, ha', is_frame_ok, sq0, sq1, nt]
/-! ### the host's state is one -/
def hostE : E := (.comp [2] (.name 2) (.seq (.idx (.var 0) (.int 5))) .nil (.and2 (.call 15 (.cons (.var 2) .nil)) (.cmp .le (.idx (.var 2) (.int 1)) (.idx (.var 0) (.int 3)))))
def hostE_body : Cs := (.cons (.ifs (.or2 (.nott (.isi (.var 0) .tuple)) (.or2 (.cmp .ne (.blt .len (.cons (.var 0) .nil)) (.int 7)) (.cmp .ne (.idx (.var 0) (.int 0)) (.str "lease host"))))
    (.cons (.ret (.bl false)) .nil)
    .nil) (.cons (.ifs (.or2 (.nott (.call 8 (.cons (.idx (.var 0) (.int 1)) .nil))) (.or2 (.nott (.call 9 (.cons (.idx (.var 0) (.int 2)) .nil))) (.or2 (.nott (.call 0 (.cons (.idx (.var 0) (.int 3)) .nil))) (.nott (.call 0 (.cons (.idx (.var 0) (.int 4)) .nil))))))
    (.cons (.ret (.bl false)) .nil)
    .nil) (.cons (.ifs (.or2 (.nott (.isi (.idx (.var 0) (.int 5)) .tuple)) (.or2 (.cmp .gt (.blt .len (.cons (.idx (.var 0) (.int 5)) .nil)) (.glob "KEPT_ASKS" (.int 17))) (.cmp .ge (.idx (.var 0) (.int 4)) (.glob "LEASE_ROUND" (.int 65536)))))
    (.cons (.ret (.bl false)) .nil)
    .nil) (.cons (.ifs (.nott (.blt .all (.cons hostE .nil)))
    (.cons (.ret (.bl false)) .nil)
    .nil) (.cons (.set 1 (.idx (.var 0) (.int 6))) (.cons (.ret (.or2 (.cmp .is (.var 1) .non) (.and2 (.call 16 (.cons (.var 1) .nil)) (.chain .le .lt (.idx (.var 1) (.int 1)) (.idx (.var 0) (.int 3)) (.bin .add (.idx (.var 1) (.int 1)) (.glob "LEASE_TICKS" (.int 200))))))) .nil))))))
theorem hostE_eq : F_is_lease_host.body = hostE_body := rfl
theorem filterMap_const {α β : Type} (f : α → β) (c : β) : ∀ l : List α, l.filterMap (fun _ => some c) = List.replicate l.length c
  | [] => rfl
  | x :: xs => by rw [List.filterMap_cons, filterMap_const f c xs]; rfl
theorem blL_rep : ∀ n : Nat, blL (List.replicate n (.bl true)) = some (List.replicate n true)
  | 0 => rfl
  | n + 1 => by rw [List.replicate_succ, List.replicate_succ]; unfold blL; rw [blL_rep n]; rfl
theorem all_rep (n : Nat) : (List.replicate n true).all id = true := by
  rw [List.all_eq_true]
  intro x hx
  rw [(List.mem_replicate.mp hx).2]; rfl
def AsksOk (t : Int) (asks : List (Int × Int)) : Prop := asks.length ≤ 17 ∧ ∀ p ∈ asks, 0 ≤ p.1 ∧ p.1 < 65536 ∧ 0 ≤ p.2 ∧ p.2 ≤ t
def HeldOk (t : Int) : Held → Prop
  | none => True
  | some (a, h) => (1 ≤ a.1 ∧ a.1 ≤ 30 ∧ 1 ≤ a.2 ∧ a.2 ≤ 250) ∧ 0 ≤ h ∧ h ≤ t ∧ t < h + 200
theorem hostE_ok (n : Nat) (hw boot t num : Int) (asks : List (Int × Int)) (held : Held) (s : S) (h : AsksOk t asks) :
    ev (callN P (n + 2)) hostE true [.val (stD hw boot t num asks held), .no, .no] s = some (.lst (List.replicate asks.length (.bl true)), s) := by
  have e : (asks.map pairD).filterMap (fun _ => some (D.bl true)) = List.replicate asks.length (.bl true) := by
    rw [filterMap_const (fun d => d), List.length_map]
  have hl : (List.replicate asks.length (D.bl true)).length ≤ line := by rw [List.length_replicate]; have := h.1; unfold line; omega
  rw [← e] at hl ⊢
  refine ev_comp _ (by simp [exs, ex, ev, evs, evP, evI, tests, M.bind, M.pure, M.of, M.fail, Env.get, Env.bor, isTy, tru, cop, bop, PV.bi, PV.bind, PV.binds, wipeE, consO, PV.small64, line, mkS, asPart, okD, okDs, eqD, eqDs, sub, subM, slc, meM, meK, evPs, PV.forM, freezeE, PV.isNon, pmod, pdiv, PV.putAt, sameD, stD, sq5]) (fun d hd => ?_) hl
  obtain ⟨p, hp, rfl⟩ := List.mem_map.mp hd
  obtain ⟨h1, h2, h3, h4⟩ := h.2 p hp
  have hq := is_ask_pair_ok n p s h1 h2 h3
  unfold stD
  generalize asks.map pairD = L
  simp [exs, ex, ev, evs, evP, evI, tests, M.bind, M.pure, M.of, M.fail, Env.get, Env.bor, isTy, tru, cop, bop, PV.bi, PV.bind, PV.binds, wipeE, consO, PV.small64, line, mkS, asPart, okD, okDs, eqD, eqDs, sub, subM, slc, meM, meK, evPs, PV.forM, freezeE, PV.isNon, pmod, pdiv, PV.putAt, sameD, hq, sq3]
  simp [exs, ex, ev, evs, evP, evI, tests, M.bind, M.pure, M.of, M.fail, Env.get, Env.bor, isTy, tru, cop, bop, PV.bi, PV.bind, PV.binds, wipeE, consO, PV.small64, line, mkS, asPart, okD, okDs, eqD, eqDs, sub, subM, slc, meM, meK, evPs, PV.forM, freezeE, PV.isNon, pmod, pdiv, PV.putAt, sameD, pairD, sq1, h4]
theorem is_lease_host_ok (n : Nat) (hw boot t num : Int) (asks : List (Int × Int)) (held : Held) (s : S) (h : AsksOk t asks) (hh : HeldOk t held) (w1 : 1 ≤ hw) (w2 : hw ≤ 200) (b1 : 1 ≤ boot) (b2 : boot ≤ 201) (t0 : 0 ≤ t) (n1 : 0 ≤ num) (n2 : num < 65536) :
    callN P (n + 4) 14 [stD hw boot t num asks held] s = some (.bl true, s) := by
  rw [callN_eq (n + 3) 14 _ s F_is_lease_host rfl rfl, hostE_eq]
  have he := hostE_ok (n + 1) hw boot t num asks held s h
  have e0 : PyData.strOk ("lease host" : Str) = true := by decide +kernel
  have hb := blL_rep asks.length
  have ha := all_rep asks.length
  have hl : (asks.length : Int) ≤ 17 := by have := h.1; omega
  have hl' : ¬ (17 : Int) < asks.length := by omega
  have hn : ¬ (65536 : Int) ≤ num := by omega
  have hlm : (asks.map pairD).length = asks.length := List.length_map ..
  unfold stD at he ⊢
  generalize asks.map pairD = L at he hlm ⊢
  cases held with
  | none =>
    simp [hostE_body, F_is_lease_host, exs, ex, ev, evs, evP, evI, tests, M.bind, M.pure, M.of, M.fail, Env.get, Env.bor, isTy, tru, cop, bop, PV.bi, PV.bind, PV.binds, wipeE, consO, PV.small64, line, mkS, asPart, okD, okDs, eqD, eqDs, sub, subM, slc, meM, meK, evPs, PV.forM, freezeE, PV.isNon, pmod, pdiv, PV.putAt, sameD, he, hb, ha, e0, is_hardware_ok, is_boot_ok, is_count_ok, w1, w2, b1, b2, t0, n1, hn, hlm, hl, hl', sq0, sq1, sq2, sq3, sq4, sq5, sq6, heldD] at he ⊢
  | some x =>
    obtain ⟨a, x⟩ := x
    obtain ⟨⟨a1, a2, a3, a4⟩, x0, x1, x2⟩ := hh
    have ih := is_held_ok n a x s a1 a2 a3 a4 x0
    simp [hostE_body, F_is_lease_host, exs, ex, ev, evs, evP, evI, tests, M.bind, M.pure, M.of, M.fail, Env.get, Env.bor, isTy, tru, cop, bop, PV.bi, PV.bind, PV.binds, wipeE, consO, PV.small64, line, mkS, asPart, okD, okDs, eqD, eqDs, sub, subM, slc, meM, meK, evPs, PV.forM, freezeE, PV.isNon, pmod, pdiv, PV.putAt, sameD, he, hb, ha, e0, is_hardware_ok, is_boot_ok, is_count_ok, w1, w2, b1, b2, t0, n1, hn, hlm, hl, hl', sq0, sq1, sq2, sq3, sq4, sq5, sq6, heldD, ih, x1, x2] at he ⊢
end K34
set_option Elab.async false
set_option linter.all false
set_option autoImplicit false
set_option maxRecDepth 100000
set_option maxHeartbeats 2000000
namespace K34
open PySem PySem.Spec L2 PV
open PyProof.Rows hiding St
/-! ### the run, as plain data -/
structure Sim where
  all : List Int
  held : Held
  turns : List D
def num (l : List Int) : List (Int × Int) := l.zipIdx.map fun p => ((p.2 : Int), p.1)
def kept (l : List Int) : List (Int × Int) := last17 (num l)
theorem num_snoc (l : List Int) (t : Int) : num (l ++ [t]) = num l ++ [((l.length : Int), t)] := by
  unfold num
  rw [List.zipIdx_append, List.map_append]
  simp
theorem num_len (l : List Int) : (num l).length = l.length := by unfold num; simp
theorem kept_len (l : List Int) : (kept l).length = min l.length 17 := by
  unfold kept last17
  rw [List.length_drop, num_len]
  omega
theorem kept_snoc (l : List Int) (t : Int) : last17 (kept l ++ [((l.length : Int), t)]) = kept (l ++ [t]) := by
  unfold kept
  rw [num_snoc]
  unfold last17
  have h := num_len l
  generalize num l = m at h ⊢
  rw [List.length_append, List.length_append, List.length_drop]
  simp only [List.length_singleton]
  by_cases c : m.length ≤ 17
  · have e1 : m.length - 17 = 0 := by omega
    rw [e1]
    simp
  · have e1 : m.length - (m.length - 17) + 1 - 17 = 1 := by omega
    rw [e1, List.drop_append_of_le_length (by rw [List.length_drop]; omega), List.drop_drop, List.drop_append_of_le_length (by omega)]
    congr 2
    omega
theorem kept_mem {l : List Int} {p : Int × Int} (h : p ∈ kept l) : p.2 ∈ l ∧ 0 ≤ p.1 ∧ p.1 < l.length := by
  have h2 := List.mem_of_mem_drop h
  unfold num at h2
  obtain ⟨⟨x, i⟩, hx, rfl⟩ := List.mem_map.mp h2
  obtain ⟨h3, h4, h5⟩ := List.mem_zipIdx hx
  refine ⟨?_, ?_, ?_⟩
  · show x ∈ l
    rw [h5]; exact List.getElem_mem ..
  · show (0 : Int) ≤ (i : Int); omega
  · show (i : Int) < l.length; omega
/-- what holds behind each tick -/
structure SimOk (t : Int) (σ : Sim) : Prop where
  a : ∀ x ∈ σ.all, 0 ≤ x ∧ x ≤ t
  n : (σ.all.length : Int) ≤ t
  h : HeldOk t σ.held
theorem SimOk.asks {t : Int} {σ : Sim} (o : SimOk t σ) (ht : t < 65536) : AsksOk t (kept σ.all) := by
  refine ⟨by rw [kept_len]; omega, fun p hp => ?_⟩
  obtain ⟨h1, h2, h3⟩ := kept_mem hp
  have := o.a _ h1
  have := o.n
  omega
def tickS (t : Int) (σ : Sim) : Sim := ⟨if asking t (kept σ.all) (tickHeld t σ.held) then σ.all ++ [t] else σ.all, tickHeld t σ.held, σ.turns ++ (if expire t σ.held then [.tup [.int t, .non]] else [])⟩
def answerS (t : Int) (σ : Sim) (x : Int × (Int × Int)) : Sim := ⟨σ.all, ansHeld t x.1 x.2 (kept σ.all) σ.held, σ.turns ++ (match ansOut t x.1 x.2 (kept σ.all) σ.held with
  | [] => []
  | _ => [.tup [.int t, pairD x.2]])⟩
def simTick (ans : Int → List (Int × (Int × Int))) (t : Int) (σ : Sim) : Sim := (ans t).foldl (answerS t) (tickS t σ)
def sim (ans : Int → List (Int × (Int × Int))) : Nat → Sim
  | 0 => ⟨[], none, []⟩
  | n + 1 => simTick ans (n + 1) (sim ans n)
def AddrOk (a : Int × Int) : Prop := 1 ≤ a.1 ∧ a.1 ≤ 30 ∧ 1 ≤ a.2 ∧ a.2 ≤ 250
theorem tick_ok {t : Int} {σ : Sim} (o : SimOk t σ) (ht : 0 ≤ t) : SimOk (t + 1) (tickS (t + 1) σ) := by
  refine ⟨fun x hx => ?_, ?_, ?_⟩
  · unfold tickS at hx
    simp only at hx
    split at hx
    · rcases List.mem_append.mp hx with z | z
      · have := o.a x z; omega
      · have : x = t + 1 := by simpa using z
        omega
    · have := o.a x hx; omega
  · have := o.n
    unfold tickS
    simp only
    split
    · rw [List.length_append]; simp; omega
    · omega
  · have := o.h
    unfold tickS tickHeld expire
    simp only
    cases hh : σ.held with
    | none => simp [HeldOk]
    | some x =>
      obtain ⟨a, x⟩ := x
      rw [hh] at this
      simp only [decide_eq_true_eq]
      split
      · trivial
      · obtain ⟨h1, h2, h3, h4⟩ := this
        exact ⟨h1, h2, by omega, by omega⟩
theorem told_mem {k : Int} {l : List (Int × Int)} {x : Int} {xs : List Int} (h : toldL k l = x :: xs) : ∃ p ∈ l, p.2 = x := by
  have hm : x ∈ toldL k l := by rw [h]; exact List.mem_cons_self ..
  unfold toldL at hm
  obtain ⟨p, hp, rfl⟩ := List.mem_map.mp hm
  exact ⟨p, (List.mem_filter.mp hp).1, rfl⟩
theorem answer_ok {t : Int} {σ : Sim} (o : SimOk t σ) (x : Int × (Int × Int)) (hx : AddrOk x.2) : SimOk t (answerS t σ x) := by
  refine ⟨o.a, o.n, ?_⟩
  have hh := o.h
  show HeldOk t (ansHeld t x.1 x.2 (kept σ.all) σ.held)
  unfold ansHeld
  split
  · exact hh
  · rename_i k ks hk
    obtain ⟨p, hp, rfl⟩ := told_mem hk
    have hp2 := o.a _ (kept_mem hp).1
    split
    · exact hh
    · rename_i hc
      cases hs : σ.held with
      | none => exact ⟨hx, by omega, by omega, by omega⟩
      | some y =>
        obtain ⟨c, h⟩ := y
        rw [hs] at hh
        obtain ⟨h1, h2, h3, h4⟩ := hh
        simp only
        split
        · rename_i ca
          exact ⟨h1, by split <;> omega, by split <;> omega, by split <;> omega⟩
        · exact ⟨h1, h2, h3, h4⟩
theorem simTick_ok {ans : Int → List (Int × (Int × Int))} (ha : ∀ t, ∀ x ∈ ans t, AddrOk x.2) {t : Int} {σ : Sim} (o : SimOk t σ) (ht : 0 ≤ t) : SimOk (t + 1) (simTick ans (t + 1) σ) := by
  unfold simTick
  have : ∀ (l : List (Int × (Int × Int))) (σ : Sim), (∀ x ∈ l, AddrOk x.2) → SimOk (t + 1) σ → SimOk (t + 1) (l.foldl (answerS (t + 1)) σ) := by
    intro l
    induction l with
    | nil => exact fun σ _ h => h
    | cons x xs ih => exact fun σ h1 h2 => ih _ (fun y hy => h1 y (List.mem_cons_of_mem _ hy)) (answer_ok h2 x (h1 x (List.mem_cons_self ..)))
  exact this _ _ (ha _) (tick_ok o ht)
theorem sim_ok {ans : Int → List (Int × (Int × Int))} (ha : ∀ t, ∀ x ∈ ans t, AddrOk x.2) : ∀ n : Nat, SimOk (n : Int) (sim ans n)
  | 0 => ⟨fun x hx => by simp [sim] at hx, by simp [sim], trivial⟩
  | n + 1 => by
    have := simTick_ok ha (sim_ok ha n) (by omega)
    have e : ((n + 1 : Nat) : Int) = (n : Int) + 1 := by omega
    rw [e]
    exact this
end K34
set_option Elab.async false
set_option linter.all false
set_option autoImplicit false
set_option maxRecDepth 100000
set_option maxHeartbeats 2000000
namespace K34
open PySem PySem.Spec L2 PV
open PyProof.Rows hiding St
def nth : Nat → Cs → C
  | 0, .cons c _ => c
  | n + 1, .cons _ cs => nth n cs
  | _, .nil => .pass
def forB : C → Cs
  | .fors _ _ b => b
  | _ => .nil
def runBody : Cs := forB (nth 1 F__law_run.body)
theorem exs_nx {call : Nat → List D → M D} {c : C} {cs : Cs} {ρ ρ1 : PV.Env} {s s1 : S} (h : ex call c ρ s = some (.nx ρ1, s1)) : exs call (.cons c cs) ρ s = exs call cs ρ1 s1 := by
  show M.bind (ex call c ρ) _ s = _
  rw [M.bind_of h]
def stS (hw boot t : Int) (σ : Sim) : D := stD hw boot t σ.all.length (kept σ.all) σ.held
def outsD (hw boot t : Int) (σ : Sim) : List D := (if expire t σ.held then [outAddr .non] else []) ++ if asking t (kept σ.all) (tickHeld t σ.held) then [outAsk hw boot σ.all.length] else []
theorem step_tick' (n : Nat) (hw boot t : Int) (σ : Sim) (s : S) (o : SimOk t σ) (ht : t < 65000) (h0 : 0 ≤ t) : callN P (n + 4) 18 [stS hw boot t σ, .tup [.str "tick"]] s = some (.tup [stS hw boot (t + 1) (tickS (t + 1) σ), .tup (outsD hw boot (t + 1) σ)], s) := by
  have hl : (kept σ.all).length ≤ 17 := by rw [kept_len]; omega
  unfold stS
  rw [step_tick n hw boot t σ.all.length (kept σ.all) σ.held s hl, host_tick_ok n hw boot t σ.all.length (kept σ.all) σ.held s hl]
  unfold outsD tickS
  have hn := o.n
  have e : ((σ.all.length : Int) + 1) % 65536 = (σ.all.length : Int) + 1 := by omega
  rw [e]
  cases c : asking (t + 1) (kept σ.all) (tickHeld (t + 1) σ.held) with
  | true =>
    simp only [if_true]
    rw [kept_snoc]
    congr 5
    simp
  | false => simp only [Bool.false_eq_true, if_false]
theorem st0_ok (n : Nat) (hw boot t : Int) (σ : Sim) (s : S) (A T s8 s9 s10 s11 s12 s13 : PV.Slot) (L : List D) (TL : List D) (o : SimOk t σ) (ht : t < 65000) (h0 : 0 ≤ t) :
    ex (callN P (n + 4)) (nth 0 runBody) [.val (.int hw), .val (.int boot), A, T, .val (stS hw boot t σ), .own L, .own TL, .val (.int (t + 1)), s8, s9, s10, s11, s12, s13] s =
      some (.nx [.val (.int hw), .val (.int boot), A, T, .val (stS hw boot (t + 1) (tickS (t + 1) σ)), .own L, .own TL, .val (.int (t + 1)), .val (.tup (outsD hw boot (t + 1) σ)), s9, s10, s11, s12, s13], s) := by
  have h := step_tick' n hw boot t σ s o ht h0
  simp [runBody, forB, nth, F__law_run, exs, ex, ev, evs, evP, evI, tests, M.bind, M.pure, M.of, M.fail, Env.get, Env.bor, isTy, tru, cop, bop, PV.bi, PV.bind, PV.binds, wipeE, consO, PV.small64, line, mkS, asPart, okD, okDs, eqD, eqDs, sub, subM, slc, meM, meK, evPs, PV.forM, freezeE, PV.isNon, pmod, pdiv, PV.putAt, sameD, h]
theorem st1_ok (n : Nat) (hw boot t : Int) (σ : Sim) (s : S) (A T st s9 s10 s11 s12 s13 : PV.Slot) (TL : List D) (h0 : σ.all.length < 65000) (h1 : TL.length < 65000) :
    ∃ s9' s10', ex (callN P (n + 4)) (nth 1 runBody) [.val (.int hw), .val (.int boot), A, T, st, .own (σ.all.map .int), .own TL, .val (.int t), .val (.tup (outsD hw boot t σ)), s9, s10, s11, s12, s13] s =
      some (.nx [.val (.int hw), .val (.int boot), A, T, st, .own ((tickS t σ).all.map .int), .own (TL ++ if expire t σ.held then [.tup [.int t, .non]] else []), .val (.int t), .val (.tup (outsD hw boot t σ)), s9', s10', s11, s12, s13], s) := by
  have l0 : σ.all.length < 16777216 := by omega
  have l1 : TL.length < 16777216 := by omega
  have e1 : PyData.strOk ("down" : Str) = true := by decide +kernel
  have e2 : PyData.strOk ("up" : Str) = true := by decide +kernel
  have e3 : (("up" : Str) == ("down" : Str)) = false := by decide +kernel
  unfold outsD tickS
  cases c : asking t (kept σ.all) (tickHeld t σ.held) with
  | true =>
    cases x : expire t σ.held with
    | true =>
      refine ⟨(.val (.str "down")), (.val (.tup [.int 255, .tup [.int 1, .int hw, .int boot, .int (o1 σ.all.length), .int (o2 σ.all.length)]])), ?_⟩
      simp [runBody, forB, nth, F__law_run, exs, ex, ev, evs, evP, evI, tests, M.bind, M.pure, M.of, M.fail, Env.get, Env.bor, isTy, tru, cop, bop, PV.bi, PV.bind, PV.binds, wipeE, consO, PV.small64, line, mkS, asPart, okD, okDs, eqD, eqDs, sub, subM, slc, meM, meK, evPs, PV.forM, freezeE, PV.isNon, pmod, pdiv, PV.putAt, sameD, outAsk, outAddr, lease_ask_ok, e1, e2, e3, l0, l1, sq1]
    | false =>
      refine ⟨(.val (.str "down")), (.val (.tup [.int 255, .tup [.int 1, .int hw, .int boot, .int (o1 σ.all.length), .int (o2 σ.all.length)]])), ?_⟩
      simp [runBody, forB, nth, F__law_run, exs, ex, ev, evs, evP, evI, tests, M.bind, M.pure, M.of, M.fail, Env.get, Env.bor, isTy, tru, cop, bop, PV.bi, PV.bind, PV.binds, wipeE, consO, PV.small64, line, mkS, asPart, okD, okDs, eqD, eqDs, sub, subM, slc, meM, meK, evPs, PV.forM, freezeE, PV.isNon, pmod, pdiv, PV.putAt, sameD, outAsk, outAddr, lease_ask_ok, e1, e2, e3, l0, l1, sq1]
  | false =>
    cases x : expire t σ.held with
    | true =>
      refine ⟨(.val (.str "up")), (.val (.tup [.str "address", .non])), ?_⟩
      simp [runBody, forB, nth, F__law_run, exs, ex, ev, evs, evP, evI, tests, M.bind, M.pure, M.of, M.fail, Env.get, Env.bor, isTy, tru, cop, bop, PV.bi, PV.bind, PV.binds, wipeE, consO, PV.small64, line, mkS, asPart, okD, okDs, eqD, eqDs, sub, subM, slc, meM, meK, evPs, PV.forM, freezeE, PV.isNon, pmod, pdiv, PV.putAt, sameD, outAsk, outAddr, lease_ask_ok, e1, e2, e3, l0, l1, sq1]
    | false =>
      refine ⟨s9, s10, ?_⟩
      simp [runBody, forB, nth, F__law_run, exs, ex, ev, evs, evP, evI, tests, M.bind, M.pure, M.of, M.fail, Env.get, Env.bor, isTy, tru, cop, bop, PV.bi, PV.bind, PV.binds, wipeE, consO, PV.small64, line, mkS, asPart, okD, okDs, eqD, eqDs, sub, subM, slc, meM, meK, evPs, PV.forM, freezeE, PV.isNon, pmod, pdiv, PV.putAt, sameD, outAsk, outAddr, lease_ask_ok, e1, e2, e3, l0, l1, sq1]
def ansD (x : Int × (Int × Int)) : D := .tup [.int x.1, pairD x.2]
def ansBody : Cs := forB (nth 2 runBody)
theorem ansOut_cases (t k : Int) (a : Int × Int) (l : List (Int × Int)) (h : Held) : ansOut t k a l h = [] ∨ ansOut t k a l h = [outAddr (pairD a)] := by
  unfold ansOut
  split
  · exact .inl rfl
  · split
    · exact .inl rfl
    · split
      · exact .inl rfl
      · exact .inr rfl
theorem ans_turn (n : Nat) (hw boot t : Int) (σ : Sim) (x : Int × (Int × Int)) (s : S) (A T L s8 s9 s10 s11 s12 s13 : PV.Slot) (w1 : 1 ≤ hw) (w2 : hw ≤ 200) (b1 : 1 ≤ boot) (b2 : boot ≤ 201) (k1 : 0 ≤ x.1) (k2 : x.1 < 65536) (ha : AddrOk x.2) (hlen : σ.turns.length < 16000000) :
    ∃ s8', (M.bind (M.of (PV.bind (.tup (.cons (.name 11) (.cons (.name 12) .nil))) (ansD x) [.val (.int hw), .val (.int boot), A, T, .val (stS hw boot t σ), L, .own σ.turns, .val (.int t), s8, s9, s10, s11, s12, s13])) fun ρ' => exs (callN P (n + 6)) ansBody ρ') s =
      some (.nx [.val (.int hw), .val (.int boot), A, T, .val (stS hw boot t (answerS t σ x)), L, .own (answerS t σ x).turns, .val (.int t), s8', s9, s10, .val (.int x.1), .val (pairD x.2), s13], s) := by
  have hl : (kept σ.all).length ≤ 17 := by rw [kept_len]; omega
  obtain ⟨h1, h2, h3, h4⟩ := ha
  have su := step_up n hw boot t σ.all.length x.1 x.2 (kept σ.all) σ.held s hl w1 w2 b1 b2 k1 k2 h1 h2 h3 h4
  have la := lease_answer_ok (n + 2) hw boot x.1 x.2.1 x.2.2 s h1 h2 h3 h4
  have la' : callN P (n + 6) 11 [.int hw, .int boot, .int x.1, pairD x.2] s = some (.tup [.int 2, .int hw, .int boot, .int (o1 x.1), .int (o2 x.1), .int x.2.1, .int x.2.2], s) := la
  have l1 : σ.turns.length + 1 ≤ 16777216 := by omega
  have l2 : σ.turns.length ≤ 16777216 := by omega
  unfold stS answerS
  rcases ansOut_cases t x.1 x.2 (kept σ.all) σ.held with c | c
  · rw [c] at su
    refine ⟨.val (.tup []), ?_⟩
    rw [c]
    simp [ansBody, runBody, forB, nth, F__law_run, exs, ex, ev, evs, evP, evI, tests, M.bind, M.pure, M.of, M.fail, Env.get, Env.bor, isTy, tru, cop, bop, PV.bi, PV.bind, PV.binds, wipeE, consO, PV.small64, line, mkS, asPart, okD, okDs, eqD, eqDs, sub, subM, slc, meM, meK, evPs, PV.forM, freezeE, PV.isNon, pmod, pdiv, PV.putAt, sameD, la', su, ansD, mapMd, l2]
  · rw [c] at su
    refine ⟨.val (.tup [outAddr (pairD x.2)]), ?_⟩
    rw [c]
    simp [ansBody, runBody, forB, nth, F__law_run, exs, ex, ev, evs, evP, evI, tests, M.bind, M.pure, M.of, M.fail, Env.get, Env.bor, isTy, tru, cop, bop, PV.bi, PV.bind, PV.binds, wipeE, consO, PV.small64, line, mkS, asPart, okD, okDs, eqD, eqDs, sub, subM, slc, meM, meK, evPs, PV.forM, freezeE, PV.isNon, pmod, pdiv, PV.putAt, sameD, la', su, ansD, mapMd, l1, outAddr, sq1]
theorem ans_loop (n : Nat) (hw boot t : Int) (s : S) (A T L s13 : PV.Slot) (w1 : 1 ≤ hw) (w2 : hw ≤ 200) (b1 : 1 ≤ boot) (b2 : boot ≤ 201) : ∀ (l : List (Int × (Int × Int))) (σ : Sim) (s8 s9 s10 s11 s12 : PV.Slot), (∀ x ∈ l, AddrOk x.2 ∧ 0 ≤ x.1 ∧ x.1 < 65536) → σ.turns.length + l.length < 16000000 →
    ∃ s8' s11' s12', PV.forM (fun d ρ => M.bind (M.of (PV.bind (.tup (.cons (.name 11) (.cons (.name 12) .nil))) d ρ)) fun ρ' => exs (callN P (n + 6)) ansBody ρ') (l.map ansD) [.val (.int hw), .val (.int boot), A, T, .val (stS hw boot t σ), L, .own σ.turns, .val (.int t), s8, s9, s10, s11, s12, s13] s =
      some (.nx [.val (.int hw), .val (.int boot), A, T, .val (stS hw boot t (l.foldl (answerS t) σ)), L, .own (l.foldl (answerS t) σ).turns, .val (.int t), s8', s9, s10, s11', s12', s13], s)
  | [], σ, s8, s9, s10, s11, s12, _, _ => ⟨s8, s11, s12, rfl⟩
  | x :: l, σ, s8, s9, s10, s11, s12, h, hlen => by
    obtain ⟨hx1, hx2, hx3⟩ := h x (List.mem_cons_self ..)
    rw [List.length_cons] at hlen
    obtain ⟨s8', ht⟩ := ans_turn n hw boot t σ x s A T L s8 s9 s10 s11 s12 s13 w1 w2 b1 b2 hx2 hx3 hx1 (by omega)
    have hl2 : (answerS t σ x).turns.length ≤ σ.turns.length + 1 := by
      unfold answerS
      rcases ansOut_cases t x.1 x.2 (kept σ.all) σ.held with c | c <;> rw [c] <;> simp
    obtain ⟨q1, q2, q3, hq⟩ := ans_loop n hw boot t s A T L s13 w1 w2 b1 b2 l (answerS t σ x) s8' s9 s10 (.val (.int x.1)) (.val (pairD x.2)) (fun y hy => h y (List.mem_cons_of_mem _ hy)) (by omega)
    refine ⟨q1, q2, q3, ?_⟩
    rw [List.map_cons]
    show M.bind (M.bind (M.of (PV.bind (.tup (.cons (.name 11) (.cons (.name 12) .nil))) (ansD x) _)) fun ρ' => exs (callN P (n + 6)) ansBody ρ') _ s = _
    rw [M.bind_of ht]
    exact hq
structure AnsOk (ks vs : List D) (ans : Int → List (Int × (Int × Int))) : Prop where
  at_ : ∀ t : Int, (dget ks vs (.int t)).getD (.tup []) = .lst ((ans t).map ansD) ∨ (dget ks vs (.int t)).getD (.tup []) = .tup ((ans t).map ansD)
  ok : ∀ t, ∀ x ∈ ans t, AddrOk x.2 ∧ 0 ≤ x.1 ∧ x.1 < 65536
  few : ∀ t, (ans t).length ≤ 3
theorem st2_ok (n : Nat) (hw boot t : Int) (σ : Sim) (s : S) (ks vs : List D) (ans : Int → List (Int × (Int × Int))) (T L s8 s9 s10 s11 s12 s13 : PV.Slot) (w1 : 1 ≤ hw) (w2 : hw ≤ 200) (b1 : 1 ≤ boot) (b2 : boot ≤ 201) (ha : AnsOk ks vs ans) (hlen : σ.turns.length < 15000000) :
    ∃ s8' s11' s12', ex (callN P (n + 6)) (nth 2 runBody) [.val (.int hw), .val (.int boot), .val (.dct ks vs), T, .val (stS hw boot t σ), L, .own σ.turns, .val (.int t), s8, s9, s10, s11, s12, s13] s =
      some (.nx [.val (.int hw), .val (.int boot), .val (.dct ks vs), T, .val (stS hw boot t ((ans t).foldl (answerS t) σ)), L, .own ((ans t).foldl (answerS t) σ).turns, .val (.int t), s8', s9, s10, s11', s12', s13], s) := by
  have hf := ha.few t
  obtain ⟨q1, q2, q3, hq⟩ := ans_loop n hw boot t s (.val (.dct ks vs)) T L s13 w1 w2 b1 b2 (ans t) σ s8 s9 s10 s11 s12 (ha.ok t) (by omega)
  refine ⟨q1, q2, q3, ?_⟩
  rw [← hq]
  show M.bind (evI (callN P (n + 6)) (.seq (.meth .get2 (.var 2) (.cons (.var 7) (.cons (.tup .nil) .nil)))) false _) (fun items => PV.forM _ items _) s = _
  have he : evI (callN P (n + 6)) (.seq (.meth .get2 (.var 2) (.cons (.var 7) (.cons (.tup .nil) .nil)))) false [.val (.int hw), .val (.int boot), .val (.dct ks vs), T, .val (stS hw boot t σ), L, .own σ.turns, .val (.int t), s8, s9, s10, s11, s12, s13] s = some ((ans t).map ansD, s) := by
    rcases ha.at_ t with c | c
    · simp [exs, ex, ev, evs, evP, evI, tests, M.bind, M.pure, M.of, M.fail, Env.get, Env.bor, isTy, tru, cop, bop, PV.bi, PV.bind, PV.binds, wipeE, consO, PV.small64, line, mkS, asPart, okD, okDs, eqD, eqDs, sub, subM, slc, meM, meK, evPs, PV.forM, freezeE, PV.isNon, pmod, pdiv, PV.putAt, sameD, isKey, c]
    · simp [exs, ex, ev, evs, evP, evI, tests, M.bind, M.pure, M.of, M.fail, Env.get, Env.bor, isTy, tru, cop, bop, PV.bi, PV.bind, PV.binds, wipeE, consO, PV.small64, line, mkS, asPart, okD, okDs, eqD, eqDs, sub, subM, slc, meM, meK, evPs, PV.forM, freezeE, PV.isNon, pmod, pdiv, PV.putAt, sameD, isKey, c]
  rw [M.bind_of he]
  rfl
end K34
set_option Elab.async false
set_option linter.all false
set_option autoImplicit false
set_option maxRecDepth 100000
set_option maxHeartbeats 2000000
namespace K34
open PySem PySem.Spec L2 PV
open PyProof.Rows hiding St
def runE : E := (.comp [13] (.name 13) (.seq (.idx (.var 4) (.int 5))) (.cons (.cmp .isnot (.call 15 (.cons (.var 13) .nil)) (.bl true)) .nil) (.int 1))
def runE_body : Cs := (.cons (.par3 4 5 6 false true true (.call 13 (.cons (.var 0) (.cons (.var 1) .nil))) (.lst .nil) (.lst .nil)) (.cons (.fors (.name 7) (.rng2 (.int 1) (.bin .add (.var 3) (.int 1)))
    (.cons (.unpack (.tup (.cons (.name 4) (.cons (.name 8) .nil))) (.call 18 (.cons (.var 4) (.cons (.tup (.cons (.str "tick") .nil)) .nil)))) (.cons (.fors (.tup (.cons (.name 9) (.cons (.name 10) .nil))) (.seq (.var 8))
    (.cons (.ifs (.cmp .eq (.var 9) (.str "down"))
    (.cons (.ifs (.cmp .ne (.var 10) (.tup (.cons (.int 255) (.cons (.call 10 (.cons (.var 0) (.cons (.var 1) (.cons (.blt .len (.cons (.bor 5) .nil)) .nil)))) .nil))))
    (.cons (.ret .non) .nil)
    .nil) (.cons (.app 5 (.var 7)) .nil))
    (.cons (.app 6 (.tup (.cons (.var 7) (.cons (.idx (.var 10) (.int 1)) .nil)))) .nil)) .nil)) (.cons (.fors (.tup (.cons (.name 11) (.cons (.name 12) .nil))) (.seq (.meth .get2 (.var 2) (.cons (.var 7) (.cons (.tup .nil) .nil))))
    (.cons (.unpack (.tup (.cons (.name 4) (.cons (.name 8) .nil))) (.call 18 (.cons (.var 4) (.cons (.tup (.cons (.str "up") (.cons (.tup (.cons (.int 9) (.cons (.call 11 (.cons (.var 0) (.cons (.var 1) (.cons (.var 11) (.cons (.var 12) .nil))))) .nil))) .nil))) .nil)))) (.cons (.own 6 (.bin .add (.bor 6) (.comp [9, 10] (.tup (.cons (.name 9) (.cons (.name 10) .nil))) (.seq (.var 8)) .nil (.tup (.cons (.var 7) (.cons (.idx (.var 10) (.int 1)) .nil)))))) .nil))) (.cons (.ifs (.or2 (.cmp .isnot (.call 14 (.cons (.var 4) .nil)) (.bl true)) (.or2 (.cmp .ne (.idx (.var 4) (.int 3)) (.var 7)) (.or2 (.cmp .ne runE (.lst .nil)) (.cmp .ne (.blt .len (.cons (.idx (.var 4) (.int 5)) .nil)) (.blt .min2 (.cons (.blt .len (.cons (.bor 5) .nil)) (.cons (.int 17) .nil)))))))
    (.cons (.ret .non) .nil)
    .nil) (.cons (.ifs (.and2 (.cmp .isnot (.idx (.var 4) (.int 6)) .non) (.or2 (.cmp .isnot (.call 16 (.cons (.idx (.var 4) (.int 6)) .nil)) (.bl true)) (.cmp .ne (.call 17 (.cons (.var 4) .nil)) (.idx (.idx (.var 4) (.int 6)) (.int 0)))))
    (.cons (.ret .non) .nil)
    .nil) .nil)))))) (.cons (.frz 6 (.frz 5 (.ret (.tup (.cons (.var 5) (.cons (.var 6) (.cons (.var 4) .nil))))))) .nil)))
theorem runE_eq : F__law_run.body = runE_body := rfl
theorem filterMap_none {α β : Type} : ∀ l : List α, l.filterMap (fun _ => (none : Option β)) = []
  | [] => rfl
  | x :: xs => by rw [List.filterMap_cons]; exact filterMap_none xs
theorem runE_ok (n : Nat) (hw boot t num : Int) (asks : List (Int × Int)) (held : Held) (s : S) (b : Bool) (a0 a1 a2 a3 a5 a6 a7 a8 a9 a10 a11 a12 a13 : PV.Slot) (h : AsksOk t asks) :
    ev (callN P (n + 2)) runE b [a0, a1, a2, a3, .val (stD hw boot t num asks held), a5, a6, a7, a8, a9, a10, a11, a12, a13] s = some (.lst [], s) := by
  have e : (asks.map pairD).filterMap (fun _ => (none : Option D)) = [] := filterMap_none _
  rw [← e]
  refine ev_comp _ (by simp [exs, ex, ev, evs, evP, evI, tests, M.bind, M.pure, M.of, M.fail, Env.get, Env.bor, isTy, tru, cop, bop, PV.bi, PV.bind, PV.binds, wipeE, consO, PV.small64, line, mkS, asPart, okD, okDs, eqD, eqDs, sub, subM, slc, meM, meK, evPs, PV.forM, freezeE, PV.isNon, pmod, pdiv, PV.putAt, sameD, stD, sq5]) (fun d hd => ?_) (by rw [e]; exact Nat.zero_le _)
  obtain ⟨p, hp, rfl⟩ := List.mem_map.mp hd
  obtain ⟨h1, h2, h3, h4⟩ := h.2 p hp
  have hq := is_ask_pair_ok n p s h1 h2 h3
  generalize stD hw boot t num asks held = Z
  simp [exs, ex, ev, evs, evP, evI, tests, M.bind, M.pure, M.of, M.fail, Env.get, Env.bor, isTy, tru, cop, bop, PV.bi, PV.bind, PV.binds, wipeE, consO, PV.small64, line, mkS, asPart, okD, okDs, eqD, eqDs, sub, subM, slc, meM, meK, evPs, PV.forM, freezeE, PV.isNon, pmod, pdiv, PV.putAt, sameD, hq]
theorem st3_ok (n : Nat) (hw boot t : Int) (σ : Sim) (s : S) (a2 a3 a6 a8 a9 a10 a11 a12 a13 : PV.Slot) (o : SimOk t σ) (ht : t < 65000) (h0 : 0 ≤ t) (w1 : 1 ≤ hw) (w2 : hw ≤ 200) (b1 : 1 ≤ boot) (b2 : boot ≤ 201) :
    ex (callN P (n + 4)) (nth 3 runBody) [.val (.int hw), .val (.int boot), a2, a3, .val (stS hw boot t σ), .own (σ.all.map .int), a6, .val (.int t), a8, a9, a10, a11, a12, a13] s =
      some (.nx [.val (.int hw), .val (.int boot), a2, a3, .val (stS hw boot t σ), .own (σ.all.map .int), a6, .val (.int t), a8, a9, a10, a11, a12, a13], s) := by
  have oa := o.asks (by omega)
  have hn := o.n
  have lh := is_lease_host_ok n hw boot t σ.all.length (kept σ.all) σ.held s oa o.h w1 w2 b1 b2 h0 (by omega) (by omega)
  have re := runE_ok (n + 2) hw boot t σ.all.length (kept σ.all) σ.held s true (.val (.int hw)) (.val (.int boot)) a2 a3 (.own (σ.all.map .int)) a6 (.val (.int t)) a8 a9 a10 a11 a12 a13 oa
  have kl : (((kept σ.all).map pairD).length : Int) = min (σ.all.length : Int) 17 := by rw [List.length_map, kept_len]; omega
  have hb : nth 3 runBody = nth 3 (forB (nth 1 runE_body)) := rfl
  rw [hb]
  unfold stS stD at *
  generalize (kept σ.all).map pairD = Lk at *
  by_cases c : (17 : Int) < σ.all.length
  · have e : min (σ.all.length : Int) 17 = 17 := by omega
    rw [e] at kl
    simp [runE_body, forB, nth, exs, ex, ev, evs, evP, evI, tests, M.bind, M.pure, M.of, M.fail, Env.get, Env.bor, isTy, tru, cop, bop, PV.bi, PV.bind, PV.binds, wipeE, consO, PV.small64, line, mkS, asPart, okD, okDs, eqD, eqDs, sub, subM, slc, meM, meK, evPs, PV.forM, freezeE, PV.isNon, pmod, pdiv, PV.putAt, sameD, lh, re, kl, c, sq3, sq5]
  · have e : min (σ.all.length : Int) 17 = σ.all.length := by omega
    rw [e] at kl
    simp [runE_body, forB, nth, exs, ex, ev, evs, evP, evI, tests, M.bind, M.pure, M.of, M.fail, Env.get, Env.bor, isTy, tru, cop, bop, PV.bi, PV.bind, PV.binds, wipeE, consO, PV.small64, line, mkS, asPart, okD, okDs, eqD, eqDs, sub, subM, slc, meM, meK, evPs, PV.forM, freezeE, PV.isNon, pmod, pdiv, PV.putAt, sameD, lh, re, kl, c, sq3, sq5]
theorem st4_ok (n : Nat) (hw boot t : Int) (σ : Sim) (s : S) (a0 a1 a2 a3 a5 a6 a7 a8 a9 a10 a11 a12 a13 : PV.Slot) (o : SimOk t σ) :
    ex (callN P (n + 4)) (nth 4 runBody) [a0, a1, a2, a3, .val (stS hw boot t σ), a5, a6, a7, a8, a9, a10, a11, a12, a13] s =
      some (.nx [a0, a1, a2, a3, .val (stS hw boot t σ), a5, a6, a7, a8, a9, a10, a11, a12, a13], s) := by
  have lh := lease_held_ok (n + 3) hw boot t σ.all.length (kept σ.all) σ.held s
  have oh := o.h
  unfold stS
  cases hh : σ.held with
  | none =>
    rw [hh] at lh
    unfold stD at *
    generalize (kept σ.all).map pairD = Lk at *
    simp [runBody, F__law_run, forB, nth, exs, ex, ev, evs, evP, evI, tests, M.bind, M.pure, M.of, M.fail, Env.get, Env.bor, isTy, tru, cop, bop, PV.bi, PV.bind, PV.binds, wipeE, consO, PV.small64, line, mkS, asPart, okD, okDs, eqD, eqDs, sub, subM, slc, meM, meK, evPs, PV.forM, freezeE, PV.isNon, pmod, pdiv, PV.putAt, sameD, heldD, sq6]
  | some x =>
    obtain ⟨a, x⟩ := x
    rw [hh] at lh oh
    obtain ⟨⟨h1, h2, h3, h4⟩, h5, h6, h7⟩ := oh
    have ih := is_held_ok (n + 1) a x s h1 h2 h3 h4 h5
    have okp : okD 60 (pairD a) = true := rfl
    have eqp : eqD (pairD a) (pairD a) = true := (eq_pair a a).trans (decide_eq_true rfl)
    unfold stD at *
    generalize (kept σ.all).map pairD = Lk at *
    simp only [heldD] at *
    simp [runBody, F__law_run, forB, nth, exs, ex, ev, evs, evP, evI, tests, M.bind, M.pure, M.of, M.fail, Env.get, Env.bor, isTy, tru, cop, bop, PV.bi, PV.bind, PV.binds, wipeE, consO, PV.small64, line, mkS, asPart, okD, okDs, eqD, eqDs, sub, subM, slc, meM, meK, evPs, PV.forM, freezeE, PV.isNon, pmod, pdiv, PV.putAt, sameD, heldD, sq6, sq0, ih, lh, okp, eqp]
theorem fold_ok {ans : Int → List (Int × (Int × Int))} {ks vs : List D} (ha : AnsOk ks vs ans) {t : Int} {σ : Sim} (o : SimOk t σ) (ht : 0 ≤ t) : SimOk (t + 1) (simTick ans (t + 1) σ) := simTick_ok (fun t x hx => (ha.ok t x hx).1) o ht
theorem fold_all (t : Int) : ∀ (l : List (Int × (Int × Int))) (σ : Sim), (l.foldl (answerS t) σ).all = σ.all
  | [], _ => rfl
  | x :: l, σ => (fold_all t l (answerS t σ x)).trans rfl
theorem fold_turns (t : Int) : ∀ (l : List (Int × (Int × Int))) (σ : Sim), (l.foldl (answerS t) σ).turns.length ≤ σ.turns.length + l.length
  | [], _ => Nat.le_refl _
  | x :: l, σ => by
    have h := fold_turns t l (answerS t σ x)
    have h2 : (answerS t σ x).turns.length ≤ σ.turns.length + 1 := by
      unfold answerS
      rcases ansOut_cases t x.1 x.2 (kept σ.all) σ.held with c | c <;> rw [c] <;> simp
    rw [List.foldl_cons, List.length_cons]
    omega
theorem turns_len {ans : Int → List (Int × (Int × Int))} (hf : ∀ t, (ans t).length ≤ 3) : ∀ n : Nat, (sim ans n).turns.length ≤ 4 * n
  | 0 => by simp [sim]
  | n + 1 => by
    have h := turns_len hf n
    have h2 := fold_turns ((n : Int) + 1) (ans ((n : Int) + 1)) (tickS ((n : Int) + 1) (sim ans n))
    have h3 := hf ((n : Int) + 1)
    have h4 : (tickS ((n : Int) + 1) (sim ans n)).turns.length ≤ (sim ans n).turns.length + 1 := by
      unfold tickS
      simp only
      split <;> simp
    have e : sim ans (n + 1) = List.foldl (answerS ((n : Int) + 1)) (tickS ((n : Int) + 1) (sim ans n)) (ans ((n : Int) + 1)) := rfl
    rw [e]
    omega
/-- one turn of the run -/
theorem turn_ok (n : Nat) (hw boot t : Int) (σ : Sim) (s : S) (ks vs : List D) (ans : Int → List (Int × (Int × Int))) (T s7 s8 s9 s10 s11 s12 s13 : PV.Slot) (w1 : 1 ≤ hw) (w2 : hw ≤ 200) (b1 : 1 ≤ boot) (b2 : boot ≤ 201) (ha : AnsOk ks vs ans) (o : SimOk t σ) (ht : t < 60000) (h0 : 0 ≤ t) (hlen : σ.turns.length < 60000) :
    ∃ s7' s8' s9' s10' s11' s12' s13', (M.bind (M.of (PV.bind (.name 7) (.int (t + 1)) [.val (.int hw), .val (.int boot), .val (.dct ks vs), T, .val (stS hw boot t σ), .own (σ.all.map .int), .own σ.turns, s7, s8, s9, s10, s11, s12, s13])) fun ρ' => exs (callN P (n + 6)) runBody ρ') s =
      some (.nx [.val (.int hw), .val (.int boot), .val (.dct ks vs), T, .val (stS hw boot (t + 1) (simTick ans (t + 1) σ)), .own ((simTick ans (t + 1) σ).all.map .int), .own (simTick ans (t + 1) σ).turns, s7', s8', s9', s10', s11', s12', s13'], s) := by
  have h := st0_ok (n + 2) hw boot t σ s (.val (.dct ks vs)) T s8 s9 s10 s11 s12 s13 (σ.all.map .int) σ.turns o (by omega) h0
  have hn := o.n
  have oT := tick_ok o h0
  obtain ⟨s9', s10', h1⟩ := st1_ok (n + 2) hw boot (t + 1) σ s (.val (.dct ks vs)) T (.val (stS hw boot (t + 1) (tickS (t + 1) σ))) s9 s10 s11 s12 s13 σ.turns (by omega) (by omega)
  have tl : (tickS (t + 1) σ).turns.length ≤ σ.turns.length + 1 := by
    unfold tickS
    simp only
    split <;> simp
  obtain ⟨s8', s11', s12', h2⟩ := st2_ok n hw boot (t + 1) (tickS (t + 1) σ) s ks vs ans T (.own ((tickS (t + 1) σ).all.map .int)) (.val (.tup (outsD hw boot (t + 1) σ))) s9' s10' s11 s12 s13 w1 w2 b1 b2 ha (by omega)
  have oS := fold_ok ha o h0
  have h3 := st3_ok (n + 2) hw boot (t + 1) (simTick ans (t + 1) σ) s (.val (.dct ks vs)) T (.own (simTick ans (t + 1) σ).turns) s8' s9' s10' s11' s12' s13 oS (by omega) (by omega) w1 w2 b1 b2
  have h4 := st4_ok (n + 2) hw boot (t + 1) (simTick ans (t + 1) σ) s (.val (.int hw)) (.val (.int boot)) (.val (.dct ks vs)) T (.own ((simTick ans (t + 1) σ).all.map .int)) (.own (simTick ans (t + 1) σ).turns) (.val (.int (t + 1))) s8' s9' s10' s11' s12' s13 oS
  refine ⟨.val (.int (t + 1)), s8', s9', s10', s11', s12', s13, ?_⟩
  show exs (callN P (n + 6)) runBody [.val (.int hw), .val (.int boot), .val (.dct ks vs), T, .val (stS hw boot t σ), .own (σ.all.map .int), .own σ.turns, .val (.int (t + 1)), s8, s9, s10, s11, s12, s13] s = _
  have hb : runBody = .cons (nth 0 runBody) (.cons (nth 1 runBody) (.cons (nth 2 runBody) (.cons (nth 3 runBody) (.cons (nth 4 runBody) .nil)))) := rfl
  have e1 : (tickS (t + 1) σ).turns = σ.turns ++ (if expire (t + 1) σ.held then [.tup [.int (t + 1), .non]] else []) := rfl
  have e2 : (simTick ans (t + 1) σ).all = (tickS (t + 1) σ).all := fold_all _ _ _
  have e3 : List.foldl (answerS (t + 1)) (tickS (t + 1) σ) (ans (t + 1)) = simTick ans (t + 1) σ := rfl
  rw [← e1] at h1
  rw [e3] at h2
  rw [e2] at h3 h4 ⊢
  rw [hb, exs_nx h, exs_nx h1, exs_nx h2, exs_nx (show ex _ _ _ _ = _ from h3), exs_nx (show ex _ _ _ _ = _ from h4)]
  rfl
/-- a for over a range, by an invariant -/
theorem forM_nat {f : D → PV.Env → M Out} {s : S} (lo : Int) (N : Nat) (Inv : Nat → PV.Env → Prop) (hs : ∀ i, i < N → ∀ ρ, Inv i ρ → ∃ ρ', f (.int (lo + (i : Nat))) ρ s = some (.nx ρ', s) ∧ Inv (i + 1) ρ') :
    ∀ (k i : Nat) (ρ : PV.Env), i + k = N → Inv i ρ → ∃ ρ', PV.forM f ((rngD lo N).drop i) ρ s = some (.nx ρ', s) ∧ Inv N ρ'
  | 0, i, ρ, e, h => by
    obtain rfl : i = N := by omega
    have hd : (rngD lo i).drop i = [] := List.drop_eq_nil_of_le (by rw [rngD_len]; exact Nat.le_refl _)
    rw [hd]
    exact ⟨ρ, rfl, h⟩
  | k + 1, i, ρ, e, h => by
    have hi : i < N := by omega
    obtain ⟨ρ1, h1, h2⟩ := hs i hi ρ h
    obtain ⟨ρ2, h3, h4⟩ := forM_nat lo N Inv hs k (i + 1) ρ1 (by omega) h2
    have hd : (rngD lo N).drop i = .int (lo + (i : Nat)) :: (rngD lo N).drop (i + 1) := by
      rw [List.drop_eq_getElem_cons (by rw [rngD_len]; exact hi)]
      congr 1
      exact Option.some.inj ((List.getElem?_eq_getElem (by rw [rngD_len]; exact hi)).symm.trans (rngD_get hi))
    refine ⟨ρ2, ?_, h4⟩
    rw [hd]
    show M.bind (f (.int (lo + (i : Nat))) ρ) _ s = _
    rw [M.bind_of h1]
    exact h3
end K34
set_option Elab.async false
set_option linter.all false
set_option autoImplicit false
set_option maxRecDepth 100000
set_option maxHeartbeats 2000000
namespace K34
open PySem PySem.Spec L2 PV
open PyProof.Rows hiding St
theorem run_h0 (n : Nat) (hw boot : Int) (s : S) (ks vs : List D) (ans : Int → List (Int × (Int × Int))) (T : Int) (w1 : 1 ≤ hw) (w2 : hw ≤ 200) (b1 : 1 ≤ boot) (b2 : boot ≤ 201) :
    ex (callN P (n + 6)) (nth 0 F__law_run.body) [.val (.int hw), .val (.int boot), .val (.dct ks vs), .val (.int T), .no, .no, .no, .no, .no, .no, .no, .no, .no, .no] s =
      some (.nx [.val (.int hw), .val (.int boot), .val (.dct ks vs), .val (.int T), .val (stS hw boot 0 (sim ans 0)), .own [], .own [], .no, .no, .no, .no, .no, .no, .no], s) := by
  have ls := lease_host_start_ok (n + 3) hw boot s w1 w2 b1 b2
  have e : stS hw boot 0 (sim ans 0) = stD hw boot 0 0 [] none := rfl
  rw [e]
  simp [nth, F__law_run, exs, ex, ev, evs, evP, evI, tests, M.bind, M.pure, M.of, M.fail, Env.get, Env.bor, isTy, tru, cop, bop, PV.bi, PV.bind, PV.binds, wipeE, consO, PV.small64, line, mkS, asPart, okD, okDs, eqD, eqDs, sub, subM, slc, meM, meK, evPs, PV.forM, freezeE, PV.isNon, pmod, pdiv, PV.putAt, sameD, ls]
abbrev rEnv (hw boot : Int) (ks vs : List D) (T : Int) (st : D) (L1 L2 : List D) (a b c d e f g : PV.Slot) : PV.Env := [.val (.int hw), .val (.int boot), .val (.dct ks vs), .val (.int T), .val st, .own L1, .own L2, a, b, c, d, e, f, g]
theorem run_loop (n : Nat) (hw boot : Int) (s : S) (ks vs : List D) (ans : Int → List (Int × (Int × Int))) (T : Nat) (w1 : 1 ≤ hw) (w2 : hw ≤ 200) (b1 : 1 ≤ boot) (b2 : boot ≤ 201) (ha : AnsOk ks vs ans) (hT : T < 10000) :
    ∃ s7 s8 s9 s10 s11 s12 s13, PV.forM (fun d ρ => M.bind (M.of (PV.bind (.name 7) d ρ)) fun ρ' => exs (callN P (n + 6)) runBody ρ') (rngD 1 T) (rEnv hw boot ks vs T (stS hw boot 0 (sim ans 0)) [] [] .no .no .no .no .no .no .no) s =
      some (.nx (rEnv hw boot ks vs T (stS hw boot T (sim ans T)) ((sim ans T).all.map .int) (sim ans T).turns s7 s8 s9 s10 s11 s12 s13), s) := by
  have h := forM_nat (f := fun d ρ => M.bind (M.of (PV.bind (.name 7) d ρ)) fun ρ' => exs (callN P (n + 6)) runBody ρ') (s := s) 1 T (fun i ρ => ∃ s7 s8 s9 s10 s11 s12 s13, ρ = rEnv hw boot ks vs T (stS hw boot i (sim ans i)) ((sim ans i).all.map .int) (sim ans i).turns s7 s8 s9 s10 s11 s12 s13) (fun i hi ρ hρ => by
    obtain ⟨s7, s8, s9, s10, s11, s12, s13, rfl⟩ := hρ
    have hsim := sim_ok (fun t x hx => (ha.ok t x hx).1) i
    have htl := turns_len ha.few i
    obtain ⟨r7, r8, r9, r10, r11, r12, r13, hr⟩ := turn_ok n hw boot i (sim ans i) s ks vs ans (.val (.int T)) s7 s8 s9 s10 s11 s12 s13 w1 w2 b1 b2 ha hsim (by omega) (by omega) (by omega)
    have e : (1 : Int) + (i : Nat) = (i : Int) + 1 := by omega
    rw [e]
    exact ⟨_, hr, r7, r8, r9, r10, r11, r12, r13, rfl⟩) T 0 (rEnv hw boot ks vs T (stS hw boot 0 (sim ans 0)) [] [] .no .no .no .no .no .no .no) (by omega) ⟨.no, .no, .no, .no, .no, .no, .no, rfl⟩
  obtain ⟨ρ', h1, s7, s8, s9, s10, s11, s12, s13, rfl⟩ := h
  exact ⟨s7, s8, s9, s10, s11, s12, s13, h1⟩
/-- a for statement's walk -/
theorem ex_for {call : Nat → List D → M D} {c : C} {g : Tg} {it : PV.It} {body : Cs} {ρ ρ1 : PV.Env} {s : S} {items : List D} (hc : c = .fors g it body) (hI : evI call it false ρ s = some (items, s)) (h : PV.forM (fun d ρ => M.bind (M.of (PV.bind g d ρ)) fun ρ' => exs call body ρ') items ρ s = some (.nx ρ1, s)) : ex call c ρ s = some (.nx ρ1, s) := by
  subst hc
  show M.bind (evI call it false ρ) (fun items => PV.forM (fun d ρ => M.bind (M.of (PV.bind g d ρ)) fun ρ' => exs call body ρ') items ρ) s = _
  rw [M.bind_of hI]
  exact h
theorem rng_small {T : Int} (h : 0 ≤ T ∧ T < 10000) : rngOk 1 (T + 1) = true := by
  unfold rngOk
  have h1 : -(2 ^ 61) ≤ T + 1 := by omega
  have h2 : T + 1 < 2 ^ 61 := by omega
  rw [decide_eq_true h1, decide_eq_true h2]
  decide
theorem evI_rng2 {call : Nat → List D → M D} {e1 e2 : E} {b : Bool} {ρ : PV.Env} {s : S} {lo hi : Int} {n : Nat} (h1 : ev call e1 false ρ s = some (.int lo, s)) (h2 : ev call e2 false ρ s = some (.int hi, s)) (hr : rngOk lo hi = true) (hn : (hi - lo).toNat = n) : evI call (.rng2 e1 e2) b ρ s = some (rngD lo n, s) := by
  show M.bind (ev call e1 false ρ) (fun x => M.bind (ev call e2 false ρ) fun y => match x, y with
    | .int lo, .int hi => if rngOk lo hi then M.pure (rngD lo (hi - lo).toNat) else M.fail
    | _, _ => M.fail) s = _
  rw [M.bind_of h1, M.bind_of h2]
  show (if rngOk lo hi = true then M.pure (rngD lo (hi - lo).toNat) else M.fail) s = _
  rw [if_pos hr, hn]
  rfl
theorem run_nth1 : nth 1 F__law_run.body = .fors (.name 7) (.rng2 (.int 1) (.bin .add (.var 3) (.int 1))) runBody := rfl
theorem run_ok (n : Nat) (hw boot : Int) (s : S) (ks vs : List D) (ans : Int → List (Int × (Int × Int))) (T : Nat) (w1 : 1 ≤ hw) (w2 : hw ≤ 200) (b1 : 1 ≤ boot) (b2 : boot ≤ 201) (ha : AnsOk ks vs ans) (hT : T < 10000) :
    callN P (n + 7) 25 [.int hw, .int boot, .dct ks vs, .int T] s = some (.tup [.lst ((sim ans T).all.map .int), .lst (sim ans T).turns, stS hw boot T (sim ans T)], s) := by
  rw [callN_eq (n + 6) 25 _ s F__law_run rfl rfl]
  have h0 := run_h0 n hw boot s ks vs ans T w1 w2 b1 b2
  obtain ⟨s7, s8, s9, s10, s11, s12, s13, h1⟩ := run_loop n hw boot s ks vs ans T w1 w2 b1 b2 ha hT
  have hr : rngOk 1 ((T : Int) + 1) = true := rng_small (by omega)
  have hn : ((T : Int) + 1 - 1).toNat = T := by omega
  have he : evI (callN P (n + 6)) (.rng2 (.int 1) (.bin .add (.var 3) (.int 1))) false (rEnv hw boot ks vs T (stS hw boot 0 (sim ans 0)) [] [] .no .no .no .no .no .no .no) s = some (rngD 1 T, s) := by
    generalize stS hw boot 0 (sim ans 0) = Z
    exact evI_rng2 rfl (by simp [rEnv, exs, ex, ev, evs, evP, evI, tests, M.bind, M.pure, M.of, M.fail, Env.get, Env.bor, isTy, tru, cop, bop, PV.bi, PV.bind, PV.binds, wipeE, consO, PV.small64, line, mkS, asPart, okD, okDs, eqD, eqDs, sub, subM, slc, meM, meK, evPs, PV.forM, freezeE, PV.isNon, pmod, pdiv, PV.putAt, sameD]) hr hn
  have h2 := ex_for run_nth1 he h1
  have hb : F__law_run.body = .cons (nth 0 F__law_run.body) (.cons (nth 1 F__law_run.body) (.cons (nth 2 F__law_run.body) .nil)) := rfl
  have h3 : exs (callN P (n + 6)) F__law_run.body [.val (.int hw), .val (.int boot), .val (.dct ks vs), .val (.int T), .no, .no, .no, .no, .no, .no, .no, .no, .no, .no] s = some (.ret (.tup [.lst ((sim ans T).all.map .int), .lst (sim ans T).turns, stS hw boot T (sim ans T)]), s) := by
    rw [hb, exs_nx h0, exs_nx h2]
    clear h0 h1 h2 he hb
    generalize stS hw boot T (sim ans T) = Z
    generalize (sim ans T).all.map D.int = L1
    generalize (sim ans T).turns = L2
    simp [nth, rEnv, F__law_run, exs, ex, ev, evs, evP, evI, tests, M.bind, M.pure, M.of, M.fail, Env.get, Env.bor, isTy, tru, cop, bop, PV.bi, PV.bind, PV.binds, wipeE, consO, PV.small64, line, mkS, asPart, okD, okDs, eqD, eqDs, sub, subM, slc, meM, meK, evPs, PV.forM, freezeE, PV.isNon, pmod, pdiv, PV.putAt, sameD]
  have e : (List.map Slot.val [D.int hw, D.int boot, D.dct ks vs, D.int T] ++ List.replicate (F__law_run.ns - F__law_run.np) Slot.no) = [.val (.int hw), .val (.int boot), .val (.dct ks vs), .val (.int T), .no, .no, .no, .no, .no, .no, .no, .no, .no, .no] := rfl
  rw [e, h3]
end K34
set_option Elab.async false
set_option linter.all false
set_option autoImplicit false
set_option maxRecDepth 100000
set_option maxHeartbeats 2000000
namespace K34
open PySem PySem.Spec L2 PV
open PyProof.Rows hiding St
/-! ### the run's closed form -/
theorem kept_last (l : List Int) (x : Int) : ∃ k, (kept (l ++ [x])).getLast? = some (k, x) := by
  rw [← kept_snoc]
  refine ⟨(l.length : Int), ?_⟩
  unfold last17
  rw [List.drop_append_of_le_length (by rw [List.length_append]; simp)]
  simp
def hC (t : Int) : Held → Bool
  | some (_, h) => decide (h + 100 ≤ t)
  | none => true
def lC (t : Int) : Option Int → Bool
  | none => true
  | some l => decide (l + 12 ≤ t)
def askL (t : Int) (all : List Int) (held : Held) : Bool := hC t held && lC t all.getLast?
theorem asking_eq (t : Int) (all : List Int) (held : Held) : asking t (kept all) held = askL t all held := by
  unfold asking askL
  rcases List.eq_nil_or_concat all with rfl | ⟨l, x, rfl⟩
  · cases held <;> rfl
  · rw [List.concat_eq_append]
    obtain ⟨k, hk⟩ := kept_last l x
    rw [hk, List.getLast?_append]
    cases held <;> rfl
/-- every twelfth tick from f to t -/
def rowI (f t : Int) : List Int := if f ≤ t then (List.range ((t - f) / 12 + 1).toNat).map fun i => f + 12 * (i : Nat) else []
theorem rowI_nil {f t : Int} (h : t < f) : rowI f t = [] := by unfold rowI; rw [if_neg (by omega)]
theorem rowI_last {f t : Int} (h : f ≤ t) : ∃ l, rowI f t = l ++ [f + 12 * ((t - f) / 12)] := by
  unfold rowI
  rw [if_pos h]
  have e : ((t - f) / 12 + 1).toNat = ((t - f) / 12).toNat + 1 := by omega
  rw [e, List.range_succ, List.map_append]
  refine ⟨(List.range ((t - f) / 12).toNat).map fun i => f + 12 * (i : Nat), ?_⟩
  congr 1
  simp
  omega
theorem rowI_step {f t : Int} : rowI f (t + 1) = if f ≤ t + 1 ∧ (t + 1 - f) % 12 = 0 then rowI f t ++ [t + 1] else rowI f t := by
  unfold rowI
  by_cases h : f ≤ t + 1
  · by_cases h2 : f ≤ t
    · rw [if_pos h, if_pos h2]
      by_cases h3 : (t + 1 - f) % 12 = 0
      · rw [if_pos ⟨h, h3⟩]
        have e : ((t + 1 - f) / 12 + 1).toNat = ((t - f) / 12 + 1).toNat + 1 := by omega
        rw [e, List.range_succ, List.map_append]
        congr 1
        simp
        omega
      · rw [if_neg (fun z => h3 z.2)]
        have e : ((t + 1 - f) / 12 + 1).toNat = ((t - f) / 12 + 1).toNat := by omega
        rw [e]
    · have e : f = t + 1 := by omega
      subst e
      rw [if_pos h, if_neg h2, if_pos ⟨h, by simp⟩]
      simp
  · rw [if_neg h, if_neg (show ¬ (f ≤ t + 1 ∧ (t + 1 - f) % 12 = 0) from fun z => h z.1), if_neg (show ¬ f ≤ t by omega)]
/-- f: the next asking -/
structure NextAsk (t0 : Int) (A : List Int) (H : Held) (f : Int) : Prop where
  l : ∀ x, A.getLast? = some x → x + 12 ≤ f
  h : ∀ a x, H = some (a, x) → x + 100 ≤ f
  e : f ≤ t0 + 1 ∨ (∃ x, A.getLast? = some x ∧ f = x + 12) ∨ ∃ a x, H = some (a, x) ∧ f = x + 100
theorem ask_row {t0 : Int} {A : List Int} {H : Held} {f t : Int} (n : NextAsk t0 A H f) (h0 : t0 ≤ t) : askL (t + 1) (A ++ rowI f t) H = decide (f ≤ t + 1 ∧ (t + 1 - f) % 12 = 0) := by
  unfold askL
  by_cases c : f ≤ t
  · obtain ⟨l, hl⟩ := rowI_last c
    rw [hl, ← List.append_assoc, List.getLast?_append]
    have hh : hC (t + 1) H = true := by
      cases hH : H with
      | none => rfl
      | some x => obtain ⟨a, x⟩ := x; have := n.h a x hH; exact decide_eq_true (by omega)
    rw [hh]
    simp only [List.getLast?_singleton, Option.some_or, Bool.true_and, lC]
    refine decide_eq_decide.mpr ⟨fun z => ⟨by omega, by omega⟩, fun z => by omega⟩
  · rw [rowI_nil (by omega), List.append_nil]
    by_cases c2 : f ≤ t + 1
    · have e : f = t + 1 := by omega
      subst e
      have h1 : hC (t + 1) H = true := by
        cases hH : H with
        | none => rfl
        | some x => obtain ⟨a, x⟩ := x; exact decide_eq_true (n.h a x hH)
      have h2 : lC (t + 1) A.getLast? = true := by
        cases hA : A.getLast? with
        | none => rfl
        | some x => exact decide_eq_true (n.l x hA)
      rw [h1, h2]
      simp
    · rw [decide_eq_false (fun z => c2 z.1)]
      rcases n.e with z | ⟨x, hx, z⟩ | ⟨a, x, hx, z⟩
      · omega
      · rw [hx]
        simp only [lC, decide_eq_false (show ¬ (x + 12 ≤ t + 1) by omega), Bool.and_false]
      · rw [hx]
        simp only [hC, decide_eq_false (show ¬ (x + 100 ≤ t + 1) by omega), Bool.false_and]
/-- a tick by itself -/
theorem tick_row {t0 : Int} {A : List Int} {H : Held} {f t : Int} {tu : List D} (n : NextAsk t0 A H f) (h0 : t0 ≤ t) (hx : expire (t + 1) H = false) : tickS (t + 1) ⟨A ++ rowI f t, H, tu⟩ = ⟨A ++ rowI f (t + 1), H, tu⟩ := by
  have e : tickHeld (t + 1) H = H := by unfold tickHeld; rw [hx]; rfl
  unfold tickS
  simp only [e, hx, asking_eq, ask_row n h0, rowI_step (f := f) (t := t)]
  by_cases c : f ≤ t + 1 ∧ (t + 1 - f) % 12 = 0
  · simp [c]
  · simp [c]
/-- .. and what was held ends -/
theorem tick_end {t0 : Int} {A : List Int} {a : Int × Int} {h f t : Int} {tu : List D} (n : NextAsk t0 A (some (a, h)) f) (h0 : t0 ≤ t) (hx : t + 1 = h + 200) : tickS (t + 1) ⟨A ++ rowI f t, some (a, h), tu⟩ = ⟨A ++ rowI f (t + 1), none, tu ++ [.tup [.int (t + 1), .non]]⟩ := by
  have ex : expire (t + 1) (some (a, h)) = true := decide_eq_true (by omega)
  have e : tickHeld (t + 1) (some (a, h)) = none := by unfold tickHeld; rw [ex]; rfl
  have ar := ask_row n h0
  have hr : askL (t + 1) (A ++ rowI f t) none = askL (t + 1) (A ++ rowI f t) (some (a, h)) := by
    unfold askL
    simp only [hC, decide_eq_true (show h + 100 ≤ t + 1 by omega)]
  unfold tickS
  simp only [e, ex, asking_eq, hr, ar, rowI_step (f := f) (t := t)]
  by_cases c : f ≤ t + 1 ∧ (t + 1 - f) % 12 = 0
  · simp [c]
  · simp [c]
/-- ticks without answers, nothing ends -/
theorem quiet {ans : Int → List (Int × (Int × Int))} {t0 : Nat} {A : List Int} {H : Held} {f : Int} {tu : List D} (n : NextAsk t0 A H f) (hs : sim ans t0 = ⟨A ++ rowI f t0, H, tu⟩) : ∀ m : Nat, (∀ i : Nat, t0 < i → i ≤ t0 + m → ans i = [] ∧ expire i H = false) → sim ans (t0 + m) = ⟨A ++ rowI f ((t0 + m : Nat) : Int), H, tu⟩
  | 0, _ => hs
  | m + 1, hq => by
    have ih := quiet n hs m (fun i h1 h2 => hq i h1 (by omega))
    obtain ⟨q1, q2⟩ := hq (t0 + m + 1) (by omega) (by omega)
    have ec : ((t0 + m + 1 : Nat) : Int) = ((t0 + m : Nat) : Int) + 1 := by omega
    show simTick ans (((t0 + m : Nat) : Int) + 1) (sim ans (t0 + m)) = _
    rw [ec] at q1 q2
    unfold simTick
    rw [ih, q1, tick_row n (by omega) q2]
    show _ = (⟨A ++ rowI f ((t0 + m + 1 : Nat) : Int), H, tu⟩ : Sim)
    rw [ec]
    rfl
end K34
set_option Elab.async false
set_option linter.all false
set_option autoImplicit false
set_option maxRecDepth 100000
set_option maxHeartbeats 2000000
namespace K34
open PySem PySem.Spec L2 PV
open PyProof.Rows hiding St
/-! ### which asking is answered -/
theorem told_zip (k : Nat) : ∀ (l : List Int) (n : Nat), toldL k ((l.zipIdx n).map fun p => ((p.2 : Int), p.1)) = if n ≤ k then (l[k - n]?).toList else []
  | [], n => by
    simp [toldL]
  | x :: l, n => by
    have ih := told_zip k l (n + 1)
    rw [List.zipIdx_cons, List.map_cons]
    unfold toldL at ih ⊢
    rw [List.filter_cons]
    by_cases c : n = k
    · subst c
      have hb : (((n : Nat) : Int) == ((n : Nat) : Int)) = true := beq_self_eq_true _
      rw [hb, if_pos rfl, List.map_cons, ih, if_neg (by omega), if_pos (Nat.le_refl _), Nat.sub_self]
      rfl
    · have hb : (((n : Nat) : Int) == ((k : Nat) : Int)) = false := beq_eq_false_iff_ne.mpr (by omega)
      rw [hb]
      simp only [Bool.false_eq_true, if_false]
      rw [ih]
      by_cases c2 : n + 1 ≤ k
      · rw [if_pos c2, if_pos (by omega)]
        have e : k - n = (k - (n + 1)) + 1 := by omega
        rw [e, List.getElem?_cons_succ]
      · rw [if_neg c2, if_neg (by omega)]
theorem zip_drop : ∀ (d : Nat) (l : List Int) (n : Nat), (l.zipIdx n).drop d = (l.drop d).zipIdx (n + d)
  | 0, l, n => rfl
  | d + 1, [], n => by simp
  | d + 1, x :: l, n => by
    rw [List.zipIdx_cons, List.drop_succ_cons, List.drop_succ_cons, zip_drop d l (n + 1)]
    congr 1
    omega
theorem told_kept (k : Nat) (l : List Int) : toldL k (kept l) = if l.length - 17 ≤ k then (l[k]?).toList else [] := by
  unfold kept last17
  rw [num_len]
  unfold num
  rw [← List.map_drop, zip_drop, told_zip, Nat.zero_add]
  by_cases c : l.length - 17 ≤ k
  · rw [if_pos c, if_pos c, List.getElem?_drop]
    congr 2
    omega
  · rw [if_neg c, if_neg c]
theorem rowI_len {f t : Int} (h : f ≤ t) : (rowI f t).length = ((t - f) / 12 + 1).toNat := by
  unfold rowI
  rw [if_pos h, List.length_map, List.length_range]
theorem rowI_get {f t : Int} (i : Nat) (h : f + 12 * (i : Nat) ≤ t) : (rowI f t)[i]? = some (f + 12 * (i : Nat)) := by
  unfold rowI
  rw [if_pos (by omega), List.getElem?_map, List.getElem?_range (by omega)]
  rfl
/-! ### an answer that comes late, or in time -/
def lateAns (late : Nat) (one other : Int × Int) : Int → List (Int × (Int × Int)) := fun t => if t = (late : Int) + 1 then [(0, one), (0, other), (0, one)] else []
theorem late_first (late : Nat) (one other : Int × Int) : sim (lateAns late one other) late = ⟨[] ++ rowI 1 late, none, []⟩ := by
  have n : NextAsk 0 [] none 1 := ⟨fun x h => (by cases h), fun a x h => (by cases h), .inl (by omega)⟩
  have h := quiet (ans := lateAns late one other) (t0 := 0) (tu := []) n rfl late (fun i h1 h2 => ⟨by unfold lateAns; rw [if_neg (by omega)], rfl⟩)
  rw [Nat.zero_add] at h
  exact h
theorem late_told (late : Nat) : toldL 0 (kept (rowI 1 ((late : Int) + 1))) = if late < 204 then [1] else [] := by
  have h := told_kept 0 (rowI 1 ((late : Int) + 1))
  rw [rowI_len (by omega)] at h
  rw [show ((0 : Nat) : Int) = 0 from rfl] at h
  rw [h, rowI_get 0 (by omega)]
  by_cases c : late < 204
  · rw [if_pos c, if_pos (by omega)]; rfl
  · rw [if_neg c, if_neg (by omega)]
theorem late_tick (late : Nat) (one other : Int × Int) : tickS ((late : Int) + 1) (sim (lateAns late one other) late) = ⟨rowI 1 ((late : Int) + 1), none, []⟩ := by
  have n : NextAsk 0 [] none 1 := ⟨fun x h => (by cases h), fun a x h => (by cases h), .inl (by omega)⟩
  rw [late_first, tick_row n (by omega) rfl]
  rfl
theorem late_no (late : Nat) (one other : Int × Int) (h : 199 < late) (h2 : late < 420) : sim (lateAns late one other) 420 = ⟨rowI 1 420, none, []⟩ := by
  have n : NextAsk 0 [] none 1 := ⟨fun x h => (by cases h), fun a x h => (by cases h), .inl (by omega)⟩
  have same : ∀ a : Int × Int, answerS ((late : Int) + 1) ⟨rowI 1 ((late : Int) + 1), none, []⟩ (0, a) = ⟨rowI 1 ((late : Int) + 1), none, []⟩ := by
    intro a
    unfold answerS ansHeld ansOut
    simp only [late_told]
    by_cases c : late < 204
    · simp [c, show (201 : Int) ≤ (late : Int) + 1 by omega]
    · simp [c]
  have h1 : sim (lateAns late one other) (late + 1) = ⟨[] ++ rowI 1 ((late + 1 : Nat) : Int), none, []⟩ := by
    show simTick (lateAns late one other) ((late : Int) + 1) (sim (lateAns late one other) late) = _
    unfold simTick
    rw [late_tick]
    unfold lateAns
    rw [if_pos rfl]
    simp only [List.foldl_cons, List.foldl_nil, same]
    rfl
  have n1 : NextAsk ((late + 1 : Nat) : Int) [] none 1 := ⟨fun x h => (by cases h), fun a x h => (by cases h), .inl (by omega)⟩
  have q := quiet (ans := lateAns late one other) (t0 := late + 1) (tu := []) n1 h1 (420 - (late + 1)) (fun i h1 h2 => ⟨by unfold lateAns; rw [if_neg (by omega)], rfl⟩)
  have e : late + 1 + (420 - (late + 1)) = 420 := by omega
  rw [e] at q
  exact q
theorem row_last {f t : Int} (h : f ≤ t) (A : List Int) : (A ++ rowI f t).getLast? = some (f + 12 * ((t - f) / 12)) := by
  obtain ⟨l, hl⟩ := rowI_last h
  rw [hl, ← List.append_assoc, List.getLast?_append]
  rfl
def lateL (late : Nat) : Int := 1 + 12 * ((late : Int) / 12)
def lateF (late : Nat) : Int := if lateL late + 12 > 101 then lateL late + 12 else 101
theorem late_yes (late : Nat) (one other : Int × Int) (h : late ≤ 199) (ne : one ≠ other) : sim (lateAns late one other) 420 = ⟨rowI 1 ((late : Int) + 1) ++ rowI (lateF late) 420, none, [.tup [.int ((late : Int) + 1), pairD one], .tup [.int 201, .non]]⟩ := by
  have hl : (rowI 1 ((late : Int) + 1)).getLast? = some (lateL late) := by
    have := row_last (f := 1) (t := (late : Int) + 1) (by omega) []
    rw [List.nil_append] at this
    rw [this]
    unfold lateL
    congr 2
    congr 1
    omega
  have hf1 : 101 ≤ lateF late ∧ lateL late + 12 ≤ lateF late ∧ (lateF late = 101 ∨ lateF late = lateL late + 12) := by unfold lateF; split <;> omega
  have hL : lateL late ≤ (late : Int) + 1 ∧ (late : Int) + 1 < lateL late + 12 := by unfold lateL; omega
  have a1 : answerS ((late : Int) + 1) ⟨rowI 1 ((late : Int) + 1), none, []⟩ (0, one) = ⟨rowI 1 ((late : Int) + 1), some (one, 1), [.tup [.int ((late : Int) + 1), pairD one]]⟩ := by
    unfold answerS ansHeld ansOut
    simp only [late_told, if_pos (show late < 204 by omega), if_neg (show ¬ ((1 : Int) + 200 ≤ (late : Int) + 1) by omega)]
    rfl
  have a2 : ∀ tu, answerS ((late : Int) + 1) ⟨rowI 1 ((late : Int) + 1), some (one, 1), tu⟩ (0, other) = ⟨rowI 1 ((late : Int) + 1), some (one, 1), tu⟩ := by
    intro tu
    unfold answerS ansHeld ansOut
    simp only [late_told, if_pos (show late < 204 by omega), if_neg (show ¬ ((1 : Int) + 200 ≤ (late : Int) + 1) by omega), if_neg ne]
    simp
  have a3 : ∀ tu, answerS ((late : Int) + 1) ⟨rowI 1 ((late : Int) + 1), some (one, 1), tu⟩ (0, one) = ⟨rowI 1 ((late : Int) + 1), some (one, 1), tu⟩ := by
    intro tu
    unfold answerS ansHeld ansOut
    simp only [late_told, if_pos (show late < 204 by omega), if_neg (show ¬ ((1 : Int) + 200 ≤ (late : Int) + 1) by omega)]
    simp
  have n0 : NextAsk ((late + 1 : Nat) : Int) (rowI 1 ((late : Int) + 1)) (some (one, 1)) (lateF late) := by
    refine ⟨fun x hx => ?_, fun a x hx => ?_, ?_⟩
    · rw [hl] at hx; cases hx; omega
    · cases hx; omega
    · rcases hf1.2.2 with e | e
      · exact .inr (.inr ⟨one, 1, rfl, by omega⟩)
      · exact .inr (.inl ⟨_, hl, e⟩)
  have s1 : sim (lateAns late one other) (late + 1) = ⟨rowI 1 ((late : Int) + 1) ++ rowI (lateF late) ((late + 1 : Nat) : Int), some (one, 1), [.tup [.int ((late : Int) + 1), pairD one]]⟩ := by
    show simTick (lateAns late one other) ((late : Int) + 1) (sim (lateAns late one other) late) = _
    unfold simTick
    rw [late_tick]
    unfold lateAns
    rw [if_pos rfl]
    simp only [List.foldl_cons, List.foldl_nil, a1, a2, a3]
    rw [rowI_nil (f := lateF late) (by omega), List.append_nil]
  have q := quiet (ans := lateAns late one other) (t0 := late + 1) n0 s1 (200 - (late + 1)) (fun i h1 h2 => ⟨by unfold lateAns; rw [if_neg (by omega)], by unfold expire; exact decide_eq_false (by omega)⟩)
  have e : late + 1 + (200 - (late + 1)) = 200 := by omega
  rw [e] at q
  have s2 : sim (lateAns late one other) 201 = ⟨rowI 1 ((late : Int) + 1) ++ rowI (lateF late) ((201 : Nat) : Int), none, [.tup [.int ((late : Int) + 1), pairD one], .tup [.int 201, .non]]⟩ := by
    show simTick (lateAns late one other) (((200 : Nat) : Int) + 1) (sim (lateAns late one other) 200) = _
    unfold simTick
    rw [q, tick_end n0 (by omega) (by omega)]
    unfold lateAns
    rw [if_neg (by omega)]
    rfl
  have n2 : NextAsk ((201 : Nat) : Int) (rowI 1 ((late : Int) + 1)) none (lateF late) := by
    refine ⟨fun x hx => ?_, fun a x hx => (by cases hx), ?_⟩
    · rw [hl] at hx; cases hx; omega
    · rcases hf1.2.2 with e | e
      · exact .inl (by omega)
      · exact .inr (.inl ⟨_, hl, e⟩)
  exact quiet (ans := lateAns late one other) (t0 := 201) n2 s2 219 (fun i h1 h2 => ⟨by unfold lateAns; rw [if_neg (by omega)], rfl⟩)
end K34
set_option Elab.async false
set_option linter.all false
set_option autoImplicit false
set_option maxRecDepth 100000
set_option maxHeartbeats 2000000
namespace K34
open PySem PySem.Spec L2 PV
open PyProof.Rows hiding St
theorem range_filter {β : Type} (m : Nat) (g : Nat → β) : ∀ n : Nat, (List.range n).filterMap (fun i => if i < m then some (g i) else none) = (List.range (min n m)).map g
  | 0 => by simp
  | n + 1 => by
    rw [List.range_succ, List.filterMap_append, range_filter m g n]
    by_cases c : n < m
    · have e : min (n + 1) m = min n m + 1 := by omega
      have e2 : min n m = n := by omega
      rw [e, List.range_succ, List.map_append, e2]
      simp [c]
    · have e : min (n + 1) m = min n m := by omega
      rw [e]
      simp [c]
theorem evI_rng1 {call : Nat → List D → M D} {e1 : E} {b : Bool} {ρ : PV.Env} {s : S} {hi : Int} {n : Nat} (h1 : ev call e1 false ρ s = some (.int hi, s)) (hr : rngOk 0 hi = true) (hn : hi.toNat = n) : evI call (.rng1 e1) b ρ s = some (rngD 0 n, s) := by
  show M.bind (ev call e1 false ρ) (fun x => match x with
    | .int n => if rngOk 0 n then M.pure (rngD 0 n.toNat) else M.fail
    | _ => M.fail) s = _
  rw [M.bind_of h1]
  show (if rngOk 0 hi = true then M.pure (rngD 0 hi.toNat) else M.fail) s = _
  rw [if_pos hr, hn]
  rfl
theorem rng_small0 {T : Int} (h : 0 ≤ T ∧ T < 10000) : rngOk 0 T = true := by
  unfold rngOk
  have h1 : -(2 ^ 61) ≤ T := by omega
  have h2 : T < 2 ^ 61 := by omega
  rw [decide_eq_true h1, decide_eq_true h2]
  decide
theorem le_line {a : Nat} (h : a ≤ 10000) : a ≤ line := by unfold line; omega
def rowG (f e : Int) : D → Option D
  | .int k => if f + 12 * k ≤ e then some (.int (f + 12 * k)) else none
  | _ => none
theorem row_map (f : Int) (e : Nat) (hf : 1 ≤ f) : (rngD 0 e).filterMap (rowG f e) = (rowI f e).map .int := by
  let m : Nat := if f ≤ e then (((e : Int) - f) / 12 + 1).toNat else 0
  have hm : ∀ i : Nat, (f + 12 * (i : Int) ≤ (e : Int)) ↔ i < m := by
    intro i
    show _ ↔ i < (if f ≤ e then (((e : Int) - f) / 12 + 1).toNat else 0)
    split <;> omega
  have hme : min e m = m := by
    have : m ≤ e := by
      show (if f ≤ e then (((e : Int) - f) / 12 + 1).toNat else 0) ≤ e
      split <;> omega
    omega
  have hr : (List.range m).map (fun i => D.int (f + 12 * (i : Nat))) = (rowI f e).map .int := by
    unfold rowI
    by_cases c : f ≤ e
    · have e1 : m = (((e : Int) - f) / 12 + 1).toNat := if_pos c
      rw [if_pos c, e1, List.map_map]; rfl
    · have e1 : m = 0 := if_neg c
      rw [if_neg c, e1]; rfl
  unfold rngD
  rw [List.filterMap_map, ← hr, ← hme, ← range_filter m (fun i => D.int (f + 12 * (i : Nat))) e]
  congr 1
  funext i
  have e0 : (0 : Int) + (i : Nat) = (i : Int) := by omega
  show rowG f e (.int ((0 : Int) + (i : Nat))) = _
  rw [e0]
  show (if f + 12 * (i : Int) ≤ (e : Int) then some (D.int (f + 12 * (i : Int))) else none) = _
  by_cases c : i < m
  · rw [if_pos c, if_pos ((hm i).mpr c)]
  · rw [if_neg c, if_neg (fun z => c ((hm i).mp z))]
def rowE : E := (.comp [3] (.name 3) (.rng1 (.var 2)) (.cons (.cmp .le (.bin .add (.var 0) (.bin .mul (.var 1) (.var 3))) (.var 2)) .nil) (.bin .add (.var 0) (.bin .mul (.var 1) (.var 3))))
def rowE_body : Cs := (.cons (.ret rowE) .nil)
theorem rowE_eq : F__law_row.body = rowE_body := rfl
theorem rowE_ok (n : Nat) (f : Int) (e : Nat) (s : S) (hf : 1 ≤ f) (he : e < 10000) : ev (callN P n) rowE false [.val (.int f), .val (.int 12), .val (.int e), .no] s = some (.lst ((rowI f e).map .int), s) := by
  rw [← row_map f e hf]
  refine ev_comp (rowG f e) (evI_rng1 rfl (rng_small0 (by omega)) (by omega)) (fun d hd => ?_) (le_line ?_)
  · unfold rngD at hd
    obtain ⟨i, _, rfl⟩ := List.mem_map.mp hd
    by_cases c : f + 12 * (i : Int) ≤ (e : Int)
    · simp [exs, ex, ev, evs, evP, evI, tests, M.bind, M.pure, M.of, M.fail, Env.get, Env.bor, isTy, tru, cop, bop, PV.bi, PV.bind, PV.binds, wipeE, consO, PV.small64, line, mkS, asPart, okD, okDs, eqD, eqDs, sub, subM, slc, meM, meK, evPs, PV.forM, freezeE, PV.isNon, pmod, pdiv, PV.putAt, sameD, c, rowG]
    · simp [exs, ex, ev, evs, evP, evI, tests, M.bind, M.pure, M.of, M.fail, Env.get, Env.bor, isTy, tru, cop, bop, PV.bi, PV.bind, PV.binds, wipeE, consO, PV.small64, line, mkS, asPart, okD, okDs, eqD, eqDs, sub, subM, slc, meM, meK, evPs, PV.forM, freezeE, PV.isNon, pmod, pdiv, PV.putAt, sameD, c, rowG]
  · have := List.length_filterMap_le (rowG f e) (rngD 0 e)
    rw [rngD_len] at this
    omega
theorem exs_ret {call : Nat → List D → M D} {e : E} {cs : Cs} {ρ : PV.Env} {s s1 : S} {d : D} (h : ev call e false ρ s = some (d, s1)) : exs call (.cons (.ret e) cs) ρ s = some (.ret d, s1) := by
  show M.bind (M.bind (ev call e false ρ) fun d => M.pure (Out.ret d)) _ s = _
  rw [M.bind_of (show M.bind (ev call e false ρ) (fun d => M.pure (Out.ret d)) s = some (.ret d, s1) from M.bind_of h)]
  rfl
theorem ex_set {call : Nat → List D → M D} {i : Nat} {e : E} {ρ : PV.Env} {s s1 : S} {d : D} (h : ev call e false ρ s = some (d, s1)) : ex call (.set i e) ρ s = some (.nx (ρ.set i (.val d)), s1) := by
  show M.bind (ev call e false ρ) (fun d => M.pure (Out.nx (ρ.set i (.val d)))) s = _
  rw [M.bind_of h]
  rfl
theorem callN_ret {n f : Nat} {ds : List D} {s s1 : S} {d : D} {fn : Fn} (h : P[f]? = some fn) (hl : ds.length = fn.np) (hx : exs (callN P n) fn.body (ds.map .val ++ List.replicate (fn.ns - fn.np) .no) s = some (.ret d, s1)) : callN P (n + 1) f ds s = some (d, s1) := by
  rw [callN_eq n f ds s fn h hl, hx]
theorem law_row_ok (n : Nat) (f : Int) (e : Nat) (s : S) (hf : 1 ≤ f) (he : e < 10000) : callN P (n + 1) 24 [.int f, .int 12, .int e] s = some (.lst ((rowI f e).map .int), s) :=
  callN_ret (fn := F__law_row) rfl rfl (exs_ret (rowE_ok n f e s hf he))
end K34
set_option Elab.async false
set_option linter.all false
set_option autoImplicit false
set_option maxRecDepth 100000
set_option maxHeartbeats 2000000
namespace K34
open PySem PySem.Spec L2 PV
open PyProof.Rows hiding St
/-! ### the first scenario -/
def LB : Cs := F__law_late.body
theorem late_s0 (n : Nat) (s : S) (ht : TapeOk s) (a1 a2 a3 a4 : PV.Slot) : ∃ (late : Nat) (s' : S), late < 230 ∧ TapeOk s' ∧ ex (callN P (n + 1)) (nth 0 LB) [.val (.cel 0), a1, a2, a3, a4, .no, .no, .no, .no, .no] s = some (.nx [.val (.cel 0), a1, a2, a3, a4, .val (.int late), .val (.int 420), .no, .no, .no], s') := by
  obtain ⟨d1, s1, h1, l1, u1, t1⟩ := draw_ok n s 230 ht (by omega) (by omega)
  obtain ⟨d2, s2, h2, l2, u2, t2⟩ := draw_ok n s1 30 t1 (by omega) (by omega)
  obtain ⟨d3, s3, h3, l3, u3, t3⟩ := draw_ok n s2 2 t2 (by omega) (by omega)
  have c : d3 = 0 ∨ d3 = 1 := by omega
  rcases c with rfl | rfl
  · refine ⟨d1.toNat, s3, by omega, t3, ?_⟩
    have e : ((d1.toNat : Nat) : Int) = d1 := by omega
    rw [e]
    simp [LB, F__law_late, nth, exs, ex, ev, evs, evP, evI, tests, M.bind, M.pure, M.of, M.fail, Env.get, Env.bor, isTy, tru, cop, bop, PV.bi, PV.bind, PV.binds, wipeE, consO, PV.small64, line, mkS, asPart, okD, okDs, eqD, eqDs, sub, subM, slc, meM, meK, evPs, PV.forM, freezeE, PV.isNon, pmod, pdiv, PV.putAt, sameD, h1, h2, h3, sq0]
  · refine ⟨d2.toNat, s3, by omega, t3, ?_⟩
    have e : ((d2.toNat : Nat) : Int) = d2 := by omega
    rw [e]
    simp [LB, F__law_late, nth, exs, ex, ev, evs, evP, evI, tests, M.bind, M.pure, M.of, M.fail, Env.get, Env.bor, isTy, tru, cop, bop, PV.bi, PV.bind, PV.binds, wipeE, consO, PV.small64, line, mkS, asPart, okD, okDs, eqD, eqDs, sub, subM, slc, meM, meK, evPs, PV.forM, freezeE, PV.isNon, pmod, pdiv, PV.putAt, sameD, h1, h2, h3, sq1]
def lateVs (one other : Int × Int) : List D := [.lst [.tup [.int 0, pairD one], .tup [.int 0, pairD other], .tup [.int 0, pairD one]]]
theorem zlt : (0 : Int) < 65536 := by decide
theorem late_ans (late : Nat) (one other : Int × Int) (h1 : AddrOk one) (h2 : AddrOk other) : AnsOk [.int (1 + (late : Int))] (lateVs one other) (lateAns late one other) := by
  refine ⟨fun t => ?_, fun t x hx => ?_, fun t => ?_⟩
  · unfold lateAns dget keyAt keyAt
    by_cases c : t = (late : Int) + 1
    · have e : eqD (.int (1 + (late : Int))) (.int t) = true := by show ((1 + (late : Int)) == t) = true; exact beq_iff_eq.mpr (by omega)
      rw [if_pos c, if_pos e]
      exact .inl rfl
    · have e : ¬ eqD (.int (1 + (late : Int))) (.int t) = true := by show ¬ ((1 + (late : Int)) == t) = true; intro z; exact c (by have := beq_iff_eq.mp z; omega)
      rw [if_neg c, if_neg e]
      exact .inr rfl
  · unfold lateAns at hx
    split at hx
    · rcases List.mem_cons.mp hx with rfl | hx
      · exact ⟨h1, Int.le_refl 0, zlt⟩
      rcases List.mem_cons.mp hx with rfl | hx
      · exact ⟨h2, Int.le_refl 0, zlt⟩
      rcases List.mem_cons.mp hx with rfl | hx
      · exact ⟨h1, Int.le_refl 0, zlt⟩
      cases hx
    · cases hx
  · unfold lateAns
    split
    · exact Nat.le_refl _
    · exact Nat.zero_le _
theorem late_s1 (n : Nat) (s : S) (hw boot : Int) (one other : Int × Int) (late : Nat) (hl : late < 230) (w1 : 1 ≤ hw) (w2 : hw ≤ 200) (b1 : 1 ≤ boot) (b2 : boot ≤ 201) (h1 : AddrOk one) (h2 : AddrOk other) :
    ex (callN P (n + 7)) (nth 1 LB) [.val (.cel 0), .val (.int hw), .val (.int boot), .val (pairD one), .val (pairD other), .val (.int late), .val (.int 420), .no, .no, .no] s =
      some (.nx [.val (.cel 0), .val (.int hw), .val (.int boot), .val (pairD one), .val (pairD other), .val (.int late), .val (.int 420), .val (.tup [.lst ((sim (lateAns late one other) 420).all.map .int), .lst (sim (lateAns late one other) 420).turns, stS hw boot 420 (sim (lateAns late one other) 420)]), .no, .no], s) := by
  have hr := run_ok n hw boot s _ _ _ 420 w1 w2 b1 b2 (late_ans late one other h1 h2) (by omega)
  have hr : callN P (n + 7) 25 [.int hw, .int boot, .dct [.int (1 + (late : Int))] (lateVs one other), .int 420] s = some (.tup [.lst ((sim (lateAns late one other) 420).all.map .int), .lst (sim (lateAns late one other) 420).turns, stS hw boot 420 (sim (lateAns late one other) 420)], s) := hr
  generalize D.tup [.lst ((sim (lateAns late one other) 420).all.map .int), .lst (sim (lateAns late one other) 420).turns, stS hw boot 420 (sim (lateAns late one other) 420)] = Z at hr ⊢
  unfold lateVs at hr
  simp [LB, F__law_late, nth, exs, ex, ev, evs, evP, evI, tests, M.bind, M.pure, M.of, M.fail, Env.get, Env.bor, isTy, tru, cop, bop, PV.bi, PV.bind, PV.binds, wipeE, consO, PV.small64, line, mkS, asPart, okD, okDs, eqD, eqDs, sub, subM, slc, meM, meK, evPs, PV.forM, freezeE, PV.isNon, pmod, pdiv, PV.putAt, sameD, isKey, dputs, dput, hr]
theorem eqDs_ints : ∀ l : List Int, eqDs (l.map D.int) (l.map D.int) = true
  | [] => rfl
  | x :: xs => by
    rw [List.map_cons]
    show (eqD (.int x) (.int x) && eqDs (xs.map D.int) (xs.map D.int)) = true
    rw [eqDs_ints xs]
    show ((x == x) && true) = true
    rw [beq_self_eq_true]; rfl
abbrev lEnv (hw boot : Int) (one other : Int × Int) (late : Nat) (z a b : PV.Slot) : PV.Env := [.val (.cel 0), .val (.int hw), .val (.int boot), .val (pairD one), .val (pairD other), .val (.int late), .val (.int 420), z, a, b]
def tailC : Nat → Cs → Cs
  | 0, cs => cs
  | n + 1, .cons _ cs => tailC n cs
  | _, .nil => .nil
theorem late_big (n : Nat) (s : S) (hw boot : Int) (one other : Int × Int) (late : Nat) (hl : 199 < late) (Z : D) (hh : callN P (n + 7) 17 [Z] s = some (.non, s)) :
    exs (callN P (n + 7)) (tailC 2 LB) (lEnv hw boot one other late (.val (.tup [.lst ((rowI 1 420).map .int), .lst [], Z])) .no .no) s = some (.ret (.bl true), s) := by
  have hr := law_row_ok (n + 6) 1 420 s (by omega) (by omega)
  have hr : callN P (n + 7) 24 [.int 1, .int 12, .int 420] s = some (.lst ((rowI 1 420).map .int), s) := hr
  have ok := okDs_ints 57 (rowI 1 420)
  have eq := eqDs_ints (rowI 1 420)
  have hi : (199 : Int) < late := by omega
  generalize (rowI 1 420).map D.int = L at hr ok eq ⊢
  simp [LB, tailC, lEnv, F__law_late, exs, ex, ev, evs, evP, evI, tests, M.bind, M.pure, M.of, M.fail, Env.get, Env.bor, isTy, tru, cop, bop, PV.bi, PV.bind, PV.binds, wipeE, consO, PV.small64, line, mkS, asPart, okD, okDs, eqD, eqDs, sub, subM, slc, meM, meK, evPs, PV.forM, freezeE, PV.isNon, pmod, pdiv, PV.putAt, sameD, hr, hh, ok, eq, hi, cut, HT.sIx, sq2]
theorem okDs_append57 {n : Nat} : ∀ {a b : List D}, okDs n a = true → okDs n b = true → okDs n (a ++ b) = true
  | [], b, _, h => h
  | x :: xs, b, h1, h2 => by
    cases n with
    | zero => simp [okDs, okD] at h1
    | succ n =>
      simp only [okDs, List.cons_append, Bool.and_eq_true] at h1 ⊢
      exact ⟨h1.1, okDs_append57 h1.2 h2⟩
theorem eqDs_append {a b c d : List D} (h1 : eqDs a c = true) (h2 : eqDs b d = true) : eqDs (a ++ b) (c ++ d) = true := by
  induction a generalizing c with
  | nil => cases c with
    | nil => exact h2
    | cons _ _ => cases h1
  | cons x xs ih => cases c with
    | nil => cases h1
    | cons y ys =>
      have h1 : (eqD x y && eqDs xs ys) = true := h1
      obtain ⟨p, q⟩ := Bool.and_eq_true_iff.mp h1
      show (eqD x y && eqDs (xs ++ b) (ys ++ d)) = true
      rw [p, ih q]; rfl
theorem big_line {a b : Nat} (h1 : a ≤ 1000) (h2 : b ≤ 1000) : a + b ≤ line := by unfold line; omega
theorem row_len_le {f t : Int} (h : t - f ≤ 10000) : (rowI f t).length ≤ 1000 := by
  unfold rowI
  split
  · rw [List.length_map, List.length_range]; omega
  · exact Nat.zero_le _
theorem row_lens (late : Nat) (hl : late ≤ 199) : ((rowI 1 ((late + 1 : Nat) : Int)).map D.int).length + ((rowI (lateF late) 420).map D.int).length ≤ line := by
  have h1 : ((rowI 1 ((late + 1 : Nat) : Int)).map D.int).length ≤ 1000 := by rw [List.length_map]; exact row_len_le (by omega)
  have h2 : ((rowI (lateF late) 420).map D.int).length ≤ 1000 := by rw [List.length_map]; exact row_len_le (by unfold lateF; split <;> omega)
  exact big_line h1 h2
theorem ev_call {call : Nat → List D → M D} {f : Nat} {es : Es} {b : Bool} {ρ : PV.Env} {s s1 s2 : S} {ds : List D} {d : D} (h : evs call es false ρ s = some (ds, s1)) (hc : call f ds s1 = some (d, s2)) : ev call (.call f es) b ρ s = some (d, s2) := by
  show M.bind (evs call es false ρ) (fun ds => call f ds) s = _
  rw [M.bind_of h]
  exact hc
theorem late_q4 (n : Nat) (s : S) (hw boot : Int) (one other : Int × Int) (late : Nat) (z : D) (T : Int) (L1 : List D) (ec3 : (1 : Int) + (late : Int) = T) (hr1 : callN P (n + 7) 24 [.int 1, .int 12, .int T] s = some (.lst L1, s)) : ex (callN P (n + 7)) (nth 4 LB) (lEnv hw boot one other late (.val z) .no .no) s = some (.nx (lEnv hw boot one other late (.val z) (.val (.lst L1)) .no), s) := by
  subst ec3
  exact ex_set (i := 8) (ev_call (f := 24) (ds := [.int 1, .int 12, .int (1 + (late : Int))]) rfl hr1)
theorem late_fin (n : Nat) (s : S) (hw boot : Int) (one other : Int × Int) (late : Nat) (T : Int) (LL : List D) (x : PV.Slot) (Z : D) (ec3 : (1 : Int) + (late : Int) = T) (ok1 : okDs 58 LL = true) (eq1 : eqDs LL LL = true) (okp : okD 57 (pairD one) = true) (eqp : eqD (pairD one) (pairD one) = true) :
    exs (callN P (n + 7)) (.cons (nth 6 LB) .nil) (lEnv hw boot one other late (.val (.tup [.lst LL, .lst [.tup [.int T, pairD one], .tup [.int 201, .non]], Z])) x (.val (.lst LL))) s = some (.ret (.bl true), s) := by
  simp [LB, nth, lEnv, F__law_late, exs, ex, ev, evs, evP, evI, tests, M.bind, M.pure, M.of, M.fail, Env.get, Env.bor, isTy, tru, cop, bop, PV.bi, PV.bind, PV.binds, wipeE, consO, PV.small64, line, mkS, asPart, okD, okDs, eqD, eqDs, sub, subM, slc, meM, meK, evPs, PV.forM, freezeE, PV.isNon, pmod, pdiv, PV.putAt, sameD, ok1, eq1, cut, HT.sIx, ec3, okp, eqp]
theorem late_m2 (n : Nat) (s : S) (hw boot : Int) (one other : Int × Int) (late : Nat) (z : D) (L1 : List D) (l f : Int) (hlast : seqAt L1 (-1) = some (.int l)) (hmax : (if (101 : Int) < l + 12 then l + 12 else 101) = f) : ev (callN P (n + 7)) (.blt .max2 (.cons (.int 101) (.cons (.bin .add (.idx (.var 8) (.neg (.int 1))) (.int 12)) .nil))) false (lEnv hw boot one other late (.val z) (.val (.lst L1)) .no) s = some (.int f, s) := by
  rw [← hmax]
  by_cases c : (101 : Int) < l + 12 <;> simp [lEnv, exs, ex, ev, evs, evP, evI, tests, M.bind, M.pure, M.of, M.fail, Env.get, Env.bor, isTy, tru, cop, bop, PV.bi, PV.bind, PV.binds, wipeE, consO, PV.small64, line, mkS, asPart, okD, okDs, eqD, eqDs, sub, subM, slc, meM, meK, evPs, PV.forM, freezeE, PV.isNon, pmod, pdiv, PV.putAt, sameD, hlast, c]
theorem late_q2 (n : Nat) (s : S) (hw boot : Int) (one other : Int × Int) (late : Nat) (ds : List D) : ex (callN P (n + 7)) (nth 2 LB) (lEnv hw boot one other late (.val (.tup ds)) .no .no) s = some (.nx (lEnv hw boot one other late (.val (.tup ds)) .no .no), s) := by
  simp [LB, nth, lEnv, F__law_late, exs, ex, ev, evs, evP, evI, tests, M.bind, M.pure, M.of, M.fail, Env.get, Env.bor, isTy, tru, cop, bop, PV.bi, PV.bind, PV.binds, wipeE, consO, PV.small64, line, mkS, asPart, okD, okDs, eqD, eqDs, sub, subM, slc, meM, meK, evPs, PV.forM, freezeE, PV.isNon, pmod, pdiv, PV.putAt, sameD]
theorem late_q3 (n : Nat) (s : S) (hw boot : Int) (one other : Int × Int) (late : Nat) (z : D) (hi : ¬ (199 : Int) < late) : ex (callN P (n + 7)) (nth 3 LB) (lEnv hw boot one other late (.val z) .no .no) s = some (.nx (lEnv hw boot one other late (.val z) .no .no), s) := by
  simp [LB, nth, lEnv, F__law_late, exs, ex, ev, evs, evP, evI, tests, M.bind, M.pure, M.of, M.fail, Env.get, Env.bor, isTy, tru, cop, bop, PV.bi, PV.bind, PV.binds, wipeE, consO, PV.small64, line, mkS, asPart, okD, okDs, eqD, eqDs, sub, subM, slc, meM, meK, evPs, PV.forM, freezeE, PV.isNon, pmod, pdiv, PV.putAt, sameD, hi]
theorem late_q6 (n : Nat) (s : S) (hw boot : Int) (one other : Int × Int) (late : Nat) (z : D) (L1 L2 : List D) (l f : Int) (hlast : seqAt L1 (-1) = some (.int l)) (hmax : (if (101 : Int) < l + 12 then l + 12 else 101) = f) (hr2 : callN P (n + 7) 24 [.int f, .int 12, .int 420] s = some (.lst L2, s)) (hlen : L1.length + L2.length ≤ line) :
    ex (callN P (n + 7)) (nth 5 LB) (lEnv hw boot one other late (.val z) (.val (.lst L1)) .no) s = some (.nx (lEnv hw boot one other late (.val z) (.val (.lst L1)) (.val (.lst (L1 ++ L2)))), s) := by
  have m2 := late_m2 n s hw boot one other late z L1 l f hlast hmax
  have q5 : ev (callN P (n + 7)) (.call 24 (.cons (.blt .max2 (.cons (.int 101) (.cons (.bin .add (.idx (.var 8) (.neg (.int 1))) (.int 12)) .nil))) (.cons (.int 12) (.cons (.var 6) .nil)))) true (lEnv hw boot one other late (.val z) (.val (.lst L1)) .no) s = some (.lst L2, s) :=
    ev_call (ds := [.int f, .int 12, .int 420]) ((M.bind_of m2).trans rfl) hr2
  refine (ex_set (i := 9) (d := .lst (L1 ++ L2)) ?_).trans rfl
  show M.bind (ev (callN P (n + 7)) (.var 8) true _) (fun x => M.bind (ev (callN P (n + 7)) _ true _) fun y => M.of (bop .add x y)) s = _
  rw [M.bind_of (show ev (callN P (n + 7)) (.var 8) true _ s = some (.lst L1, s) from rfl), M.bind_of q5]
  show M.of (if L1.length + L2.length ≤ line then some (D.lst (L1 ++ L2)) else none) s = _
  rw [if_pos hlen]
  rfl
theorem late_small (n : Nat) (s : S) (hw boot : Int) (one other : Int × Int) (late : Nat) (hl : late ≤ 199) (Z : D) :
    exs (callN P (n + 7)) (tailC 2 LB) (lEnv hw boot one other late (.val (.tup [.lst ((rowI 1 ((late : Int) + 1) ++ rowI (lateF late) 420).map .int), .lst [.tup [.int ((late : Int) + 1), pairD one], .tup [.int 201, .non]], Z])) .no .no) s = some (.ret (.bl true), s) := by
  have ec : (1 : Int) + (late : Int) = ((late + 1 : Nat) : Int) := by omega
  have ec2 : ((late : Int) + 1) = ((late + 1 : Nat) : Int) := by omega
  have hr1 := law_row_ok (n + 6) 1 (late + 1) s (by omega) (by omega)
  have hf : 1 ≤ lateF late := by unfold lateF lateL; split <;> omega
  have hr2 := law_row_ok (n + 6) (lateF late) 420 s hf (by omega)
  have hr1 : callN P (n + 7) 24 [.int 1, .int 12, .int ((late + 1 : Nat) : Int)] s = some (.lst ((rowI 1 ((late + 1 : Nat) : Int)).map .int), s) := hr1
  have hr2 : callN P (n + 7) 24 [.int (lateF late), .int 12, .int 420] s = some (.lst ((rowI (lateF late) 420).map .int), s) := hr2
  have hlast : seqAt ((rowI 1 ((late + 1 : Nat) : Int)).map D.int) (-1) = some (.int (lateL late)) := by
    have h := row_last (f := 1) (t := ((late + 1 : Nat) : Int)) (by omega) []
    rw [List.nil_append] at h
    have hv : 1 + 12 * ((((late + 1 : Nat) : Int) - 1) / 12) = lateL late := by
      have e0 : ((late + 1 : Nat) : Int) - 1 = (late : Int) := by omega
      rw [e0]; rfl
    rw [hv] at h
    have hne : (rowI 1 ((late + 1 : Nat) : Int)) ≠ [] := fun e => by rw [e] at h; cases h
    have hl0 : 0 < (rowI 1 ((late + 1 : Nat) : Int)).length := List.length_pos_iff.mpr hne
    unfold seqAt
    rw [if_neg (by decide), if_pos (by rw [List.length_map]; omega), List.length_map]
    have e : ((-1 : Int) + ((rowI 1 ((late + 1 : Nat) : Int)).length : Int)).toNat = (rowI 1 ((late + 1 : Nat) : Int)).length - 1 := by omega
    rw [e, List.getElem?_map, ← List.getLast?_eq_getElem?, h]
    rfl
  have hlen := row_lens late hl
  have ok1 := okDs_append57 (okDs_ints 57 (rowI 1 ((late + 1 : Nat) : Int))) (okDs_ints 57 (rowI (lateF late) 420))
  have eq1 := eqDs_append (eqDs_ints (rowI 1 ((late + 1 : Nat) : Int))) (eqDs_ints (rowI (lateF late) 420))
  have hi : ¬ (199 : Int) < late := by omega
  have okp : okD 57 (pairD one) = true := rfl
  have eqp : eqD (pairD one) (pairD one) = true := (eq_pair one one).trans (decide_eq_true rfl)
  have hmax : (if (101 : Int) < lateL late + 12 then lateL late + 12 else 101) = lateF late := rfl
  rw [List.map_append, ec2]
  generalize (rowI 1 ((late + 1 : Nat) : Int)).map D.int = L1 at hr1 hlast hlen ok1 eq1 ⊢
  generalize (rowI (lateF late) 420).map D.int = L2 at hr2 hlen ok1 eq1 ⊢
  have hb : tailC 2 LB = .cons (nth 2 LB) (.cons (nth 3 LB) (.cons (nth 4 LB) (.cons (nth 5 LB) (.cons (nth 6 LB) .nil)))) := rfl
  rw [hb, exs_nx (late_q2 n s hw boot one other late _), exs_nx (late_q3 n s hw boot one other late _ hi), exs_nx (late_q4 n s hw boot one other late _ _ L1 ec hr1), exs_nx (late_q6 n s hw boot one other late _ L1 L2 _ _ hlast hmax hr2 hlen)]
  exact late_fin n s hw boot one other late _ (L1 ++ L2) _ Z ec ok1 eq1 okp eqp
theorem late_ok (n : Nat) (s : S) (hw boot : Int) (one other : Int × Int) (ht : TapeOk s) (w1 : 1 ≤ hw) (w2 : hw ≤ 200) (b1 : 1 ≤ boot) (b2 : boot ≤ 201) (h1 : AddrOk one) (h2 : AddrOk other) (ne : one ≠ other) :
    ∃ s', callN P (n + 8) 26 [.cel 0, .int hw, .int boot, pairD one, pairD other] s = some (.bl true, s') ∧ TapeOk s' := by
  obtain ⟨late, s', hl, t', q0⟩ := late_s0 (n + 6) s ht (.val (.int hw)) (.val (.int boot)) (.val (pairD one)) (.val (pairD other))
  refine ⟨s', ?_, t'⟩
  have q1 := late_s1 n s' hw boot one other late hl w1 w2 b1 b2 h1 h2
  have hb : F__law_late.body = .cons (nth 0 LB) (.cons (nth 1 LB) (tailC 2 LB)) := rfl
  refine callN_ret (fn := F__law_late) rfl rfl ?_
  rw [hb]
  refine (exs_nx q0).trans ?_
  rw [exs_nx q1]
  by_cases c : 199 < late
  · rw [late_no late one other c (by omega)]
    exact late_big n s' hw boot one other late c _ (lease_held_ok (n + 6) hw boot 420 _ _ none s')
  · rw [late_yes late one other (by omega) ne]
    exact late_small n s' hw boot one other late (by omega) _
end K34
set_option Elab.async false
set_option linter.all false
set_option autoImplicit false
set_option maxRecDepth 100000
set_option maxHeartbeats 2000000
namespace K34
open PySem PySem.Spec L2 PV
open PyProof.Rows hiding St
/-! ### answers to another host -/
theorem host_answer_no (n : Nat) (hw boot t num hw2 boot2 k : Int) (a : Int × Int) (asks : List (Int × Int)) (held : Held) (s : S) (hne : hw2 ≠ hw ∨ boot2 ≠ boot) :
    callN P (n + 1) 22 [stD hw boot t num asks held, .tup [.str "answer", .int hw2, .int boot2, .int k, pairD a]] s = some (.tup [stD hw boot t num asks held, .tup []], s) := by
  rw [callN_eq n 22 _ s F_host_answer rfl rfl, toldE_eq]
  have e0 : PyData.strOk ("answer" : Str) = true := by decide +kernel
  have hc : ((hw2 == hw) && (boot2 == boot)) = false := by
    rcases hne with h | h
    · rw [beq_eq_false_iff_ne.mpr h]; rfl
    · rw [beq_eq_false_iff_ne.mpr h, Bool.and_false]
  unfold stD
  generalize asks.map pairD = L
  generalize heldD held = Hd
  cases h1 : (hw2 == hw) with
  | false => simp [F_host_answer, toldE_body, exs, ex, ev, evs, evP, evI, tests, M.bind, M.pure, M.of, M.fail, Env.get, Env.bor, isTy, tru, cop, bop, PV.bi, PV.bind, PV.binds, wipeE, consO, PV.small64, line, mkS, asPart, okD, okDs, eqD, eqDs, sub, subM, slc, meM, meK, evPs, PV.forM, freezeE, PV.isNon, pmod, pdiv, PV.putAt, sameD, e0, cut, HT.sIx, sq0, sq1, h1, beq_eq_false_iff_ne.mp h1]
  | true =>
    rw [h1, Bool.true_and] at hc
    simp [F_host_answer, toldE_body, exs, ex, ev, evs, evP, evI, tests, M.bind, M.pure, M.of, M.fail, Env.get, Env.bor, isTy, tru, cop, bop, PV.bi, PV.bind, PV.binds, wipeE, consO, PV.small64, line, mkS, asPart, okD, okDs, eqD, eqDs, sub, subM, slc, meM, meK, evPs, PV.forM, freezeE, PV.isNon, pmod, pdiv, PV.putAt, sameD, e0, cut, HT.sIx, sq0, sq1, h1, hc, beq_eq_false_iff_ne.mp hc, beq_iff_eq.mp h1]
theorem step_word (n : Nat) (hw boot k : Int) (a : Int × Int) (st r : D) (s : S) (w1 : 1 ≤ hw) (w2 : hw ≤ 200) (b1 : 1 ≤ boot) (b2 : boot ≤ 201) (n1 : 0 ≤ k) (n2 : k < 65536) (h1 : 1 ≤ a.1) (h2 : a.1 ≤ 30) (h3 : 1 ≤ a.2) (h4 : a.2 ≤ 250)
    (ha : callN P (n + 5) 22 [st, .tup [.str "answer", .int hw, .int boot, .int k, pairD a]] s = some (r, s)) :
    callN P (n + 6) 18 [st, .tup [.str "up", .tup [.int 9, .tup [.int 2, .int hw, .int boot, .int (o1 k), .int (o2 k), .int a.1, .int a.2]]]] s = some (r, s) := by
  rw [callN_eq (n + 5) 18 _ s F_lease_host_step rfl rfl]
  have e1 : PyData.strOk ("tick" : Str) = true := by decide +kernel
  have e2 : PyData.strOk ("up" : Str) = true := by decide +kernel
  have lw := lease_word_ok n hw boot k a.1 a.2 s w1 w2 b1 b2 n1 n2 h1 h2 h3 h4
  have ha' : callN P (n + 5) 22 [st, .tup [.str "answer", .int hw, .int boot, .int k, .tup [.int a.1, .int a.2]]] s = some (r, s) := ha
  have nt : (("up" : Str) == ("tick" : Str)) = false := by decide +kernel
  simp [F_lease_host_step, exs, ex, ev, evs, evP, evI, tests, M.bind, M.pure, M.of, M.fail, Env.get, Env.bor, isTy, tru, cop, bop, PV.bi, PV.bind, PV.binds, wipeE, consO, PV.small64, line, mkS, asPart, okD, okDs, eqD, eqDs, sub, subM, slc, meM, meK, evPs, PV.forM, freezeE, PV.isNon, pmod, pdiv, PV.putAt, sameD, e1, e2, lw, ha', is_frame_ok, sq0, sq1, nt]
def ans5 : Int → List (Int × (Int × Int)) := fun t => if t = 5 then [(0, (3, 1))] else []
theorem never_none : sim (fun _ => []) 300 = ⟨rowI 1 300, none, []⟩ := by
  have n : NextAsk 0 [] none 1 := ⟨fun x h => (by cases h), fun a x h => (by cases h), .inl (by omega)⟩
  have h := quiet (ans := fun _ => []) (t0 := 0) (tu := []) n rfl 300 (fun i h1 h2 => ⟨rfl, rfl⟩)
  exact h
theorem never_five : (sim ans5 150).turns = [.tup [.int 5, pairD (3, 1)]] := by kernel_rfl
theorem eqDs_pairs : ∀ l : List (Int × Int), eqDs (l.map pairD) (l.map pairD) = true
  | [] => rfl
  | x :: xs => by
    rw [List.map_cons]
    show (eqD (pairD x) (pairD x) && eqDs (xs.map pairD) (xs.map pairD)) = true
    rw [eqDs_pairs xs, (eq_pair x x).trans (decide_eq_true rfl)]
    rfl
theorem st_ok (hw boot t num : Int) (asks : List (Int × Int)) : okD 59 (stD hw boot t num asks none) = true ∧ eqD (stD hw boot t num asks none) (stD hw boot t num asks none) = true := by
  have e0 : PyData.strOk ("lease host" : Str) = true := by decide +kernel
  have h1 := okDs_map 57 pairD asks (fun x _ => by simp [pairD, okD, okDs])
  have h2 := eqDs_pairs asks
  unfold stD
  generalize asks.map pairD = L at h1 h2 ⊢
  exact ⟨by simp [okD, okDs, e0, h1, heldD], by simp [eqD, eqDs, h2, heldD]⟩
theorem none_ans : AnsOk [] [] (fun _ => []) := ⟨fun t => .inr rfl, fun t x hx => (by cases hx), fun t => Nat.zero_le _⟩
theorem five_ans : AnsOk [.int 5] [.lst [.tup [.int 0, .tup [.int 3, .int 1]]]] ans5 := by
  refine ⟨fun t => ?_, fun t x hx => ?_, fun t => ?_⟩
  · unfold ans5 dget keyAt keyAt
    by_cases c : t = 5
    · have e : eqD (.int 5) (.int t) = true := by show ((5 : Int) == t) = true; exact beq_iff_eq.mpr c.symm
      rw [if_pos c, if_pos e]
      exact .inl rfl
    · have e : ¬ eqD (.int 5) (.int t) = true := by show ¬ ((5 : Int) == t) = true; intro z; exact c (beq_iff_eq.mp z).symm
      rw [if_neg c, if_neg e]
      exact .inr rfl
  · unfold ans5 at hx
    split at hx
    · rcases List.mem_cons.mp hx with rfl | hx
      · exact ⟨⟨by decide, by decide, by decide, by decide⟩, by decide, by decide⟩
      cases hx
    · cases hx
  · unfold ans5
    split
    · show 1 ≤ 3; omega
    · exact Nat.zero_le _
end K34
set_option Elab.async false
set_option linter.all false
set_option autoImplicit false
set_option maxRecDepth 100000
set_option maxHeartbeats 2000000
namespace K34
open PySem PySem.Spec L2 PV
open PyProof.Rows hiding St
theorem never_ok (n : Nat) (hw boot : Int) (s : S) (w1 : 1 ≤ hw) (w2 : hw ≤ 200) (b1 : 1 ≤ boot) (b2 : boot ≤ 201) : callN P (n + 8) 28 [.int hw, .int boot] s = some (.bl true, s) := by
  refine callN_ret (fn := F__law_never) rfl rfl ?_
  have r1 := run_ok n hw boot s [] [] (fun _ => []) 300 w1 w2 b1 b2 none_ans (by omega)
  rw [never_none] at r1
  have r1 : callN P (n + 7) 25 [.int hw, .int boot, .dct [] [], .int 300] s = some (.tup [.lst ((rowI 1 300).map .int), .lst [], stS hw boot 300 ⟨rowI 1 300, none, []⟩], s) := r1
  have r5 := run_ok n hw boot s [.int 5] [.lst [.tup [.int 0, .tup [.int 3, .int 1]]]] ans5 150 w1 w2 b1 b2 five_ans (by omega)
  rw [never_five] at r5
  have r5 : callN P (n + 7) 25 [.int hw, .int boot, .dct [.int 5] [.lst [.tup [.int 0, .tup [.int 3, .int 1]]]], .int 150] s = some (.tup [.lst ((sim ans5 150).all.map .int), .lst [.tup [.int 5, .tup [.int 3, .int 1]]], stS hw boot 150 (sim ans5 150)], s) := r5
  generalize (sim ans5 150).all.map D.int = L5 at r5
  generalize stS hw boot 150 (sim ans5 150) = Z5 at r5
  have hrow : callN P (n + 7) 24 [.int 1, .int 12, .int 300] s = some (.lst ((rowI 1 300).map .int), s) := law_row_ok (n + 6) 1 300 s (by omega) (by omega)
  have hw' : 1 ≤ hw % 200 + 1 ∧ hw % 200 + 1 ≤ 200 ∧ hw % 200 + 1 ≠ hw := by omega
  have bo' : 1 ≤ boot % 201 + 1 ∧ boot % 201 + 1 ≤ 201 ∧ boot % 201 + 1 ≠ boot := by omega
  have a1 := lease_answer_ok (n + 3) (hw % 200 + 1) boot 24 3 1 s (by omega) (by omega) (by omega) (by omega)
  have a2 := lease_answer_ok (n + 3) hw (boot % 201 + 1) 24 3 1 s (by omega) (by omega) (by omega) (by omega)
  have a3 := lease_answer_ok (n + 3) hw boot 60000 3 1 s (by omega) (by omega) (by omega) (by omega)
  have k1 := step_word (n + 1) (hw % 200 + 1) boot 24 (3, 1) (stS hw boot 300 ⟨rowI 1 300, none, []⟩) _ s hw'.1 hw'.2.1 b1 b2 (by omega) (by omega) (by omega) (by omega) (by omega) (by omega) (host_answer_no (n + 5) hw boot 300 _ (hw % 200 + 1) boot 24 (3, 1) _ none s (.inl hw'.2.2))
  have k2 := step_word (n + 1) hw (boot % 201 + 1) 24 (3, 1) (stS hw boot 300 ⟨rowI 1 300, none, []⟩) _ s w1 w2 bo'.1 bo'.2.1 (by omega) (by omega) (by omega) (by omega) (by omega) (by omega) (host_answer_no (n + 5) hw boot 300 _ hw (boot % 201 + 1) 24 (3, 1) _ none s (.inr bo'.2.2))
  have kl : (kept (rowI 1 300)).length ≤ 17 := by rw [kept_len]; omega
  have tl : toldL 60000 (kept (rowI 1 300)) = [] := by
    have h := told_kept 60000 (rowI 1 300)
    rw [rowI_len (by omega)] at h
    have e : (rowI 1 300)[60000]? = none := List.getElem?_eq_none (by rw [rowI_len (by omega)]; omega)
    rw [e] at h
    have h : toldL 60000 (kept (rowI 1 300)) = (if _ then _ else _) := h
    rw [h]; split <;> rfl
  have ha := host_answer_ok (n + 5) hw boot 300 (rowI 1 300).length 60000 (3, 1) (kept (rowI 1 300)) none s kl
  unfold ansHeld ansOut at ha
  rw [tl] at ha
  have k3 := step_word (n + 1) hw boot 60000 (3, 1) (stS hw boot 300 ⟨rowI 1 300, none, []⟩) _ s w1 w2 b1 b2 (by omega) (by omega) (by omega) (by omega) (by omega) (by omega) ha
  obtain ⟨z1, z2⟩ := st_ok hw boot 300 (rowI 1 300).length (kept (rowI 1 300))
  have z1 : okD 59 (stS hw boot 300 ⟨rowI 1 300, none, []⟩) = true := z1
  have z2 : eqD (stS hw boot 300 ⟨rowI 1 300, none, []⟩) (stS hw boot 300 ⟨rowI 1 300, none, []⟩) = true := z2
  have k1 : callN P (n + 7) 18 [stS hw boot 300 ⟨rowI 1 300, none, []⟩, .tup [.str "up", .tup [.int 9, .tup [.int 2, .int (hw % 200 + 1), .int boot, .int (o1 24), .int (o2 24), .int 3, .int 1]]]] s = some (.tup [stS hw boot 300 ⟨rowI 1 300, none, []⟩, .tup []], s) := k1
  have k2 : callN P (n + 7) 18 [stS hw boot 300 ⟨rowI 1 300, none, []⟩, .tup [.str "up", .tup [.int 9, .tup [.int 2, .int hw, .int (boot % 201 + 1), .int (o1 24), .int (o2 24), .int 3, .int 1]]]] s = some (.tup [stS hw boot 300 ⟨rowI 1 300, none, []⟩, .tup []], s) := k2
  have k3 : callN P (n + 7) 18 [stS hw boot 300 ⟨rowI 1 300, none, []⟩, .tup [.str "up", .tup [.int 9, .tup [.int 2, .int hw, .int boot, .int (o1 60000), .int (o2 60000), .int 3, .int 1]]]] s = some (.tup [stS hw boot 300 ⟨rowI 1 300, none, []⟩, .tup []], s) := k3
  have okL := okDs_ints 57 (rowI 1 300)
  have eqL := eqDs_ints (rowI 1 300)
  generalize stS hw boot 300 ⟨rowI 1 300, none, []⟩ = Z at *
  generalize (rowI 1 300).map D.int = L at *
  simp [F__law_never, exs, ex, ev, evs, evP, evI, tests, M.bind, M.pure, M.of, M.fail, Env.get, Env.bor, isTy, tru, cop, bop, PV.bi, PV.bind, PV.binds, wipeE, consO, PV.small64, line, mkS, asPart, okD, okDs, eqD, eqDs, sub, subM, slc, meM, meK, evPs, PV.forM, freezeE, PV.isNon, pmod, pdiv, PV.putAt, sameD, r1, r5, hrow, a1, a2, a3, k1, k2, k3, z1, z2, okL, eqL, dputs, dput, isKey, cut, HT.sIx, sq0, sq1, sq2]
end K34
set_option Elab.async false
set_option linter.all false
set_option autoImplicit false
set_option maxRecDepth 100000
set_option maxHeartbeats 2000000
namespace K34
open PySem PySem.Spec L2 PV
open PyProof.Rows hiding St
/-! ### renewed again and again -/
def renTick (often again : Nat) : Int := 1 + 100 * ((often : Int) - 1) + 100 + 12 * (again : Int)
def renAns (often again : Nat) (one other : Int × Int) : Int → List (Int × (Int × Int)) := fun t =>
  if t = renTick often again then [((often : Int) + again, other), ((often : Int) + again, one)]
  else if 1 ≤ t ∧ (t - 1) % 100 = 0 ∧ (t - 1) / 100 < often then [((t - 1) / 100, one)] else []
def renL (j : Nat) : List Int := (List.range (j + 1)).map fun (i : Nat) => 1 + 100 * (i : Int)
theorem renL_last (j : Nat) : (renL j).getLast? = some (1 + 100 * (j : Int)) := by
  unfold renL
  rw [List.range_succ, List.map_append, List.getLast?_append]
  rfl
theorem renL_succ (j : Nat) : renL (j + 1) = renL j ++ [1 + 100 * ((j : Int) + 1)] := by
  unfold renL
  rw [List.range_succ, List.map_append]
  rfl
theorem renL_len (j : Nat) : (renL j).length = j + 1 := by unfold renL; simp
theorem told_last (l : List Int) (x : Int) : toldL (l.length : Int) (kept (l ++ [x])) = [x] := by
  have h := told_kept l.length (l ++ [x])
  rw [h, if_pos (by rw [List.length_append, List.length_singleton]; omega), List.getElem?_append_right (Nat.le_refl _), Nat.sub_self]
  rfl
theorem ren_at (often again j : Nat) (one other : Int × Int) (hj : j < often) : renAns often again one other (1 + 100 * (j : Int)) = [((j : Int), one)] := by
  unfold renAns renTick
  rw [if_neg (by omega), if_pos ⟨by omega, by omega, by omega⟩]
  congr 2
  omega
theorem ren_not (often again : Nat) (one other : Int × Int) (t : Int) (h1 : t ≠ renTick often again) (h2 : ∀ j : Nat, j < often → t ≠ 1 + 100 * (j : Int)) : renAns often again one other t = [] := by
  unfold renAns
  rw [if_neg h1, if_neg]
  rintro ⟨a, b, c⟩
  exact h2 ((t - 1) / 100).toNat (by omega) (by omega)
theorem ren_phase (often again : Nat) (one other : Int × Int) : ∀ j : Nat, j < often → sim (renAns often again one other) (1 + 100 * j) = ⟨renL j, some (one, 1 + 100 * (j : Int)), [.tup [.int 1, pairD one]]⟩
  | 0, hj => by
    have n : NextAsk 0 [] none 1 := ⟨fun x h => (by cases h), fun a x h => (by cases h), .inl (by omega)⟩
    show simTick (renAns often again one other) (((0 : Nat) : Int) + 1) (sim (renAns often again one other) 0) = _
    have e : sim (renAns often again one other) 0 = ⟨[] ++ rowI 1 ((0 : Nat) : Int), none, []⟩ := rfl
    have ha := ren_at often again 0 one other hj
    have ha : renAns often again one other (((0 : Nat) : Int) + 1) = [((0 : Int), one)] := ha
    unfold simTick
    rw [e, ha, tick_row n (by omega) rfl]
    have t0 : toldL 0 (kept ([] ++ rowI 1 (((0 : Nat) : Int) + 1))) = [1] := told_last [] 1
    simp only [List.foldl_cons, List.foldl_nil]
    unfold answerS ansHeld ansOut
    simp only [t0]
    rfl
  | j + 1, hj => by
    have ih := ren_phase often again one other j (by omega)
    have hl := renL_last j
    have n : NextAsk ((1 + 100 * j : Nat) : Int) (renL j) (some (one, 1 + 100 * (j : Int))) (1 + 100 * ((j : Int) + 1)) := by
      refine ⟨fun x hx => ?_, fun a x hx => ?_, .inr (.inr ⟨one, _, rfl, by omega⟩)⟩
      · rw [hl] at hx; cases hx; omega
      · cases hx; omega
    have hs : sim (renAns often again one other) (1 + 100 * j) = ⟨renL j ++ rowI (1 + 100 * ((j : Int) + 1)) ((1 + 100 * j : Nat) : Int), some (one, 1 + 100 * (j : Int)), [.tup [.int 1, pairD one]]⟩ := by
      rw [ih, rowI_nil (by omega), List.append_nil]
    have q := quiet n hs 99 (fun i h1 h2 => ⟨ren_not often again one other i (by unfold renTick; omega) (fun k hk => by omega), by unfold expire; exact decide_eq_false (by omega)⟩)
    have e : 1 + 100 * (j + 1) = (1 + 100 * j + 99) + 1 := by omega
    have ec : (((1 + 100 * j + 99 : Nat)) : Int) + 1 = 1 + 100 * ((j : Int) + 1) := by omega
    have ha := ren_at often again (j + 1) one other hj
    have ecj : ((j + 1 : Nat) : Int) = (j : Int) + 1 := by omega
    rw [ecj] at ha
    rw [e]
    show simTick (renAns often again one other) (((1 + 100 * j + 99 : Nat) : Int) + 1) (sim (renAns often again one other) (1 + 100 * j + 99)) = _
    unfold simTick
    rw [q, tick_row n (by omega) (by unfold expire; exact decide_eq_false (by omega)), ec, ha]
    have er : rowI (1 + 100 * ((j : Int) + 1)) (1 + 100 * ((j : Int) + 1)) = [1 + 100 * ((j : Int) + 1)] := by
      have := rowI_step (f := 1 + 100 * ((j : Int) + 1)) (t := 100 * ((j : Int) + 1))
      have e0 : 100 * ((j : Int) + 1) + 1 = 1 + 100 * ((j : Int) + 1) := by omega
      rw [e0] at this
      rw [this, if_pos ⟨by omega, by omega⟩, rowI_nil (by omega)]
      rfl
    have tl := told_last (renL j) (1 + 100 * ((j : Int) + 1))
    rw [renL_len, ecj] at tl
    rw [er]
    simp only [List.foldl_cons, List.foldl_nil]
    unfold answerS ansHeld ansOut
    simp only [tl, if_neg (show ¬ (1 + 100 * ((j : Int) + 1) + 200 ≤ 1 + 100 * ((j : Int) + 1)) by omega)]
    have gt : 1 + 100 * ((j : Int) + 1) > 1 + 100 * (j : Int) := by omega
    rw [renL_succ, ecj]
    simp [gt]
end K34
set_option Elab.async false
set_option linter.all false
set_option autoImplicit false
set_option maxRecDepth 100000
set_option maxHeartbeats 2000000
namespace K34
open PySem PySem.Spec L2 PV
open PyProof.Rows hiding St
/-- the last renewal's tick, and the silent one -/
def lastN (j : Nat) : Nat := 1 + 100 * j
def tickN (j again : Nat) : Nat := lastN j + 100 + 12 * again
theorem tick_told (j again : Nat) : toldL (((j + 1 : Nat) : Int) + again) (kept (renL j ++ rowI ((lastN j : Int) + 100) (tickN j again))) = [(tickN j again : Int)] := by
  have hs := rowI_step (f := (lastN j : Int) + 100) (t := (tickN j again : Int) - 1)
  have e0 : (tickN j again : Int) - 1 + 1 = tickN j again := by omega
  rw [e0, if_pos ⟨by unfold tickN; omega, by unfold tickN; omega⟩] at hs
  rw [hs, ← List.append_assoc]
  have hlen : ((renL j ++ rowI ((lastN j : Int) + 100) ((tickN j again : Int) - 1)).length : Int) = ((j + 1 : Nat) : Int) + again := by
    rw [List.length_append, renL_len]
    unfold rowI tickN
    split
    · rw [List.length_map, List.length_range]; omega
    · simp only [List.length_nil]; omega
  rw [← hlen]
  exact told_last _ _
theorem ren_tick (j again : Nat) : renTick (j + 1) again = (tickN j again : Int) := by unfold renTick tickN lastN; omega
theorem ren_quiet (j again : Nat) (one other : Int × Int) (i : Nat) (h1 : lastN j < i) (h2 : i ≠ tickN j again) : renAns (j + 1) again one other i = [] :=
  ren_not (j + 1) again one other i (by rw [ren_tick]; omega) (fun k hk => by unfold lastN at h1; omega)
theorem ren_here (j again : Nat) (one other : Int × Int) : renAns (j + 1) again one other (tickN j again) = [(((j + 1 : Nat) : Int) + again, other), (((j + 1 : Nat) : Int) + again, one)] := by
  unfold renAns
  rw [if_pos (ren_tick j again).symm]
def silA (j again : Nat) : List Int := renL j ++ rowI ((lastN j : Int) + 100) (tickN j again)
theorem silA_last (j again : Nat) : (silA j again).getLast? = some (tickN j again : Int) := by
  unfold silA
  rw [row_last (by unfold tickN; omega)]
  congr 1
  unfold tickN
  omega
theorem ren_held (j again : Nat) (one other : Int × Int) (ne : one ≠ other) (ha : again ≤ 8) : sim (renAns (j + 1) again one other) (tickN j again + 150) = ⟨silA j again ++ rowI ((tickN j again : Int) + 100) ((tickN j again + 150 : Nat) : Int), some (one, tickN j again), [.tup [.int 1, pairD one]]⟩ := by
  have hp := ren_phase (j + 1) again one other j (by omega)
  have hl := renL_last j
  have n : NextAsk ((lastN j : Nat) : Int) (renL j) (some (one, (lastN j : Int))) ((lastN j : Int) + 100) := by
    refine ⟨fun x hx => ?_, fun a x hx => ?_, .inr (.inr ⟨one, _, rfl, rfl⟩)⟩
    · rw [hl] at hx; cases hx; unfold lastN; omega
    · cases hx; omega
  have el : (1 + 100 * (j : Int)) = (lastN j : Int) := by unfold lastN; omega
  have hs : sim (renAns (j + 1) again one other) (lastN j) = ⟨renL j ++ rowI ((lastN j : Int) + 100) (lastN j : Int), some (one, (lastN j : Int)), [.tup [.int 1, pairD one]]⟩ := by
    rw [rowI_nil (by omega), List.append_nil, ← el]
    exact hp
  have q := quiet n hs (99 + 12 * again) (fun i h1 h2 => ⟨ren_quiet j again one other i h1 (by unfold tickN; omega), by unfold expire; exact decide_eq_false (by omega)⟩)
  have et : tickN j again = (lastN j + (99 + 12 * again)) + 1 := by unfold tickN; omega
  have ec : ((lastN j + (99 + 12 * again) : Nat) : Int) + 1 = (tickN j again : Int) := by omega
  have s1 : sim (renAns (j + 1) again one other) (tickN j again) = ⟨silA j again, some (one, (tickN j again : Int)), [.tup [.int 1, pairD one]]⟩ := by
    rw [et]
    show simTick (renAns (j + 1) again one other) (((lastN j + (99 + 12 * again) : Nat) : Int) + 1) (sim (renAns (j + 1) again one other) (lastN j + (99 + 12 * again))) = _
    unfold simTick
    rw [q, tick_row n (by omega) (by unfold expire; exact decide_eq_false (by unfold tickN at *; omega)), ec, ren_here, ← et]
    have tl : toldL ((j : Int) + 1 + again) (kept (renL j ++ rowI ((lastN j : Int) + 100) (tickN j again))) = [(tickN j again : Int)] := tick_told j again
    simp only [List.foldl_cons, List.foldl_nil]
    unfold answerS ansHeld ansOut
    have g1 : ¬ ((tickN j again : Int) + 200 ≤ tickN j again) := by omega
    have g2 : (tickN j again : Int) > lastN j := by unfold tickN; omega
    simp [tl, g1, if_neg ne, g2, silA]
  have n2 : NextAsk ((tickN j again : Nat) : Int) (silA j again) (some (one, (tickN j again : Int))) ((tickN j again : Int) + 100) := by
    refine ⟨fun x hx => ?_, fun a x hx => ?_, .inr (.inr ⟨one, _, rfl, rfl⟩)⟩
    · rw [silA_last] at hx; cases hx; omega
    · cases hx; omega
  have hs2 : sim (renAns (j + 1) again one other) (tickN j again) = ⟨silA j again ++ rowI ((tickN j again : Int) + 100) (tickN j again : Int), some (one, (tickN j again : Int)), [.tup [.int 1, pairD one]]⟩ := by
    rw [rowI_nil (by omega), List.append_nil]
    exact s1
  exact quiet n2 hs2 150 (fun i h1 h2 => ⟨ren_quiet j again one other i (by unfold tickN at h1; omega) (by omega), by unfold expire; exact decide_eq_false (by omega)⟩)
theorem ren_free (j again : Nat) (one other : Int × Int) (ne : one ≠ other) (ha : 9 ≤ again) : sim (renAns (j + 1) again one other) (tickN j again + 150) = ⟨silA j again ++ rowI ((tickN j again : Int) + 100) ((tickN j again + 150 : Nat) : Int), some (other, tickN j again), [.tup [.int 1, pairD one], .tup [.int ((lastN j : Int) + 200), .non], .tup [.int (tickN j again : Int), pairD other]]⟩ := by
  have hp := ren_phase (j + 1) again one other j (by omega)
  have hl := renL_last j
  have n : NextAsk ((lastN j : Nat) : Int) (renL j) (some (one, (lastN j : Int))) ((lastN j : Int) + 100) := by
    refine ⟨fun x hx => ?_, fun a x hx => ?_, .inr (.inr ⟨one, _, rfl, rfl⟩)⟩
    · rw [hl] at hx; cases hx; unfold lastN; omega
    · cases hx; omega
  have el : (1 + 100 * (j : Int)) = (lastN j : Int) := by unfold lastN; omega
  have hs : sim (renAns (j + 1) again one other) (lastN j) = ⟨renL j ++ rowI ((lastN j : Int) + 100) (lastN j : Int), some (one, (lastN j : Int)), [.tup [.int 1, pairD one]]⟩ := by
    rw [rowI_nil (by omega), List.append_nil, ← el]
    exact hp
  have q := quiet n hs 199 (fun i h1 h2 => ⟨ren_quiet j again one other i h1 (by unfold tickN; omega), by unfold expire; exact decide_eq_false (by omega)⟩)
  have s1 : sim (renAns (j + 1) again one other) (lastN j + 200) = ⟨renL j ++ rowI ((lastN j : Int) + 100) ((lastN j + 200 : Nat) : Int), none, [.tup [.int 1, pairD one], .tup [.int ((lastN j : Int) + 200), .non]]⟩ := by
    show simTick (renAns (j + 1) again one other) (((lastN j + 199 : Nat) : Int) + 1) (sim (renAns (j + 1) again one other) (lastN j + 199)) = _
    have ec : ((lastN j + 199 : Nat) : Int) + 1 = ((lastN j + 200 : Nat) : Int) := by omega
    unfold simTick
    rw [q, tick_end n (by omega) (by omega), ec, ren_quiet j again one other (lastN j + 200) (by omega) (by unfold tickN; omega)]
    have e2 : ((lastN j + 200 : Nat) : Int) = (lastN j : Int) + 200 := by omega
    rw [e2]
    rfl
  have n1 : NextAsk ((lastN j + 200 : Nat) : Int) (renL j) none ((lastN j : Int) + 100) := by
    refine ⟨fun x hx => ?_, fun a x hx => (by cases hx), .inl (by omega)⟩
    rw [hl] at hx; cases hx; unfold lastN; omega
  have q1 := quiet n1 s1 (12 * again - 101) (fun i h1 h2 => ⟨ren_quiet j again one other i (by omega) (by unfold tickN; omega), rfl⟩)
  have et : tickN j again = (lastN j + 200 + (12 * again - 101)) + 1 := by unfold tickN; omega
  have ec : ((lastN j + 200 + (12 * again - 101) : Nat) : Int) + 1 = (tickN j again : Int) := by omega
  have s2 : sim (renAns (j + 1) again one other) (tickN j again) = ⟨silA j again, some (other, (tickN j again : Int)), [.tup [.int 1, pairD one], .tup [.int ((lastN j : Int) + 200), .non], .tup [.int (tickN j again : Int), pairD other]]⟩ := by
    rw [et]
    show simTick (renAns (j + 1) again one other) (((lastN j + 200 + (12 * again - 101) : Nat) : Int) + 1) (sim (renAns (j + 1) again one other) (lastN j + 200 + (12 * again - 101))) = _
    unfold simTick
    rw [q1, tick_row n1 (by omega) rfl, ec, ren_here, ← et]
    have tl : toldL ((j : Int) + 1 + again) (kept (renL j ++ rowI ((lastN j : Int) + 100) (tickN j again))) = [(tickN j again : Int)] := tick_told j again
    simp only [List.foldl_cons, List.foldl_nil]
    unfold answerS ansHeld ansOut
    have g1 : ¬ ((tickN j again : Int) + 200 ≤ tickN j again) := by omega
    simp [tl, g1, if_neg (Ne.symm ne), silA]
  have n2 : NextAsk ((tickN j again : Nat) : Int) (silA j again) (some (other, (tickN j again : Int))) ((tickN j again : Int) + 100) := by
    refine ⟨fun x hx => ?_, fun a x hx => ?_, .inr (.inr ⟨other, _, rfl, rfl⟩)⟩
    · rw [silA_last] at hx; cases hx; omega
    · cases hx; omega
  have hs2 : sim (renAns (j + 1) again one other) (tickN j again) = ⟨silA j again ++ rowI ((tickN j again : Int) + 100) (tickN j again : Int), some (other, (tickN j again : Int)), [.tup [.int 1, pairD one], .tup [.int ((lastN j : Int) + 200), .non], .tup [.int (tickN j again : Int), pairD other]]⟩ := by
    rw [rowI_nil (by omega), List.append_nil]
    exact s2
  exact quiet n2 hs2 150 (fun i h1 h2 => ⟨ren_quiet j again one other i (by unfold tickN at h1; omega) (by omega), by unfold expire; exact decide_eq_false (by omega)⟩)
end K34
set_option Elab.async false
set_option linter.all false
set_option autoImplicit false
set_option maxRecDepth 100000
set_option maxHeartbeats 2000000
namespace K34
open PySem PySem.Spec L2 PV
open PyProof.Rows hiding St
/-! ### the second scenario -/
def RB : Cs := F__law_renewed.body
def renKs (j : Nat) : List D := (List.range (j + 1)).map fun (k : Nat) => .int (1 + 100 * (k : Int))
def renVs (j : Nat) (one : D) : List D := (List.range (j + 1)).map fun (k : Nat) => .lst [.tup [.int (k : Int), one]]
abbrev nEnv (hw boot : Int) (one other : D) (s5 s6 s7 s8 s9 s10 s11 s12 s13 s14 s15 : PV.Slot) : PV.Env := [.val (.cel 0), .val (.int hw), .val (.int boot), .val one, .val other, s5, s6, s7, s8, s9, s10, s11, s12, s13, s14, s15, .no, .no]
theorem ren_s0 (n : Nat) (s : S) (ht : TapeOk s) (hw boot : Int) (one other : D) : ∃ (j : Nat) (s' : S), j < 6 ∧ TapeOk s' ∧ ex (callN P (n + 1)) (nth 0 RB) (nEnv hw boot one other .no .no .no .no .no .no .no .no .no .no .no) s = some (.nx (nEnv hw boot one other (.val (.int (1 + (j : Int)))) (.val (.int 1600)) .no .no .no .no .no .no .no .no .no), s') := by
  obtain ⟨d1, s1, h1, l1, u1, t1⟩ := draw_ok n s 6 ht (by omega) (by omega)
  refine ⟨d1.toNat, s1, by omega, t1, ?_⟩
  have e : ((d1.toNat : Nat) : Int) = d1 := by omega
  rw [e]
  simp [RB, F__law_renewed, nth, exs, ex, ev, evs, evP, evI, tests, M.bind, M.pure, M.of, M.fail, Env.get, Env.bor, isTy, tru, cop, bop, PV.bi, PV.bind, PV.binds, wipeE, consO, PV.small64, line, mkS, asPart, okD, okDs, eqD, eqDs, sub, subM, slc, meM, meK, evPs, PV.forM, freezeE, PV.isNon, pmod, pdiv, PV.putAt, sameD, h1]
theorem ren_s1 (n : Nat) (s : S) (hw boot : Int) (one other : D) (j : Nat) : ex (callN P n) (nth 1 RB) (nEnv hw boot one other (.val (.int (1 + (j : Int)))) (.val (.int 1600)) .no .no .no .no .no .no .no .no .no) s = some (.nx (nEnv hw boot one other (.val (.int (1 + (j : Int)))) (.val (.int 1600)) (.val (.int (lastN j))) .no .no .no .no .no .no .no .no), s) := by
  have e : (lastN j : Int) = 1 + 100 * (1 + (j : Int) - 1) := by unfold lastN; omega
  rw [e]
  simp [RB, F__law_renewed, nth, exs, ex, ev, evs, evP, evI, tests, M.bind, M.pure, M.of, M.fail, Env.get, Env.bor, isTy, tru, cop, bop, PV.bi, PV.bind, PV.binds, wipeE, consO, PV.small64, line, mkS, asPart, okD, okDs, eqD, eqDs, sub, subM, slc, meM, meK, evPs, PV.forM, freezeE, PV.isNon, pmod, pdiv, PV.putAt, sameD]
theorem ren_s2 (n : Nat) (s : S) (hw boot : Int) (one other : D) (j : Nat) (hj : j < 6) (s6 s7 : PV.Slot) : ex (callN P n) (nth 2 RB) (nEnv hw boot one other (.val (.int (1 + (j : Int)))) s6 s7 .no .no .no .no .no .no .no .no) s = some (.nx (nEnv hw boot one other (.val (.int (1 + (j : Int)))) s6 s7 (.ownd (renKs j) (renVs j one)) .no .no .no .no .no .no .no), s) := by
  have c : j = 0 ∨ j = 1 ∨ j = 2 ∨ j = 3 ∨ j = 4 ∨ j = 5 := by omega
  rcases c with rfl | rfl | rfl | rfl | rfl | rfl <;> kernel_rfl
abbrev silD (j : Nat) : List D := (rowI ((lastN j : Int) + 100) ((1600 : Nat) : Int)).map .int
theorem ren_s3 (n : Nat) (s : S) (hw boot : Int) (one other : D) (j : Nat) (s5 s8 : PV.Slot) : ex (callN P (n + 1)) (nth 3 RB) (nEnv hw boot one other s5 (.val (.int 1600)) (.val (.int (lastN j))) s8 .no .no .no .no .no .no .no) s = some (.nx (nEnv hw boot one other s5 (.val (.int 1600)) (.val (.int (lastN j))) s8 (.val (.lst (silD j))) .no .no .no .no .no .no), s) := by
  have hr := law_row_ok n ((lastN j : Int) + 100) 1600 s (by omega) (by omega)
  exact ex_set (i := 9) (ev_call (f := 24) (ds := [.int ((lastN j : Int) + 100), .int 12, .int 1600]) rfl hr)
theorem ren_s4 (n : Nat) (s : S) (ht : TapeOk s) (hw boot : Int) (one other : D) (s5 s6 s7 s8 s9 : PV.Slot) : ∃ (again : Nat) (s' : S), again < 30 ∧ TapeOk s' ∧ ex (callN P (n + 1)) (nth 4 RB) (nEnv hw boot one other s5 s6 s7 s8 s9 .no .no .no .no .no .no) s = some (.nx (nEnv hw boot one other s5 s6 s7 s8 s9 (.val (.int (again : Int))) .no .no .no .no .no), s') := by
  obtain ⟨d1, s1, h1, l1, u1, t1⟩ := draw_ok n s 30 ht (by omega) (by omega)
  refine ⟨d1.toNat, s1, by omega, t1, ?_⟩
  have e : ((d1.toNat : Nat) : Int) = d1 := by omega
  rw [e]
  simp [RB, F__law_renewed, nth, exs, ex, ev, evs, evP, evI, tests, M.bind, M.pure, M.of, M.fail, Env.get, Env.bor, isTy, tru, cop, bop, PV.bi, PV.bind, PV.binds, wipeE, consO, PV.small64, line, mkS, asPart, okD, okDs, eqD, eqDs, sub, subM, slc, meM, meK, evPs, PV.forM, freezeE, PV.isNon, pmod, pdiv, PV.putAt, sameD, h1]
theorem sil_get (j again : Nat) (hj : j < 6) (ha : again < 30) : seqAt (silD j) (again : Int) = some (.int (tickN j again)) := by
  have h := rowI_get (f := (lastN j : Int) + 100) (t := ((1600 : Nat) : Int)) again (by unfold lastN; omega)
  unfold seqAt silD
  rw [if_pos (by omega), if_pos (by omega)]
  have e : ((again : Int)).toNat = again := by omega
  rw [e, List.getElem?_map, h]
  unfold tickN
  show some (D.int _) = some (D.int _)
  congr 2
theorem ren_s5 (n : Nat) (s : S) (hw boot : Int) (one other : D) (j again : Nat) (hj : j < 6) (ha : again < 30) (s5 s6 s7 s8 : PV.Slot) : ex (callN P n) (nth 5 RB) (nEnv hw boot one other s5 s6 s7 s8 (.val (.lst (silD j))) (.val (.int (again : Int))) .no .no .no .no .no) s = some (.nx (nEnv hw boot one other s5 s6 s7 s8 (.val (.lst (silD j))) (.val (.int (again : Int))) (.val (.int (tickN j again))) .no .no .no .no), s) := by
  have h := sil_get j again hj ha
  refine ex_set (i := 11) (d := .int (tickN j again)) ?_
  show M.bind (ev (callN P n) (.var 9) true _) (fun x => M.bind (ev (callN P n) (.var 10) false _) fun y => subM x y) s = _
  rw [M.bind_of (show ev (callN P n) (.var 9) true _ s = some (.lst (silD j), s) from rfl), M.bind_of (show ev (callN P n) (.var 10) false _ s = some (.int (again : Int), s) from rfl)]
  show M.of (seqAt (silD j) (again : Int)) s = _
  rw [h]
  rfl
theorem ren_s6 (n : Nat) (s : S) (hw boot : Int) (one other : D) (last tick : Int) (s5 s6 s8 s9 s10 : PV.Slot) : ex (callN P n) (nth 6 RB) (nEnv hw boot one other s5 s6 (.val (.int last)) s8 s9 s10 (.val (.int tick)) .no .no .no .no) s = some (.nx (nEnv hw boot one other s5 s6 (.val (.int last)) s8 s9 s10 (.val (.int tick)) (.val (.bl (decide (tick < last + 200)))) .no .no .no), s) := by
  simp [RB, F__law_renewed, nth, exs, ex, ev, evs, evP, evI, tests, M.bind, M.pure, M.of, M.fail, Env.get, Env.bor, isTy, tru, cop, bop, PV.bi, PV.bind, PV.binds, wipeE, consO, PV.small64, line, mkS, asPart, okD, okDs, eqD, eqDs, sub, subM, slc, meM, meK, evPs, PV.forM, freezeE, PV.isNon, pmod, pdiv, PV.putAt, sameD]
def renV (j again : Nat) (one other : D) : D := .lst [.tup [.int (1 + (j : Int) + again), other], .tup [.int (1 + (j : Int) + again), one]]
theorem keys_no (j : Nat) (t : Int) (h : 1 + 100 * (j : Int) < t) : ((renKs j).any fun x => eqD x (.int t)) = false := by
  unfold renKs
  rw [List.any_map, List.any_eq_false]
  intro k hk
  have := List.mem_range.mp hk
  show ¬ ((1 + 100 * (k : Int)) == t) = true
  intro z
  have := beq_iff_eq.mp z
  omega
theorem ren_s7 (n : Nat) (s : S) (hw boot : Int) (one other : D) (j again : Nat) (hj : j < 6) (b : Bool) (s6 s7 s9 : PV.Slot) : ex (callN P n) (nth 7 RB) (nEnv hw boot one other (.val (.int (1 + (j : Int)))) s6 s7 (.ownd (renKs j) (renVs j one)) s9 (.val (.int (again : Int))) (.val (.int (tickN j again))) (.val (.bl b)) .no .no .no) s = some (.nx (nEnv hw boot one other (.val (.int (1 + (j : Int)))) s6 s7 (.ownd (renKs j ++ [.int (tickN j again)]) (renVs j one ++ [renV j again one other])) s9 (.val (.int (again : Int))) (.val (.int (tickN j again))) (.val (.bl b)) .no .no .no), s) := by
  have hk := keys_no j (tickN j again) (by unfold tickN lastN; omega)
  have hl : (renKs j).length < 16777216 := by unfold renKs; rw [List.length_map, List.length_range]; omega
  have hd : dput (renKs j) (renVs j one) (.int (tickN j again)) (renV j again one other) = (renKs j ++ [.int (tickN j again)], renVs j one ++ [renV j again one other]) := by
    unfold dput
    rw [hk]
    rfl
  have hd : dput (renKs j) (renVs j one) (.int (tickN j again)) (.lst [.tup [.int (1 + (j : Int) + again), other], .tup [.int (1 + (j : Int) + again), one]]) = (renKs j ++ [.int (tickN j again)], renVs j one ++ [renV j again one other]) := hd
  generalize renKs j = KS at hl hd ⊢
  generalize renVs j one = VS at hd ⊢
  generalize renV j again one other = VV at hd ⊢
  cases b <;> simp [RB, F__law_renewed, nth, exs, ex, ev, evs, evP, evI, tests, M.bind, M.pure, M.of, M.fail, Env.get, Env.bor, isTy, tru, cop, bop, PV.bi, PV.bind, PV.binds, wipeE, consO, PV.small64, line, mkS, asPart, okD, okDs, eqD, eqDs, sub, subM, slc, meM, meK, evPs, PV.forM, freezeE, PV.isNon, pmod, pdiv, PV.putAt, sameD, hl, isKey, hd]
end K34
set_option Elab.async false
set_option linter.all false
set_option autoImplicit false
set_option maxRecDepth 100000
set_option maxHeartbeats 2000000
namespace K34
open PySem PySem.Spec L2 PV
open PyProof.Rows hiding St
theorem keyAt_app (k : D) (ys : List D) : ∀ xs : List D, keyAt k (xs ++ ys) = match keyAt k xs with
    | some i => some i
    | none => (keyAt k ys).map (· + xs.length)
  | [] => by
    show keyAt k ys = (keyAt k ys).map (· + 0)
    cases keyAt k ys <;> rfl
  | x :: xs => by
    have ih := keyAt_app k ys xs
    show (if eqD x k then some 0 else (keyAt k (xs ++ ys)).map (· + 1)) = match (if eqD x k then some 0 else (keyAt k xs).map (· + 1)) with
      | some i => some i
      | none => (keyAt k ys).map (· + (xs.length + 1))
    by_cases c : eqD x k = true
    · rw [if_pos c, if_pos c]
    · rw [if_neg c, if_neg c, ih]
      cases keyAt k xs with
      | some i => rfl
      | none =>
        cases keyAt k ys with
        | none => rfl
        | some i => show some (i + xs.length + 1) = some (i + (xs.length + 1)); rfl
theorem renKs_succ (j : Nat) : renKs (j + 1) = renKs j ++ [.int (1 + 100 * ((j + 1 : Nat) : Int))] := by
  unfold renKs
  rw [List.range_succ, List.map_append]
  rfl
theorem renVs_succ (j : Nat) (one : D) : renVs (j + 1) one = renVs j one ++ [.lst [.tup [.int ((j + 1 : Nat) : Int), one]]] := by
  unfold renVs
  rw [List.range_succ, List.map_append]
  rfl
theorem renKs_len (j : Nat) : (renKs j).length = j + 1 := by unfold renKs; simp
theorem renVs_len (j : Nat) (one : D) : (renVs j one).length = j + 1 := by unfold renVs; simp
theorem keyAt_ren (t : Int) : ∀ j : Nat, keyAt (.int t) (renKs j) = if 1 ≤ t ∧ (t - 1) % 100 = 0 ∧ (t - 1) / 100 < ((j + 1 : Nat) : Int) then some ((t - 1) / 100).toNat else none
  | 0 => by
    show (if ((1 + 100 * ((0 : Nat) : Int)) == t) = true then some 0 else none) = _
    by_cases c : t = 1
    · subst c; rfl
    · rw [if_neg (fun z => c (by have := beq_iff_eq.mp z; omega)), if_neg (by omega)]
  | j + 1 => by
    have ih := keyAt_ren t j
    rw [renKs_succ, keyAt_app, ih]
    by_cases c : 1 ≤ t ∧ (t - 1) % 100 = 0 ∧ (t - 1) / 100 < ((j + 1 : Nat) : Int)
    · rw [if_pos c, if_pos (by omega)]
    · rw [if_neg c]
      show ((if ((1 + 100 * ((j + 1 : Nat) : Int)) == t) = true then some 0 else none).map (· + (renKs j).length) : Option Nat) = _
      by_cases d : t = 1 + 100 * ((j + 1 : Nat) : Int)
      · rw [if_pos (beq_iff_eq.mpr d.symm), if_pos (by omega), renKs_len]
        show some (0 + (j + 1)) = _
        congr 1
        omega
      · rw [if_neg (fun z => d (beq_iff_eq.mp z).symm), if_neg (by omega)]
        rfl
theorem renVs_get (j i : Nat) (one : D) (h : i < j + 1) : (renVs j one)[i]? = some (.lst [.tup [.int (i : Int), one]]) := by
  unfold renVs
  rw [List.getElem?_map, List.getElem?_range h]
  rfl
theorem ren_ans (j again : Nat) (one other : Int × Int) (hj : j < 6) (hg : again < 30) (h1 : AddrOk one) (h2 : AddrOk other) : AnsOk (renKs j ++ [.int (tickN j again)]) (renVs j (pairD one) ++ [renV j again (pairD one) (pairD other)]) (renAns (j + 1) again one other) := by
  refine ⟨fun t => ?_, fun t x hx => ?_, fun t => ?_⟩
  · unfold dget renAns
    rw [keyAt_app, keyAt_ren, ren_tick]
    by_cases c : 1 ≤ t ∧ (t - 1) % 100 = 0 ∧ (t - 1) / 100 < ((j + 1 : Nat) : Int)
    · rw [if_pos c, if_neg (by unfold tickN lastN; omega), if_pos c]
      left
      have hi : ((t - 1) / 100).toNat < j + 1 := by omega
      show ((renVs j (pairD one) ++ [renV j again (pairD one) (pairD other)])[((t - 1) / 100).toNat]?).getD (.tup []) = _
      rw [List.getElem?_append_left (by rw [renVs_len]; exact hi), renVs_get _ _ _ hi]
      show D.lst [.tup [.int ((((t - 1) / 100).toNat : Nat) : Int), pairD one]] = .lst [.tup [.int ((t - 1) / 100), pairD one]]
      have e : ((((t - 1) / 100).toNat : Nat) : Int) = (t - 1) / 100 := by omega
      rw [e]
    · rw [if_neg c, if_neg c]
      by_cases d : t = (tickN j again : Int)
      · have hk : keyAt (.int t) [.int (tickN j again : Int)] = some 0 := if_pos (beq_iff_eq.mpr d.symm)
        rw [hk, if_pos d, renKs_len]
        left
        show ((renVs j (pairD one) ++ [renV j again (pairD one) (pairD other)])[0 + (j + 1)]?).getD (.tup []) = _
        rw [List.getElem?_append_right (by rw [renVs_len]; omega), renVs_len]
        have e : 0 + (j + 1) - (j + 1) = 0 := by omega
        rw [e]
        show renV j again (pairD one) (pairD other) = .lst [.tup [.int (((j + 1 : Nat) : Int) + again), pairD other], .tup [.int (((j + 1 : Nat) : Int) + again), pairD one]]
        have e2 : ((j + 1 : Nat) : Int) = 1 + (j : Int) := by omega
        rw [e2]
        rfl
      · have hk : keyAt (.int t) [.int (tickN j again : Int)] = none := if_neg (fun z => d (beq_iff_eq.mp z).symm)
        rw [hk, if_neg d]
        exact .inr rfl
  · unfold renAns at hx
    split at hx
    · rcases List.mem_cons.mp hx with rfl | hx
      · exact ⟨h2, by simp only; omega, by simp only; omega⟩
      rcases List.mem_cons.mp hx with rfl | hx
      · exact ⟨h1, by simp only; omega, by simp only; omega⟩
      cases hx
    · split at hx
      · rename_i c
        rcases List.mem_cons.mp hx with rfl | hx
        · exact ⟨h1, by simp only; omega, by simp only; omega⟩
        cases hx
      · cases hx
  · unfold renAns
    split
    · show 2 ≤ 3; omega
    · split
      · show 1 ≤ 3; omega
      · exact Nat.zero_le _
/-- the run -/
theorem ren_s8 (n : Nat) (s : S) (hw boot : Int) (one other : Int × Int) (j again : Nat) (hj : j < 6) (hg : again < 30) (w1 : 1 ≤ hw) (w2 : hw ≤ 200) (b1 : 1 ≤ boot) (b2 : boot ≤ 201) (h1 : AddrOk one) (h2 : AddrOk other) (s5 s7 s9 s10 s12 : PV.Slot) (KS VS : List D) (hk : KS = renKs j ++ [.int (tickN j again)]) (hv : VS = renVs j (pairD one) ++ [renV j again (pairD one) (pairD other)]) (σ : Sim) (hσ : sim (renAns (j + 1) again one other) (tickN j again + 150) = σ) :
    ex (callN P (n + 7)) (nth 8 RB) (nEnv hw boot (pairD one) (pairD other) s5 (.val (.int 1600)) s7 (.ownd KS VS) s9 s10 (.val (.int (tickN j again))) s12 .no .no .no) s =
      some (.nx (nEnv hw boot (pairD one) (pairD other) s5 (.val (.int 1600)) s7 (.val (.dct KS VS)) s9 s10 (.val (.int (tickN j again))) s12 (.val (.tup [.lst (σ.all.map .int), .lst σ.turns, stS hw boot ((tickN j again + 150 : Nat) : Int) σ])) .no .no), s) := by
  have ha := ren_ans j again one other hj hg h1 h2
  rw [← hk, ← hv] at ha
  have hr := run_ok n hw boot s KS VS _ (tickN j again + 150) w1 w2 b1 b2 ha (by unfold tickN lastN; omega)
  rw [hσ] at hr
  have hm : (if ((tickN j again : Int) + 150) < 1600 then ((tickN j again : Int) + 150) else 1600) = ((tickN j again + 150 : Nat) : Int) := by
    rw [if_pos (by unfold tickN lastN; omega)]
    omega
  refine ex_set (i := 13) (ev_call (f := 25) (ds := [.int hw, .int boot, .dct KS VS, .int ((tickN j again + 150 : Nat) : Int)]) ?_ hr)
  rw [← hm]
  rfl
end K34
set_option Elab.async false
set_option linter.all false
set_option autoImplicit false
set_option maxRecDepth 100000
set_option maxHeartbeats 2000000
namespace K34
open PySem PySem.Spec L2 PV
open PyProof.Rows hiding St
theorem ren_s9 (n : Nat) (s : S) (hw boot : Int) (one other : D) (s5 s6 s7 s8 s9 s10 s11 s12 : PV.Slot) (ds : List D) : ex (callN P n) (nth 9 RB) (nEnv hw boot one other s5 s6 s7 s8 s9 s10 s11 s12 (.val (.tup ds)) .no .no) s = some (.nx (nEnv hw boot one other s5 s6 s7 s8 s9 s10 s11 s12 (.val (.tup ds)) .no .no), s) := by
  simp [RB, F__law_renewed, nth, exs, ex, ev, evs, evP, evI, tests, M.bind, M.pure, M.of, M.fail, Env.get, Env.bor, isTy, tru, cop, bop, PV.bi, PV.bind, PV.binds, wipeE, consO, PV.small64, line, mkS, asPart, okD, okDs, eqD, eqDs, sub, subM, slc, meM, meK, evPs, PV.forM, freezeE, PV.isNon, pmod, pdiv, PV.putAt, sameD]
theorem ren_c1 (n : Nat) (s : S) (hw boot : Int) (one other : D) (j : Nat) (hj : j < 6) (b : Bool) (s6 s7 s8 s9 s10 s11 s12 s13 s14 : PV.Slot) : ev (callN P n) (.comp [16] (.name 16) (.rng1 (.var 5)) .nil (.bin .add (.int 1) (.bin .mul (.int 100) (.var 16)))) b (nEnv hw boot one other (.val (.int (1 + (j : Int)))) s6 s7 s8 s9 s10 s11 s12 s13 s14 .no) s = some (.lst ((renL j).map .int), s) := by
  have c : j = 0 ∨ j = 1 ∨ j = 2 ∨ j = 3 ∨ j = 4 ∨ j = 5 := by omega
  rcases c with rfl | rfl | rfl | rfl | rfl | rfl <;> kernel_rfl
def cutG (T : Int) : D → Option D
  | .int x => if x ≤ T then some (.int x) else none
  | _ => none
theorem row_cut (f e T : Int) (h : T ≤ e) : ((rowI f e).map .int).filterMap (cutG T) = (rowI f T).map .int := by
  rw [List.filterMap_map]
  unfold rowI
  by_cases c : f ≤ T
  · rw [if_pos c, if_pos (by omega), List.filterMap_map]
    have hr := range_filter (((T - f) / 12 + 1).toNat) (fun i => D.int (f + 12 * (i : Nat))) (((e - f) / 12 + 1).toNat)
    have hm : min (((e - f) / 12 + 1).toNat) (((T - f) / 12 + 1).toNat) = ((T - f) / 12 + 1).toNat := by omega
    rw [hm] at hr
    rw [List.map_map]
    refine Eq.trans ?_ hr
    congr 1
    funext i
    show (if f + 12 * (i : Int) ≤ T then some (D.int (f + 12 * (i : Int))) else none) = _
    by_cases d : i < ((T - f) / 12 + 1).toNat
    · rw [if_pos d, if_pos (by omega)]
    · rw [if_neg d, if_neg (by omega)]
  · rw [if_neg c]
    split
    · rw [List.filterMap_map]
      apply List.filterMap_eq_nil_iff.mpr
      intro i _
      show (if f + 12 * (i : Int) ≤ T then some (D.int (f + 12 * (i : Int))) else none) = none
      rw [if_neg (by omega)]
    · rfl
theorem ren_c2 (n : Nat) (s : S) (hw boot : Int) (one other : D) (j again : Nat) (hj : j < 6) (hg : again < 30) (b : Bool) (s5 s6 s7 s8 s10 s12 s13 s14 : PV.Slot) : ev (callN P n) (.comp [17] (.name 17) (.seq (.var 9)) (.cons (.cmp .le (.var 17) (.var 11)) .nil) (.var 17)) b (nEnv hw boot one other s5 s6 s7 s8 (.val (.lst (silD j))) s10 (.val (.int (tickN j again))) s12 s13 s14 .no) s = some (.lst ((rowI ((lastN j : Int) + 100) (tickN j again)).map .int), s) := by
  have hc := row_cut ((lastN j : Int) + 100) ((1600 : Nat) : Int) (tickN j again) (by unfold tickN lastN; omega)
  rw [← hc]
  refine ev_comp (cutG (tickN j again)) rfl (fun d hd => ?_) (le_line ?_)
  · obtain ⟨x, _, rfl⟩ := List.mem_map.mp hd
    generalize silD j = L
    by_cases c : x ≤ (tickN j again : Int)
    · simp [exs, ex, ev, evs, evP, evI, tests, M.bind, M.pure, M.of, M.fail, Env.get, Env.bor, isTy, tru, cop, bop, PV.bi, PV.bind, PV.binds, wipeE, consO, PV.small64, line, mkS, asPart, okD, okDs, eqD, eqDs, sub, subM, slc, meM, meK, evPs, PV.forM, freezeE, PV.isNon, pmod, pdiv, PV.putAt, sameD, cutG, c]
    · simp [exs, ex, ev, evs, evP, evI, tests, M.bind, M.pure, M.of, M.fail, Env.get, Env.bor, isTy, tru, cop, bop, PV.bi, PV.bind, PV.binds, wipeE, consO, PV.small64, line, mkS, asPart, okD, okDs, eqD, eqDs, sub, subM, slc, meM, meK, evPs, PV.forM, freezeE, PV.isNon, pmod, pdiv, PV.putAt, sameD, cutG, c]
  · have := List.length_filterMap_le (cutG (tickN j again)) (silD j)
    have h2 := row_len_le (f := (lastN j : Int) + 100) (t := ((1600 : Nat) : Int)) (by omega)
    have h3 : (silD j).length = (rowI ((lastN j : Int) + 100) ((1600 : Nat) : Int)).length := List.length_map ..
    rw [h3] at this
    exact Nat.le_trans this (by omega)
theorem ren_s10 (n : Nat) (s : S) (hw boot : Int) (one other : D) (j again : Nat) (hj : j < 6) (hg : again < 30) (s6 s7 s8 s10 s12 s13 : PV.Slot) : ex (callN P n) (nth 10 RB) (nEnv hw boot one other (.val (.int (1 + (j : Int)))) s6 s7 s8 (.val (.lst (silD j))) s10 (.val (.int (tickN j again))) s12 s13 .no .no) s = some (.nx (nEnv hw boot one other (.val (.int (1 + (j : Int)))) s6 s7 s8 (.val (.lst (silD j))) s10 (.val (.int (tickN j again))) s12 s13 (.val (.lst ((silA j again).map .int))) .no), s) := by
  have h1 := ren_c1 n s hw boot one other j hj true s6 s7 s8 (.val (.lst (silD j))) s10 (.val (.int (tickN j again))) s12 s13 .no
  have h2 := ren_c2 n s hw boot one other j again hj hg true (.val (.int (1 + (j : Int)))) s6 s7 s8 s10 s12 s13 .no
  refine ex_set (i := 14) (d := .lst ((silA j again).map .int)) ?_
  show M.bind (ev (callN P n) (.comp [16] (.name 16) (.rng1 (.var 5)) .nil (.bin .add (.int 1) (.bin .mul (.int 100) (.var 16)))) true _) (fun x => M.bind (ev (callN P n) _ true _) fun y => M.of (bop .add x y)) s = _
  rw [M.bind_of h1, M.bind_of h2]
  show M.of (if ((renL j).map D.int).length + ((rowI ((lastN j : Int) + 100) (tickN j again)).map D.int).length ≤ line then some (D.lst ((renL j).map D.int ++ (rowI ((lastN j : Int) + 100) (tickN j again)).map D.int)) else none) s = _
  rw [if_pos (big_line (by rw [List.length_map, renL_len]; omega) (by rw [List.length_map]; exact row_len_le (by unfold tickN lastN; omega)))]
  unfold silA
  rw [List.map_append]
  rfl
theorem ren_s11 (n : Nat) (s : S) (hw boot : Int) (one other : D) (j again : Nat) (hj : j < 6) (hg : again < 30) (s5 s6 s7 s8 s9 s10 s12 s13 : PV.Slot) (AL : List D) (hAL : AL.length ≤ 1000) : ex (callN P (n + 1)) (nth 11 RB) (nEnv hw boot one other s5 s6 s7 s8 s9 s10 (.val (.int (tickN j again))) s12 s13 (.val (.lst AL)) .no) s = some (.nx (nEnv hw boot one other s5 s6 s7 s8 s9 s10 (.val (.int (tickN j again))) s12 s13 (.val (.lst (AL ++ (rowI ((tickN j again : Int) + 100) ((tickN j again + 150 : Nat) : Int)).map .int))) .no), s) := by
  have hr := law_row_ok n ((tickN j again : Int) + 100) (tickN j again + 150) s (by omega) (by unfold tickN lastN; omega)
  have q5 : ev (callN P (n + 1)) (.call 24 (.cons (.bin .add (.var 11) (.int 100)) (.cons (.int 12) (.cons (.bin .add (.var 11) (.int 150)) .nil)))) true (nEnv hw boot one other s5 s6 s7 s8 s9 s10 (.val (.int (tickN j again))) s12 s13 (.val (.lst AL)) .no) s = some (.lst ((rowI ((tickN j again : Int) + 100) ((tickN j again + 150 : Nat) : Int)).map .int), s) :=
    ev_call (ds := [.int ((tickN j again : Int) + 100), .int 12, .int ((tickN j again : Int) + 150)]) rfl hr
  refine ex_set (i := 14) ?_
  show M.bind (ev (callN P (n + 1)) (.var 14) true _) (fun x => M.bind (ev (callN P (n + 1)) _ true _) fun y => M.of (bop .add x y)) s = _
  rw [M.bind_of (show ev (callN P (n + 1)) (.var 14) true _ s = some (.lst AL, s) from rfl), M.bind_of q5]
  show M.of (if AL.length + ((rowI ((tickN j again : Int) + 100) ((tickN j again + 150 : Nat) : Int)).map D.int).length ≤ line then some (D.lst (AL ++ (rowI ((tickN j again : Int) + 100) ((tickN j again + 150 : Nat) : Int)).map D.int)) else none) s = _
  rw [if_pos (big_line hAL (by rw [List.length_map]; exact row_len_le (by omega)))]
  rfl
def renTu (b : Bool) (one other : D) (last tick : Int) : List D := [.tup [.int 1, one]] ++ if b then [] else [.tup [.int (last + 200), .non], .tup [.int tick, other]]
theorem ren_s12 (n : Nat) (s : S) (hw boot : Int) (one other : D) (b : Bool) (last tick : Int) (s5 s6 s8 s9 s10 s13 s14 : PV.Slot) : ex (callN P n) (nth 12 RB) (nEnv hw boot one other s5 s6 (.val (.int last)) s8 s9 s10 (.val (.int tick)) (.val (.bl b)) s13 s14 .no) s = some (.nx (nEnv hw boot one other s5 s6 (.val (.int last)) s8 s9 s10 (.val (.int tick)) (.val (.bl b)) s13 s14 (.val (.lst (renTu b one other last tick)))), s) := by
  cases b <;> simp [RB, F__law_renewed, nth, exs, ex, ev, evs, evP, evI, tests, M.bind, M.pure, M.of, M.fail, Env.get, Env.bor, isTy, tru, cop, bop, PV.bi, PV.bind, PV.binds, wipeE, consO, PV.small64, line, mkS, asPart, okD, okDs, eqD, eqDs, sub, subM, slc, meM, meK, evPs, PV.forM, freezeE, PV.isNon, pmod, pdiv, PV.putAt, sameD, renTu]
theorem ren_s13 (n : Nat) (s : S) (hw boot : Int) (one other a : D) (b : Bool) (tick : Int) (s5 s6 s7 s8 s9 s10 : PV.Slot) (AL TL : List D) (z0 z1 z2 z3 z4 z5 : D) (hb : (if b = true then one else other) = a) (o1 : okDs 59 AL = true) (o2 : okDs 59 TL = true) (o3 : okD 60 a = true) (q1 : eqDs AL AL = true) (q2 : eqDs TL TL = true) (q3 : eqD a a = true) (hc : callN P n 17 [.tup [z0, z1, z2, z3, z4, z5, .tup [a, .int tick]]] s = some (a, s)) :
    exs (callN P n) (.cons (nth 13 RB) .nil) (nEnv hw boot one other s5 s6 s7 s8 s9 s10 (.val (.int tick)) (.val (.bl b)) (.val (.tup [.lst AL, .lst TL, .tup [z0, z1, z2, z3, z4, z5, .tup [a, .int tick]]])) (.val (.lst AL)) (.val (.lst TL))) s = some (.ret (.bl true), s) := by
  cases b with
  | true =>
    have hb : one = a := hb
    subst hb
    simp [RB, F__law_renewed, nth, exs, ex, ev, evs, evP, evI, tests, M.bind, M.pure, M.of, M.fail, Env.get, Env.bor, isTy, tru, cop, bop, PV.bi, PV.bind, PV.binds, wipeE, consO, PV.small64, line, mkS, asPart, okD, okDs, eqD, eqDs, sub, subM, slc, meM, meK, evPs, PV.forM, freezeE, PV.isNon, pmod, pdiv, PV.putAt, sameD, o1, o2, o3, q1, q2, q3, hc, sq0, sq1, sq2, sq6]
  | false =>
    have hb : other = a := hb
    subst hb
    simp [RB, F__law_renewed, nth, exs, ex, ev, evs, evP, evI, tests, M.bind, M.pure, M.of, M.fail, Env.get, Env.bor, isTy, tru, cop, bop, PV.bi, PV.bind, PV.binds, wipeE, consO, PV.small64, line, mkS, asPart, okD, okDs, eqD, eqDs, sub, subM, slc, meM, meK, evPs, PV.forM, freezeE, PV.isNon, pmod, pdiv, PV.putAt, sameD, o1, o2, o3, q1, q2, q3, hc, sq0, sq1, sq2, sq6]
end K34
set_option Elab.async false
set_option linter.all false
set_option autoImplicit false
set_option maxRecDepth 100000
set_option maxHeartbeats 2000000
namespace K34
open PySem PySem.Spec L2 PV
open PyProof.Rows hiding St
theorem RB_eq : RB = .cons (nth 0 RB) (.cons (nth 1 RB) (.cons (nth 2 RB) (.cons (nth 3 RB) (.cons (nth 4 RB) (.cons (nth 5 RB) (.cons (nth 6 RB) (.cons (nth 7 RB) (.cons (nth 8 RB) (.cons (nth 9 RB) (.cons (nth 10 RB) (.cons (nth 11 RB) (.cons (nth 12 RB) (.cons (nth 13 RB) .nil))))))))))))) := rfl
theorem okp (a : Int × Int) (n : Nat) : okD (n + 2) (pairD a) = true := by simp [pairD, okD, okDs]
theorem eqp (a : Int × Int) : eqD (pairD a) (pairD a) = true := (eq_pair a a).trans (decide_eq_true rfl)
theorem tu_ok (b : Bool) (one other : Int × Int) (last tick : Int) : okDs 59 (renTu b (pairD one) (pairD other) last tick) = true ∧ eqDs (renTu b (pairD one) (pairD other) last tick) (renTu b (pairD one) (pairD other) last tick) = true := by
  have a := okp one 56
  have c := okp other 56
  have d := eqp one
  have e := eqp other
  cases b <;> simp [renTu, okDs, okD, eqDs, eqD, a, c, d, e]
theorem renewed_tail (n : Nat) (s : S) (hw boot : Int) (one other : Int × Int) (j again : Nat) (hj : j < 6) (hg : again < 30) (w1 : 1 ≤ hw) (w2 : hw ≤ 200) (b1 : 1 ≤ boot) (b2 : boot ≤ 201) (h1 : AddrOk one) (h2 : AddrOk other) (b : Bool) (hb : b = decide ((tickN j again : Int) < (lastN j : Int) + 200))
    (a : Int × Int) (haa : (if b = true then pairD one else pairD other) = pairD a) (σ : Sim) (hσ : sim (renAns (j + 1) again one other) (tickN j again + 150) = σ) (e1 : σ.all = silA j again ++ rowI ((tickN j again : Int) + 100) ((tickN j again + 150 : Nat) : Int)) (e2 : σ.held = some (a, (tickN j again : Int))) (e3 : σ.turns = renTu b (pairD one) (pairD other) (lastN j) (tickN j again)) :
    exs (callN P (n + 7)) (.cons (nth 5 RB) (.cons (nth 6 RB) (.cons (nth 7 RB) (.cons (nth 8 RB) (.cons (nth 9 RB) (.cons (nth 10 RB) (.cons (nth 11 RB) (.cons (nth 12 RB) (.cons (nth 13 RB) .nil))))))))) (nEnv hw boot (pairD one) (pairD other) (.val (.int (1 + (j : Int)))) (.val (.int 1600)) (.val (.int (lastN j))) (.ownd (renKs j) (renVs j (pairD one))) (.val (.lst (silD j))) (.val (.int (again : Int))) .no .no .no .no .no) s = some (.ret (.bl true), s) := by
  have q7 := ren_s7 (n + 7) s hw boot (pairD one) (pairD other) j again hj b (.val (.int 1600)) (.val (.int (lastN j))) (.val (.lst (silD j)))
  have q8 := ren_s8 n s hw boot one other j again hj hg w1 w2 b1 b2 h1 h2 (.val (.int (1 + (j : Int)))) (.val (.int (lastN j))) (.val (.lst (silD j))) (.val (.int (again : Int))) (.val (.bl b)) _ _ rfl rfl σ hσ
  rw [exs_nx (ren_s5 (n + 7) s hw boot (pairD one) (pairD other) j again hj hg _ _ _ _), exs_nx (ren_s6 (n + 7) s hw boot (pairD one) (pairD other) (lastN j) (tickN j again) _ _ _ _ _), ← hb, exs_nx q7, exs_nx q8]
  rw [exs_nx (ren_s9 (n + 7) s hw boot (pairD one) (pairD other) _ _ _ _ _ _ _ _ _), exs_nx (ren_s10 (n + 7) s hw boot (pairD one) (pairD other) j again hj hg _ _ _ _ _ _)]
  have hAL : ((silA j again).map D.int).length ≤ 1000 := by
    unfold silA
    rw [List.length_map, List.length_append, renL_len]
    have : (rowI ((lastN j : Int) + 100) (tickN j again)).length ≤ 900 := by
      unfold rowI
      split
      · rw [List.length_map, List.length_range]; unfold tickN lastN; omega
      · exact Nat.zero_le _
    omega
  rw [exs_nx (ren_s11 (n + 6) s hw boot (pairD one) (pairD other) j again hj hg _ _ _ _ _ _ _ _ _ hAL), exs_nx (ren_s12 (n + 7) s hw boot (pairD one) (pairD other) b (lastN j) (tickN j again) _ _ _ _ _ _ _)]
  have lh := lease_held_ok (n + 6) hw boot ((tickN j again + 150 : Nat) : Int) σ.all.length (kept σ.all) σ.held s
  rw [e2] at lh
  have eS : stS hw boot ((tickN j again + 150 : Nat) : Int) σ = .tup [.str "lease host", .int hw, .int boot, .int ((tickN j again + 150 : Nat) : Int), .int σ.all.length, .tup ((kept σ.all).map pairD), .tup [pairD a, .int (tickN j again)]] := by
    unfold stS stD
    rw [e2]
    rfl
  have hA : (silA j again).map D.int ++ (rowI ((tickN j again : Int) + 100) ((tickN j again + 150 : Nat) : Int)).map .int = σ.all.map .int := by rw [e1, List.map_append]
  rw [eS, hA, e3]
  obtain ⟨t1, t2⟩ := tu_ok b one other (lastN j) (tickN j again)
  exact ren_s13 (n + 7) s hw boot (pairD one) (pairD other) (pairD a) b (tickN j again) _ _ _ _ _ _ _ _ _ _ _ _ _ _ haa (okDs_ints 58 _) t1 (okp a 58) (eqDs_ints _) t2 (eqp a) lh
theorem renewed_ok (n : Nat) (s : S) (hw boot : Int) (one other : Int × Int) (ht : TapeOk s) (w1 : 1 ≤ hw) (w2 : hw ≤ 200) (b1 : 1 ≤ boot) (b2 : boot ≤ 201) (h1 : AddrOk one) (h2 : AddrOk other) (ne : one ≠ other) :
    ∃ s', callN P (n + 8) 27 [.cel 0, .int hw, .int boot, pairD one, pairD other] s = some (.bl true, s') ∧ TapeOk s' := by
  obtain ⟨j, s1, hj, t1, q0⟩ := ren_s0 (n + 6) s ht hw boot (pairD one) (pairD other)
  have q1 := ren_s1 (n + 7) s1 hw boot (pairD one) (pairD other) j
  have q2 := ren_s2 (n + 7) s1 hw boot (pairD one) (pairD other) j hj (.val (.int 1600)) (.val (.int (lastN j)))
  have q3 := ren_s3 (n + 6) s1 hw boot (pairD one) (pairD other) j (.val (.int (1 + (j : Int)))) (.ownd (renKs j) (renVs j (pairD one)))
  obtain ⟨again, s2, hg, t2, q4⟩ := ren_s4 (n + 6) s1 t1 hw boot (pairD one) (pairD other) (.val (.int (1 + (j : Int)))) (.val (.int 1600)) (.val (.int (lastN j))) (.ownd (renKs j) (renVs j (pairD one))) (.val (.lst (silD j)))
  refine ⟨s2, callN_ret (fn := F__law_renewed) rfl rfl ?_, t2⟩
  show exs (callN P (n + 7)) RB _ s = _
  rw [RB_eq]
  refine (exs_nx q0).trans ?_
  rw [exs_nx q1, exs_nx q2, exs_nx q3, exs_nx q4]
  by_cases c : again ≤ 8
  · have hs := ren_held j again one other ne c
    exact renewed_tail n s2 hw boot one other j again hj hg w1 w2 b1 b2 h1 h2 true (decide_eq_true (by unfold tickN; omega)).symm one rfl _ hs rfl rfl rfl
  · have hs := ren_free j again one other ne (by omega)
    exact renewed_tail n s2 hw boot one other j again hj hg w1 w2 b1 b2 h1 h2 false (decide_eq_false (by unfold tickN; omega)).symm other rfl _ hs rfl rfl rfl
/-! ### the law -/
theorem law_s0 (call : Nat → List D → M D) (ns : List Int) : ex call (nth 0 F_law.body) [.val (.scr ns), .no, .no, .no, .no, .no] [] = some (.nx [.val (.scr ns), .val (.cel 0), .no, .no, .no, .no], Tape ns 0 0 34) := rfl
theorem law_ok (n : Nat) (ns : List Int) (hl : ns.length ≤ 63) : ∃ s', callN P (n + 9) 29 [.scr ns] [] = some (.bl true, s') := by
  have t0 : TapeOk (Tape ns 0 0 34) := ⟨ns, 0, 0, 34, rfl, hl, by omega, by omega, by omega⟩
  obtain ⟨d1, s1, h1, l1, u1, t1⟩ := draw_ok (n + 7) _ 200 t0 (by omega) (by omega)
  obtain ⟨d2, s2, h2, l2, u2, t2⟩ := draw_ok (n + 7) _ 201 t1 (by omega) (by omega)
  obtain ⟨d3, s3, h3, l3, u3, t3⟩ := draw_ok (n + 7) _ 30 t2 (by omega) (by omega)
  obtain ⟨d4, s4, h4, l4, u4, t4⟩ := draw_ok (n + 7) _ 250 t3 (by omega) (by omega)
  obtain ⟨d5, s5, h5, l5, u5, t5⟩ := draw_ok (n + 7) _ 250 t4 (by omega) (by omega)
  have ao : AddrOk (1 + d3, 1 + d4) := ⟨by simp only; omega, by simp only; omega, by simp only; omega, by simp only; omega⟩
  have at' : AddrOk ((1 + d3) % 30 + 1, 1 + d5) := ⟨by simp only; omega, by simp only; omega, by simp only; omega, by simp only; omega⟩
  have ne : ((1 + d3, 1 + d4) : Int × Int) ≠ ((1 + d3) % 30 + 1, 1 + d5) := fun e => by
    have := congrArg Prod.fst e
    simp only at this
    omega
  obtain ⟨s6, h6, t6⟩ := late_ok n s5 (1 + d1) (1 + d2) _ _ t5 (by omega) (by omega) (by omega) (by omega) ao at' ne
  obtain ⟨s7, h7, t7⟩ := renewed_ok n s6 (1 + d1) (1 + d2) _ _ t6 (by omega) (by omega) (by omega) (by omega) ao at' ne
  have h8 := never_ok n (1 + d1) (1 + d2) s7 (by omega) (by omega) (by omega) (by omega)
  refine ⟨s7, callN_ret (fn := F_law) rfl rfl ?_⟩
  have hb : F_law.body = .cons (nth 0 F_law.body) (tailC 1 F_law.body) := rfl
  rw [hb]
  refine (exs_nx (law_s0 _ ns)).trans ?_
  unfold pairD at h6 h7
  simp only at h6 h7
  simp [F_law, tailC, exs, ex, ev, evs, evP, evI, tests, M.bind, M.pure, M.of, M.fail, Env.get, Env.bor, isTy, tru, cop, bop, PV.bi, PV.bind, PV.binds, wipeE, consO, PV.small64, line, mkS, asPart, okD, okDs, eqD, eqDs, sub, subM, slc, meM, meK, evPs, PV.forM, freezeE, PV.isNon, pmod, pdiv, PV.putAt, sameD, h1, h2, h3, h4, h5, h6, h7, h8, sq0]
theorem math : ∀ ns : List Int, ns.length ≤ 63 → ∃ s', callN (fds.map Fd.fn) 64 29 [.scr ns] [] = some (.bl true, s') := fun ns hl => law_ok 55 ns hl
end K34
set_option Elab.async false
set_option linter.all false
set_option autoImplicit false
set_option maxRecDepth 100000
set_option maxHeartbeats 0
namespace K34
open PySem PySem.Spec L2 PV
open PyProof.Rows hiding St
theorem dat_0 : FnDat pr ⟨F_is_count, top 10, ["value"], ["value"]⟩ := ⟨rfl, rfl, ⟨rfl, rfl, rfl, by decide +kernel, rfl, by decide +kernel, by decide +kernel⟩, fun _ _ _ _ _ _ us hl => (match us, hl with | [_], _ => rfl), 400, by decide +kernel⟩
theorem dat_1 : FnDat pr ⟨F_is_octet, top 11, ["value"], ["value"]⟩ := ⟨rfl, rfl, ⟨rfl, rfl, rfl, by decide +kernel, rfl, by decide +kernel, by decide +kernel⟩, fun _ _ _ _ _ _ us hl => (match us, hl with | [_], _ => rfl), 400, by decide +kernel⟩
theorem dat_2 : FnDat pr ⟨F_are_octets, top 12, ["value"], ["value", "one"]⟩ := ⟨rfl, rfl, ⟨rfl, rfl, rfl, by decide +kernel, rfl, by decide +kernel, by decide +kernel⟩, fun _ _ _ _ _ _ us hl => (match us, hl with | [_], _ => rfl), 400, by decide +kernel⟩
theorem dat_3 : FnDat pr ⟨F_octet_pairs, top 13, ["number", "size"], ["number", "size", "k"]⟩ := ⟨rfl, rfl, ⟨rfl, rfl, rfl, by decide +kernel, rfl, by decide +kernel, by decide +kernel⟩, fun _ _ _ _ _ _ us hl => (match us, hl with | [_, _], _ => rfl), 400, by decide +kernel⟩
theorem dat_4 : FnDat pr ⟨F_number_of_octets, top 14, ["octets"], ["octets", "found", "one"]⟩ := ⟨rfl, rfl, ⟨rfl, rfl, rfl, by decide +kernel, rfl, by decide +kernel, by decide +kernel⟩, fun _ _ _ _ _ _ us hl => (match us, hl with | [_], _ => rfl), 400, by decide +kernel⟩
theorem dat_5 : FnDat pr ⟨F_is_address, top 24, ["value"], ["value", "one"]⟩ := ⟨rfl, rfl, ⟨rfl, rfl, rfl, by decide +kernel, rfl, by decide +kernel, by decide +kernel⟩, fun _ _ _ _ _ _ us hl => (match us, hl with | [_], _ => rfl), 400, by decide +kernel⟩
theorem dat_6 : FnDat pr ⟨F_address_octets, top 25, ["address"], ["address"]⟩ := ⟨rfl, rfl, ⟨rfl, rfl, rfl, by decide +kernel, rfl, by decide +kernel, by decide +kernel⟩, fun _ _ _ _ _ _ us hl => (match us, hl with | [_], _ => rfl), 400, by decide +kernel⟩
theorem dat_7 : FnDat pr ⟨F_address_of_octets, top 26, ["octets"], ["octets"]⟩ := ⟨rfl, rfl, ⟨rfl, rfl, rfl, by decide +kernel, rfl, by decide +kernel, by decide +kernel⟩, fun _ _ _ _ _ _ us hl => (match us, hl with | [_], _ => rfl), 400, by decide +kernel⟩
theorem dat_8 : FnDat pr ⟨F_is_hardware, top 27, ["value"], ["value"]⟩ := ⟨rfl, rfl, ⟨rfl, rfl, rfl, by decide +kernel, rfl, by decide +kernel, by decide +kernel⟩, fun _ _ _ _ _ _ us hl => (match us, hl with | [_], _ => rfl), 400, by decide +kernel⟩
theorem dat_9 : FnDat pr ⟨F_is_boot, top 28, ["value"], ["value"]⟩ := ⟨rfl, rfl, ⟨rfl, rfl, rfl, by decide +kernel, rfl, by decide +kernel, by decide +kernel⟩, fun _ _ _ _ _ _ us hl => (match us, hl with | [_], _ => rfl), 400, by decide +kernel⟩
theorem dat_10 : FnDat pr ⟨F_lease_ask, top 29, ["hw", "boot", "number"], ["hw", "boot", "number"]⟩ := ⟨rfl, rfl, ⟨rfl, rfl, rfl, by decide +kernel, rfl, by decide +kernel, by decide +kernel⟩, fun _ _ _ _ _ _ us hl => (match us, hl with | [_, _, _], _ => rfl), 400, by decide +kernel⟩
theorem dat_11 : FnDat pr ⟨F_lease_answer, top 30, ["hw", "boot", "number", "address"], ["hw", "boot", "number", "address"]⟩ := ⟨rfl, rfl, ⟨rfl, rfl, rfl, by decide +kernel, rfl, by decide +kernel, by decide +kernel⟩, fun _ _ _ _ _ _ us hl => (match us, hl with | [_, _, _, _], _ => rfl), 400, by decide +kernel⟩
theorem dat_12 : FnDat pr ⟨F_lease_word, top 31, ["octets"], ["octets", "number", "address"]⟩ := ⟨rfl, rfl, ⟨rfl, rfl, rfl, by decide +kernel, rfl, by decide +kernel, by decide +kernel⟩, fun _ _ _ _ _ _ us hl => (match us, hl with | [_], _ => rfl), 400, by decide +kernel⟩
theorem dat_13 : FnDat pr ⟨F_lease_host_start, top 33, ["hw", "boot"], ["hw", "boot"]⟩ := ⟨rfl, rfl, ⟨rfl, rfl, rfl, by decide +kernel, rfl, by decide +kernel, by decide +kernel⟩, fun _ _ _ _ _ _ us hl => (match us, hl with | [_, _], _ => rfl), 400, by decide +kernel⟩
theorem dat_14 : FnDat pr ⟨F_is_lease_host, top 34, ["value"], ["value", "held", "one"]⟩ := ⟨rfl, rfl, ⟨rfl, rfl, rfl, by decide +kernel, rfl, by decide +kernel, by decide +kernel⟩, fun _ _ _ _ _ _ us hl => (match us, hl with | [_], _ => rfl), 400, by decide +kernel⟩
theorem dat_15 : FnDat pr ⟨F_is_ask_pair, top 35, ["value"], ["value", "one"]⟩ := ⟨rfl, rfl, ⟨rfl, rfl, rfl, by decide +kernel, rfl, by decide +kernel, by decide +kernel⟩, fun _ _ _ _ _ _ us hl => (match us, hl with | [_], _ => rfl), 400, by decide +kernel⟩
theorem dat_16 : FnDat pr ⟨F_is_held, top 36, ["value"], ["value"]⟩ := ⟨rfl, rfl, ⟨rfl, rfl, rfl, by decide +kernel, rfl, by decide +kernel, by decide +kernel⟩, fun _ _ _ _ _ _ us hl => (match us, hl with | [_], _ => rfl), 400, by decide +kernel⟩
theorem dat_17 : FnDat pr ⟨F_lease_held, top 37, ["state"], ["state"]⟩ := ⟨rfl, rfl, ⟨rfl, rfl, rfl, by decide +kernel, rfl, by decide +kernel, by decide +kernel⟩, fun _ _ _ _ _ _ us hl => (match us, hl with | [_], _ => rfl), 400, by decide +kernel⟩
theorem dat_18 : FnDat pr ⟨F_lease_host_step, top 38, ["state", "event"], ["state", "event"]⟩ := ⟨rfl, rfl, ⟨rfl, rfl, rfl, by decide +kernel, rfl, by decide +kernel, by decide +kernel⟩, fun _ _ _ _ _ _ us hl => (match us, hl with | [_, _], _ => rfl), 400, by decide +kernel⟩
theorem dat_19 : FnDat pr ⟨F_is_frame, top 39, ["value"], ["value"]⟩ := ⟨rfl, rfl, ⟨rfl, rfl, rfl, by decide +kernel, rfl, by decide +kernel, by decide +kernel⟩, fun _ _ _ _ _ _ us hl => (match us, hl with | [_], _ => rfl), 400, by decide +kernel⟩
theorem dat_20 : FnDat pr ⟨F_host_tick, top 40, ["state"], ["state", "kind", "hw", "boot", "ticks", "number", "asks", "held", "outs"]⟩ := ⟨rfl, rfl, ⟨rfl, rfl, rfl, by decide +kernel, rfl, by decide +kernel, by decide +kernel⟩, fun _ _ _ _ _ _ us hl => (match us, hl with | [_], _ => rfl), 400, by decide +kernel⟩
theorem dat_21 : FnDat pr ⟨F_is_asking, top 41, ["ticks", "asks", "held"], ["ticks", "asks", "held"]⟩ := ⟨rfl, rfl, ⟨rfl, rfl, rfl, by decide +kernel, rfl, by decide +kernel, by decide +kernel⟩, fun _ _ _ _ _ _ us hl => (match us, hl with | [_, _, _], _ => rfl), 400, by decide +kernel⟩
theorem dat_22 : FnDat pr ⟨F_host_answer, top 42, ["state", "word"], ["state", "word", "kind", "hw", "boot", "ticks", "number", "asks", "held", "told", "one", "tick"]⟩ := ⟨rfl, rfl, ⟨rfl, rfl, rfl, by decide +kernel, rfl, by decide +kernel, by decide +kernel⟩, fun _ _ _ _ _ _ us hl => (match us, hl with | [_, _], _ => rfl), 400, by decide +kernel⟩
theorem dat_23 : FnDat pr ⟨F__law_draw, top 44, ["tape", "many"], ["tape", "many", "cell", "digit"]⟩ := ⟨rfl, rfl, ⟨rfl, rfl, rfl, by decide +kernel, rfl, by decide +kernel, by decide +kernel⟩, fun _ _ _ _ _ _ us hl => (match us, hl with | [_, _], _ => rfl), 400, by decide +kernel⟩
theorem dat_24 : FnDat pr ⟨F__law_row, top 45, ["first", "step", "end"], ["first", "step", "end", "k"]⟩ := ⟨rfl, rfl, ⟨rfl, rfl, rfl, by decide +kernel, rfl, by decide +kernel, by decide +kernel⟩, fun _ _ _ _ _ _ us hl => (match us, hl with | [_, _, _], _ => rfl), 400, by decide +kernel⟩
theorem dat_25 : FnDat pr ⟨F__law_run, top 46, ["hw", "boot", "answers", "ticks"], ["hw", "boot", "answers", "ticks", "state", "asks", "turns", "tick", "outs", "way", "value", "number", "address", "one"]⟩ := ⟨rfl, rfl, ⟨rfl, rfl, rfl, by decide +kernel, rfl, by decide +kernel, by decide +kernel⟩, fun _ _ _ _ _ _ us hl => (match us, hl with | [_, _, _, _], _ => rfl), 400, by decide +kernel⟩
theorem dat_26 : FnDat pr ⟨F__law_late, top 47, ["tape", "hw", "boot", "one", "other"], ["tape", "hw", "boot", "one", "other", "late", "end", "told", "early", "asks"]⟩ := ⟨rfl, rfl, ⟨rfl, rfl, rfl, by decide +kernel, rfl, by decide +kernel, by decide +kernel⟩, fun _ _ _ _ _ _ us hl => (match us, hl with | [_, _, _, _, _], _ => rfl), 400, by decide +kernel⟩
theorem dat_27 : FnDat pr ⟨F__law_renewed, top 48, ["tape", "hw", "boot", "one", "other"], ["tape", "hw", "boot", "one", "other", "often", "end", "last", "answers", "silent", "again", "tick", "held", "told", "asks", "turns", "k", "at"]⟩ := ⟨rfl, rfl, ⟨rfl, rfl, rfl, by decide +kernel, rfl, by decide +kernel, by decide +kernel⟩, fun _ _ _ _ _ _ us hl => (match us, hl with | [_, _, _, _, _], _ => rfl), 400, by decide +kernel⟩
theorem dat_28 : FnDat pr ⟨F__law_never, top 49, ["hw", "boot"], ["hw", "boot", "other", "told", "state", "outs", "later", "more", "elder", "others"]⟩ := ⟨rfl, rfl, ⟨rfl, rfl, rfl, by decide +kernel, rfl, by decide +kernel, by decide +kernel⟩, fun _ _ _ _ _ _ us hl => (match us, hl with | [_, _], _ => rfl), 400, by decide +kernel⟩
theorem dat_29 : FnDat pr ⟨F_law, top 50, ["script"], ["script", "tape", "hw", "boot", "one", "other"]⟩ := ⟨rfl, rfl, ⟨rfl, rfl, rfl, by decide +kernel, rfl, by decide +kernel, by decide +kernel⟩, fun _ _ _ _ _ _ us hl => (match us, hl with | [_], _ => rfl), 400, by decide +kernel⟩
theorem dat : ∀ d ∈ fds, FnDat pr d :=
  mem_step dat_0 (mem_step dat_1 (mem_step dat_2 (mem_step dat_3 (mem_step dat_4 (mem_step dat_5 (mem_step dat_6 (mem_step dat_7 (mem_step dat_8 (mem_step dat_9 (mem_step dat_10 (mem_step dat_11 (mem_step dat_12 (mem_step dat_13 (mem_step dat_14 (mem_step dat_15 (mem_step dat_16 (mem_step dat_17 (mem_step dat_18 (mem_step dat_19 (mem_step dat_20 (mem_step dat_21 (mem_step dat_22 (mem_step dat_23 (mem_step dat_24 (mem_step dat_25 (mem_step dat_26 (mem_step dat_27 (mem_step dat_28 (mem_step dat_29 (mem_nil))))))))))))))))))))))))))))))
def loose0 : List Str := ["WireError", "InvalidState", "InvalidAddress", "LEASE_TICKS", "LEASE_HALF", "ASK_TICKS", "KEPT_ASKS", "OCTET", "is_count", "is_octet", "are_octets", "octet_pairs", "number_of_octets", "LEASE_ASK", "LEASE_ANSWER", "LEASE_ALL", "LEASE_ROUND", "MOST_LAN", "MOST_HOST", "MOST_HW", "MOST_BOOT", "is_address", "address_octets", "address_of_octets", "is_hardware", "is_boot", "lease_ask", "lease_answer", "lease_word", "lease_host_start"]
def loose1 : List Str := ["is_lease_host", "is_ask_pair", "is_held", "lease_held", "lease_host_step", "is_frame", "host_tick", "is_asking", "host_answer", "_law_draw", "_law_row", "_law_run", "_law_late", "_law_renewed", "_law_never"]
def loose : List Str := loose0 ++ loose1
abbrev R : PySem.W.OpenRow := PySem.W.OpenLaw.row PySem.Challenge.rw_wirestowords_k34_whole_asks_of_a_host_by
abbrev hk : PySem.W.Hook := He.hookD 4 (faOf fds gl) (fds.map dOf)
def ob (s : PySem.W.SharedT) : He.AlD := He.obsDG 4 (faOf fds gl) (fds.map dOf) (HandSHeadRun.getT s)
theorem ob_eq (s : PySem.W.SharedT) : ob s = hk.obs s.abs := He.obsDG_eq (HandSHeadRun.getT_eq s)
theorem run (w : World) : HandSHeadRun.RunEq R (PySem.W.view R.prog [50]) hk ob 4000 loose w := by
  intro os
  kernel_rfl

end K34
open PySem PySem.W PySem.Calls PyProof.Rows
theorem PySem.Challenge.cw_wirestowords_k34_whole_asks_of_a_host_by_holds : PySem.Challenge.rw_wirestowords_k34_whole_asks_of_a_host_by.Holds := by
  w_on; o_law
  refine HandSHeadRun.head_any (r := OpenLaw.row PySem.Challenge.rw_wirestowords_k34_whole_asks_of_a_host_by) (q := view (OpenLaw.row PySem.Challenge.rw_wirestowords_k34_whole_asks_of_a_host_by).prog [50]) (H := K34.hk) (ob := K34.ob) (M := 4000) (loose := K34.loose) (d := HandSHeadRun.topDef (OpenLaw.row PySem.Challenge.rw_wirestowords_k34_whole_asks_of_a_host_by).prog 50) (kwd := []) K34.ob_eq
    (by kernel_rfl) (fun s => by kernel_rfl) K34.run (by kernel_rfl) (by kernel_rfl) (by kernel_rfl) (by rfl) (by first | assumption | decide +kernel) (by decide +kernel) ⟨rfl, rfl, rfl, rfl, rfl, by decide +kernel⟩ ?hw ?hc
  case hw => w_witness2
  case hc =>
    refine L2.walk_ofE (l := PySem.Challenge.rw_wirestowords_k34_whole_asks_of_a_host_by) (n := 63) (k := 64) (x := "script") (CX := L2.CX0) rfl (by decide) (by kernel_rfl) ⟨by decide, by decide, by decide⟩ ?F (fun _ _ _ _ z => z)
    intro w mg fa h Y G hmg0
    obtain ⟨K, KX, c⟩ := Y
    have hmg : mg ("law" : PySem.Str) = some (.ref fa) := by
      have e : (HandSHeadRun.topDef (OpenLaw.row PySem.Challenge.rw_wirestowords_k34_whole_asks_of_a_host_by).prog 50).name = ("law" : PySem.Str) := by kernel_rfl
      rw [← e]
      exact hmg0
    obtain ⟨fd, sp, h1, h2, h3⟩ := PV.law_of (P := (PySem.Challenge.rw_wirestowords_k34_whole_asks_of_a_host_by).prog) (w := w) (p := K34.pr) (i := 29) (k := 64) (n := 63) KX G c (by decide +kernel) rfl K34.dat rfl rfl rfl hmg K34.math
    exact ⟨K, fd, sp, KX, h1, fun H a ns hl _ hS => h2 H a ns hl hS, h3⟩
