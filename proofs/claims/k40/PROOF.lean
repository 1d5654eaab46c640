import PyProof.Rows.All
import Wide.All
import OpenK.AllK
import Wide.FinOn
import HandS.ForMost
import HandS.ForExc
import HandS.Walk
import HandS.Deep
import HandS.IsInst
import HandS.Style
import HandS.More
import HandS.ExcOwn
import HandS.TupAny
import HandS.TupMul
import HandS.Strs
import HandS.Defaults
import HandS.HeadEnd
import HandS.SetKeys
import HandS.Zip
import HandS.Small
import KE.KStateDown
import HandS.Words
import HandS.WordsExc
import HandS.Head0
import HandS.Head1
import HandS.Head2
import HandS.HeadHook1
import HandS.HeadHook2
import HandS.HeadHook3
import PySem.Challenge.RW_weavehouse_k40_rows_there_and_back
set_option Elab.async false
set_option linter.all false
set_option maxRecDepth 100000
set_option maxHeartbeats 8000000
/-! Mi1: abstract values, the mini language, its evaluator. -/
namespace Mi
open PySem L2

/-! ### values -/
inductive W where
  | non | bl (b : Bool) | int (i : Int) | str (s : Str) | rep (s : Str)
  | tup (xs : List W) | lst (xs : List W) | lsk (xs : List W) | dk (ks : List Key) (vs : List W) | dkw (ks : List Key) (vs : List W) | st (xs : List W)
  | ref (n : Nat) | fn (k : Nat) | cl (k : Nat)
instance : Inhabited W := ⟨.non⟩

inductive Ob where
  | lst (xs : List W) | dk (ks : List Key) (vs : List W) | ins (c : Nat) (fs : List (Str × W))
abbrev Hpa := List Ob
abbrev Env := List (Option W)
structure Exn where
  c : Nat
  a : List W

mutual
/-- no mutable object within -/
def W.pure : W → Bool
  | .tup xs => W.pures xs | .lst xs => W.pures xs | .lsk xs => W.pures xs | .dk _ vs => W.pures vs | .dkw _ vs => W.pures vs | .st xs => W.pures xs
  | .ref _ => false
  | .non => true | .bl _ => true | .int _ => true | .str _ => true | .rep _ => true | .fn _ => true | .cl _ => true
def W.pures : List W → Bool
  | [] => true
  | x :: xs => W.pure x && W.pures xs
end
mutual
/-- the very same -/
def W.same : W → W → Bool
  | .non, .non => true | .bl a, .bl b => a == b | .int a, .int b => decide (a = b) | .str a, .str b => decide (a = b) | .rep a, .rep b => decide (a = b)
  | .tup a, .tup b => W.sames a b | .lst a, .lst b => W.sames a b | .lsk a, .lsk b => W.sames a b
  | .dk ks a, .dk ls b => decide (ks = ls) && W.sames a b | .dkw ks a, .dkw ls b => decide (ks = ls) && W.sames a b | .st a, .st b => W.sames a b
  | .ref a, .ref b => a == b | .fn a, .fn b => a == b | .cl a, .cl b => a == b
  | _, _ => false
def W.sames : List W → List W → Bool
  | [], [] => true
  | x :: xs, y :: ys => W.same x y && W.sames xs ys
  | _, _ => false
end
mutual
theorem W.same_refl : ∀ x : W, W.same x x = true
  | .non => rfl | .bl a => by simp [W.same] | .int a => by simp [W.same] | .str a => by simp [W.same] | .rep a => by simp [W.same]
  | .tup a => by simp [W.same, W.sames_refl a] | .lst a => by simp [W.same, W.sames_refl a] | .lsk a => by simp [W.same, W.sames_refl a]
  | .dk ks a => by simp [W.same, W.sames_refl a] | .dkw ks a => by simp [W.same, W.sames_refl a] | .st a => by simp [W.same, W.sames_refl a]
  | .ref a => by simp [W.same] | .fn a => by simp [W.same] | .cl a => by simp [W.same]
theorem W.sames_refl : ∀ xs : List W, W.sames xs xs = true
  | [] => rfl
  | x :: xs => by simp [W.sames, W.same_refl x, W.sames_refl xs]
end
mutual
theorem W.same_eq : ∀ (x y : W), W.same x y = true → x = y
  | .non, y, h => by cases y <;> simp_all [W.same]
  | .bl a, y, h => by cases y <;> simp_all [W.same]
  | .int a, y, h => by cases y <;> simp_all [W.same]
  | .str a, y, h => by cases y <;> simp_all [W.same]
  | .rep a, y, h => by cases y <;> simp_all [W.same]
  | .tup a, y, h => by cases y <;> simp [W.same] at h; rename_i b; rw [W.sames_eq a b h]
  | .lst a, y, h => by cases y <;> simp [W.same] at h; rename_i b; rw [W.sames_eq a b h]
  | .lsk a, y, h => by cases y <;> simp [W.same] at h; rename_i b; rw [W.sames_eq a b h]
  | .dk ks a, y, h => by cases y <;> simp [W.same] at h; rename_i ls b; rw [h.1, W.sames_eq a b h.2]
  | .dkw ks a, y, h => by cases y <;> simp [W.same] at h; rename_i ls b; rw [h.1, W.sames_eq a b h.2]
  | .st a, y, h => by cases y <;> simp [W.same] at h; rename_i b; rw [W.sames_eq a b h]
  | .ref a, y, h => by cases y <;> simp_all [W.same]
  | .fn a, y, h => by cases y <;> simp_all [W.same]
  | .cl a, y, h => by cases y <;> simp_all [W.same]
theorem W.sames_eq : ∀ (xs ys : List W), W.sames xs ys = true → xs = ys
  | [], ys, h => by cases ys <;> simp_all [W.sames]
  | x :: xs, ys, h => by
    cases ys with
    | nil => simp [W.sames] at h
    | cons y ys =>
      simp [W.sames] at h
      rw [W.same_eq x y h.1, W.sames_eq xs ys h.2]
end

/-! ### results -/
inductive R (α : Type) where
  | ok (a : α) (h : Hpa) | ex (x : Exn) (h : Hpa) | bad
def R.bind {α β : Type} (r : R α) (f : α → Hpa → R β) : R β := match r with
  | .ok a h => f a h
  | .ex x h => .ex x h
  | .bad => .bad
@[simp] theorem R.bind_ok {α β : Type} (a : α) (h : Hpa) (f : α → Hpa → R β) : (R.ok a h).bind f = f a h := rfl
@[simp] theorem R.bind_ex {α β : Type} (x : Exn) (h : Hpa) (f : α → Hpa → R β) : (R.ex x h : R α).bind f = .ex x h := rfl
@[simp] theorem R.bind_bad {α β : Type} (f : α → Hpa → R β) : (R.bad : R α).bind f = .bad := rfl
inductive SR where
  | nx (v : Env) (h : Hpa) | rt (w : W) (h : Hpa) | bk (v : Env) (h : Hpa) | ct (v : Env) (h : Hpa) | ex (x : Exn) (v : Env) (h : Hpa) | bad
def R.st (r : R W) (v : Env) (f : W → Hpa → SR) : SR := match r with
  | .ok a h => f a h
  | .ex x h => .ex x v h
  | .bad => .bad
@[simp] theorem R.st_ok (a : W) (h : Hpa) (v : Env) (f : W → Hpa → SR) : (R.ok a h).st v f = f a h := rfl
@[simp] theorem R.st_ex (x : Exn) (h : Hpa) (v : Env) (f : W → Hpa → SR) : (R.ex x h : R W).st v f = .ex x v h := rfl
@[simp] theorem R.st_bad (v : Env) (f : W → Hpa → SR) : (R.bad : R W).st v f = .bad := rfl
def SR.seq (r : SR) (f : Env → Hpa → SR) : SR := match r with
  | .nx v h => f v h
  | r => r
@[simp] theorem SR.seq_nx (v : Env) (h : Hpa) (f : Env → Hpa → SR) : (SR.nx v h).seq f = f v h := rfl
@[simp] theorem SR.seq_rt (w : W) (h : Hpa) (f : Env → Hpa → SR) : (SR.rt w h).seq f = .rt w h := rfl
@[simp] theorem SR.seq_bk (v : Env) (h : Hpa) (f : Env → Hpa → SR) : (SR.bk v h).seq f = .bk v h := rfl
@[simp] theorem SR.seq_ct (v : Env) (h : Hpa) (f : Env → Hpa → SR) : (SR.ct v h).seq f = .ct v h := rfl
@[simp] theorem SR.seq_ex (x : Exn) (v : Env) (h : Hpa) (f : Env → Hpa → SR) : (SR.ex x v h).seq f = .ex x v h := rfl
@[simp] theorem SR.seq_bad (f : Env → Hpa → SR) : (SR.bad).seq f = .bad := rfl
def ofO {α : Type} (o : Option α) (h : Hpa) : R α := match o with
  | some a => .ok a h
  | none => .bad
@[simp] theorem ofO_some {α : Type} (a : α) (h : Hpa) : ofO (some a) h = .ok a h := rfl

/-! ### the language -/
inductive O2 where
  | add | sub | mul | fdiv | mod | pow
inductive C2 where
  | eq | ne | lt | le | gt | ge | isin | notin
inductive Bt where
  | len | int_ | set_ | repr_ | min2 | all_ | any_ | sum_ | tuple_ | list_ (m : Bool) | str_
inductive Ty where
  | int | str | bool | tuple | list | dict
inductive Mt where
  | append | get2 | join | index | split | startswith | partition
inductive Tg where
  | nm (i : Nat) | tp (is : List Nat)
mutual
inductive E where
  | var (i : Nat) | cst (k : Nat) | non | bl (b : Bool) | int (i : Int) | str (s : Str)
  | tup (es : Es) | lst (m : Bool) (es : Es) | dsp (m : Bool) (ks : List Key) (es : Es)
  | op (o : O2) (a b : E) | neg (a : E) | not (a : E) | one (a : E) | and (a b : E) | or (a b : E)
  | cmp (c : C2) (a b : E) | chain (c d : C2) (a b e : E) | isN (a : E) | notN (a : E)
  | ite (c a b : E)
  | call (f : Nat) (es : Es) | blt (f : Bt) (es : Es) | mth (f : Mt) (o : E) (es : Es)
  | idx (o i : E) | slc (o lo hi : E) | no | inst (t : Ty) (a : E) | isB (b : Bool) (a : E) | rev (a : E)
  | comp (m : Bool) (elt : E) (t : Tg) (it : It) (c : E)
inductive Es where
  | nil | cons (e : E) (es : Es)
inductive It where
  | of (e : E) | rng1 (a : E) | rng2 (a b : E) | enm (e : E) | zip (a b : E)
end
mutual
inductive S where
  | asg (t : Tg) (e : E) | asgSub (o i e : E) | par2 (i j : Nat) (a b : E) | expr (e : E) | ret (e : E) | retN
  | ite (c : E) (a b : Ss) | loop (t : Tg) (it : It) (b : Ss) | wh (c : E) (b : Ss) | pass | cont | brk | nope
inductive Ss where
  | nil | cons (s : S) (ss : Ss)
end
structure Fd where
  np : Nat
  ns : Nat
  keep : Bool
  body : Ss

def sOkB0 (s : Str) : Bool := s.cps.toList.all fun c => decide (c < 0x110000)
def tyS : Ty → String
  | .int => "int" | .str => "str" | .bool => "bool" | .tuple => "tuple" | .list => "list" | .dict => "dict"
/-! ### operations -/
abbrev LIM : Nat := 16777216
/-- the items of a list that is ours or no one's -/
def asLc (h : Hpa) : W → Option (List W)
  | .lst xs => some xs
  | .ref n => (match h[n]? with
    | some (.lst xs) => some xs
    | _ => none)
  | _ => none
def asL (h : Hpa) : W → Option (List W)
  | .lst xs => some xs
  | .lsk xs => some xs
  | .ref n => (match h[n]? with
    | some (.lst xs) => some xs
    | _ => none)
  | _ => none
/-- the items of a list or tuple -/
def asQ (h : Hpa) : W → Option (List W)
  | .tup xs => some xs
  | w => asL h w
def mkL (m : Bool) (xs : List W) (h : Hpa) : R W :=
  if xs.length ≤ LIM then (if m then .ok (.ref h.length) (h ++ [.lst xs]) else .ok (.lst xs) h) else .bad
def mkT (xs : List W) (h : Hpa) : R W := if xs.length ≤ LIM then .ok (.tup xs) h else .bad
/-- as data, through the objects, to a depth -/
def toD (h : Hpa) : Nat → W → Option PyData
  | 0, _ => none
  | n + 1, w => match w with
    | .non => some .none
    | .bl b => some (.bool b)
    | .int i => some (.int i)
    | .str s => some (.str s)
    | .tup xs => (xs.mapM (toD h n)).map .tuple
    | .lst xs => (xs.mapM (toD h n)).map .list
    | .lsk xs => (xs.mapM (toD h n)).map .list
    | .ref k => (match h[k]? with
      | some (.lst xs) => (xs.mapM (toD h n)).map .list
      | _ => none)
    | _ => none
abbrev DEP : Nat := 20
def eqD (h : Hpa) (x y : W) : Option Bool := match toD h DEP x, toD h DEP y with
  | some d, some e => some (PyData.eqv d e)
  | _, _ => none
def eqW (h : Hpa) : W → W → Option Bool
  | .rep a, .rep b => some (decide (a = b))
  | x, y => eqD h x y
def keyOf : W → Option Key
  | .int i => some (.inl i)
  | .str s => some (.inr s)
  | _ => none
def kW : Key → W
  | .inl i => .int i
  | .inr s => .str s
def lookK : List Key → List W → Key → Option W
  | k :: ks, v :: vs, q => if k = q then some v else lookK ks vs q
  | _, _, _ => none
def putKs : List Key → Key → List Key
  | [], q => [q]
  | k :: ks, q => if k = q then k :: ks else k :: putKs ks q
def putVs : List Key → List W → Key → W → List W
  | k :: ks, v :: vs, q, w => if k = q then w :: vs else v :: putVs ks vs q w
  | _, _, _, w => [w]
def asDk (h : Hpa) : W → Option (List Key × List W)
  | .dk ks vs => some (ks, vs)
  | .dkw ks vs => some (ks, vs)
  | .ref n => (match h[n]? with
    | some (.dk ks vs) => some (ks, vs)
    | _ => none)
  | _ => none
/-- the key of a look-up: a written dict is asked by texts alone -/
def keyIn (d w : W) : Option Key := match d with
  | .dkw _ _ => (match w with
    | .str s => some (.inr s)
    | _ => none)
  | _ => keyOf w
def small64 (i : Int) : Bool := decide (-(2 ^ 64) < i) && decide (i < 2 ^ 64)
def opW (h : Hpa) : O2 → W → W → R W
  | .add, .int i, .int j => .ok (.int (i + j)) h
  | .add, .str a, .str b => if a.length + b.length ≤ LIM then .ok (.str (a ++ b)) h else .bad
  | .add, .tup a, .tup b => mkT (a ++ b) h
  | .add, x, y => (match asLc h x, asLc h y with
    | some a, some b => mkL false (a ++ b) h
    | _, _ => .bad)
  | .sub, .int i, .int j => .ok (.int (i - j)) h
  | .mul, .int i, .int j => if small64 i || small64 j then .ok (.int (i * j)) h else .bad
  | .fdiv, .int i, .int j => if j ≠ 0 ∧ j.natAbs < 1073741824 then .ok (.int (i.fdiv j)) h else .bad
  | .mod, .int i, .int j => if j ≠ 0 then .ok (.int (i.fmod j)) h else .bad
  | .pow, .int i, .int j => if 0 ≤ j ∧ j ≤ 1000000 ∧ i.natAbs < 2 ^ 64 then .ok (.int (i ^ j.toNat)) h else .bad
  | .mul, .str s, .int j => if 0 ≤ j ∧ j ≤ 1000 ∧ s.length ≤ 1000 then .ok (.str (Txt.mul s j)) h else .bad
  | .mul, .tup s, .int j => if 2 ≤ j ∧ j ≤ 1000 ∧ s.length ≤ 1000 ∧ s ≠ [] then .ok (.tup ((List.replicate j.toNat s).flatten)) h else .bad
  | _, _, _ => .bad
def inW (h : Hpa) (x : W) (ys : List W) : Option Bool := match toD h DEP x, ys.mapM (toD h DEP) with
  | some d, some ds => some (ds.any fun z => PyData.eqv z d)
  | _, _ => none
def strIn (a b : Str) : Bool := !(Builtin.Str.occurrences b a 0 b.length 1).isEmpty
def isinW (h : Hpa) (x y : W) : Option Bool := match y with
  | .str b => (match x with
    | .str a => some (strIn a b)
    | _ => none)
  | y => (match asDk h y with
    | some (ks, vs) => (keyIn y x).map fun k => (lookK ks vs k).isSome
    | none => (match asQ h y with
      | some ys => inW h x ys
      | none => none))
def cmpW (h : Hpa) : C2 → W → W → Option Bool
  | .eq, x, y => eqW h x y
  | .ne, x, y => (eqW h x y).map (!·)
  | .lt, .int i, .int j => some (decide (i < j))
  | .le, .int i, .int j => some (decide (i ≤ j))
  | .gt, .int i, .int j => some (decide (j < i))
  | .ge, .int i, .int j => some (decide (j ≤ i))
  | .isin, x, y => isinW h x y
  | .notin, x, y => (isinW h x y).map (!·)
  | _, _, _ => none
/-- the type of a value, where it is told -/
def tyW (h : Hpa) : W → Option String
  | .non => some "NoneType" | .bl _ => some "bool" | .int _ => some "int" | .str _ => some "str" | .rep _ => some "str" | .tup _ => some "tuple" | .lst _ => some "list" | .lsk _ => some "list" | .dk _ _ => some "dict"
  | .ref n => (match h[n]? with
    | some (.lst _) => some "list"
    | some (.dk _ _) => some "dict"
    | _ => none)
  | _ => none
def instW (h : Hpa) (t : Ty) (w : W) : Option Bool := (tyW h w).bind fun a => L2.kitB a (tyS t)
def isbW (b : Bool) : W → Bool
  | .bl c => b == c
  | _ => false
def asB : W → Option Bool
  | .bl b => some b
  | _ => none
def idxW (h : Hpa) (o i : W) : Option W := match o with
  | .str s => (match i with
    | .int k => if s.length ≤ LIM then (atI s.cps.toList k).map fun c => .str ⟨#[c]⟩ else none
    | _ => none)
  | o => (match asDk h o with
    | some (ks, vs) => (keyIn o i).bind (lookK ks vs)
    | none => (match asQ h o, i with
      | some xs, .int k => atI xs k
      | _, _ => none))
def bnd : W → Option (Option Int)
  | .int i => some (some i)
  | _ => none
def cutL {α : Type} (xs : List α) (lo hi : Option Int) : List α := (xs.drop (HT.sIx xs.length 0 lo)).take (HT.sIx xs.length xs.length hi - HT.sIx xs.length 0 lo)
def slcW (h : Hpa) (o : W) (lo hi : Option Int) : Option W := match o with
  | .str s => if s.length ≤ LIM then some (.str (cutS s lo hi)) else none
  | .tup xs => some (.tup (cutL xs lo hi))
  | o => (asL h o).map fun xs => .lst (cutL xs lo hi)
def allI : List W → Option (List Int)
  | [] => some []
  | .int i :: r => (allI r).map (i :: ·)
  | _ => none
def allB : List W → Option (List Bool)
  | [] => some []
  | .bl i :: r => (allB r).map (i :: ·)
  | _ => none
def allS : List W → Option (List Str)
  | [] => some []
  | .str i :: r => (allS r).map (i :: ·)
  | _ => none
def allK : List W → Option (List Key)
  | [] => some []
  | w :: r => (match keyOf w, allK r with
    | some k, some ks => some (k :: ks)
    | _, _ => none)
/-- each once, as first met -/
def onceK : List Key → List Key → List Key
  | acc, [] => acc
  | acc, k :: ks => onceK (if (acc.any fun x => decide (x = k)) then acc else acc ++ [k]) ks
def bltW (h : Hpa) : Bt → List W → R W
  | .len, [.str s] => if s.length ≤ LIM then .ok (.int s.length) h else .bad
  | .len, [.st xs] => .ok (.int xs.length) h
  | .len, [w] => (match asQ h w with
    | some xs => .ok (.int xs.length) h
    | none => .bad)
  | .int_, [.int i] => .ok (.int i) h
  | .int_, [.bl b] => .ok (.int (if b then 1 else 0)) h
  | .int_, [.str s] => (match PySem.intText? s with
    | some n => if s.length ≤ 640 then .ok (.int n) h else .bad
    | none => .bad)
  | .str_, [.int i] => if i.natAbs.log2 < 1920 then .ok (.str (toString i)) h else .bad
  | .min2, [.int i, .int j] => .ok (.int (if j < i then j else i)) h
  | .all_, [w] => (match (asL h w).bind allB with
    | some bs => .ok (.bl (bs.all id)) h
    | none => .bad)
  | .any_, [w] => (match (asL h w).bind allB with
    | some bs => .ok (.bl (bs.any id)) h
    | none => .bad)
  | .sum_, [w] => (match (asL h w).bind allI with
    | some ns => .ok (.int ns.sum) h
    | none => .bad)
  | .tuple_, [w] => (match asQ h w with
    | some xs => mkT xs h
    | none => .bad)
  | .list_ m, [w] => (match asQ h w with
    | some xs => mkL m xs h
    | none => .bad)
  | .set_, [w] => (match (asL h w).bind allK with
    | some ks => if ks.length ≤ 4000 then .ok (.st ((onceK [] ks).map kW)) h else .bad
    | none => .bad)
  | .repr_, [w] => (match toD h DEP w with
    | some d => if d.showable = true ∧ d.shown.length ≤ LIM then .ok (.rep d.shown) h else .bad
    | none => .bad)
  | _, _ => .bad
def okSt (lo n : Nat) (w : W) : Bool := decide (lo ≤ n) || w.pure
/-- what a method asks of its object ahead of its arguments -/
def mPre (h : Hpa) : Mt → W → Bool
  | .append, .ref n => (match h[n]? with
    | some (.lst _) => true
    | _ => false)
  | .get2, .dkw _ _ => false
  | .get2, o => (asDk h o).isSome
  | .join, .str _ => true
  | .split, .str _ => true
  | .startswith, .str _ => true
  | .partition, .str _ => true
  | .index, o => (asQ h o).isSome
  | _, _ => false
def mthW (lo : Nat) (h : Hpa) : Mt → W → List W → R W
  | .append, .ref n, [w] => (match h[n]? with
    | some (.lst xs) => if xs.length < LIM ∧ okSt lo n w = true then .ok .non (h.set n (.lst (xs ++ [w]))) else .bad
    | _ => .bad)
  | .get2, o, [k, w] => (match asDk h o, keyIn o k with
    | some (ks, vs), some q => .ok ((lookK ks vs q).getD w) h
    | _, _ => .bad)
  | .join, .str a, [o] => (match (asQ h o).bind allS with
    | some ys => if (ys.map (·.length)).sum + ys.length * a.length ≤ LIM then .ok (.str (Txt.join a ys)) h else .bad
    | none => .bad)
  | .split, .str a, [.str b] => if (b.length == 0) = false ∧ a.length + 2 ≤ LIM ∧ (Txt.split a b).all sOkB0 = true then .ok (.lst ((Txt.split a b).map .str)) h else .bad
  | .startswith, .str a, [.str b] => .ok (.bl (Txt.startswith a b)) h
  | .partition, .str a, [.str b] => if (b.length == 0) = false ∧ a.length ≤ LIM ∧ (sOkB0 (Txt.partition a b).1 && sOkB0 (Txt.partition a b).2.1 && sOkB0 (Txt.partition a b).2.2) = true then .ok (.tup [.str (Txt.partition a b).1, .str (Txt.partition a b).2.1, .str (Txt.partition a b).2.2]) h else .bad
  | _, _, _ => .bad
def setW (lo : Nat) (h : Hpa) (o i w : W) : Option Hpa := match o with
  | .ref n => (match h[n]?, i with
    | some (.lst xs), .int k => (match ixN xs.length k with
      | some j => if okSt lo n w = true then some (h.set n (.lst (xs.set j w))) else none
      | none => none)
    | some (.dk ks vs), i => (match keyOf i with
      | some q => if ks.length < LIM ∧ ks.Nodup ∧ okSt lo n w = true then some (h.set n (.dk (putKs ks q) (putVs ks vs q w))) else none
      | none => none)
    | _, _ => none)
  | _ => none

/-! ### the evaluator -/
structure Cxt where
  call : Nat → List W → Hpa → R W
  lo : Nat
  cst : Nat → Option W
def setTg : Tg → W → Env → Option Env
  | .nm i, w, v => some (v.set i (some w))
  | .tp is, .tup ws, v => if is.length = ws.length then some ((is.zip ws).foldl (fun v p => v.set p.1 (some p.2)) v) else none
  | _, _, _ => none
def tgs : Tg → List Nat
  | .nm i => [i]
  | .tp is => is
def wipeE (v : Env) : List Nat → Env
  | [] => v
  | i :: is => (wipeE v is).set i none
/-- is what is walked as it was -/
def okG (g : Option Nat) (all : List W) (h : Hpa) : Bool := match g with
  | none => true
  | some n => (match h[n]? with
    | some (.lst ys) => W.sames ys all
    | _ => false)
def gOf : W → Option Nat
  | .ref n => some n
  | _ => none
def strSigns (s : Str) : List W := s.cps.toList.map fun c => .str ⟨#[c]⟩
def pairs (xs ys : List W) : List W := (xs.zip ys).map fun p => .tup [p.1, p.2]
/-- what is walked: its items, and the list that must stay -/
structure Wk where
  xs : List W
  g : List (Nat × List W)
def okGs (gs : List (Nat × List W)) (h : Hpa) : Bool := gs.all fun p => okG (some p.1) p.2 h
def rngW (a b : Int) : List W := (List.range (b - a).toNat).map fun (k : Nat) => .int (a + (k : Int))
def small62 (i : Int) : Bool := decide (-(2 ^ 62) ≤ i) && decide (i < 2 ^ 62)
def enumW (xs : List W) : List W := pairs (rngW 0 xs.length) xs
def compL (body : W → Hpa → R (Option W)) (gs : List (Nat × List W)) : List W → Hpa → R (List W)
  | [], h => if okGs gs h then .ok [] h else .bad
  | x :: xs, h => if okGs gs h then (body x h).bind fun o h1 => (compL body gs xs h1).bind fun ys h2 => .ok (match o with
    | some y => y :: ys
    | none => ys) h2 else .bad
/-- a list's own name, where it is ours -/
def gOn (x : W) (xs : List W) : List (Nat × List W) := match x with
  | .ref n => [(n, xs)]
  | _ => []
def wkOf (h : Hpa) (w : W) : Option Wk := match w with
  | .str s => some ⟨strSigns s, []⟩
  | .tup xs => some ⟨xs, []⟩
  | w => (asL h w).map fun xs => ⟨xs, gOn w xs⟩
def zipW (h : Hpa) (x y : W) : Option Wk := match x, y with
  | .tup xs, .tup ys => some ⟨pairs xs ys, []⟩
  | x, y => (match asL h x, asL h y with
    | some xs, some ys => some ⟨pairs xs ys, gOn x xs ++ gOn y ys⟩
    | _, _ => none)
def noEx {α : Type} (r : R α) : R α := match r with
  | .ex _ _ => .bad
  | r => r
@[simp] theorem noEx_ok {α : Type} (a : α) (h : Hpa) : noEx (.ok a h) = .ok a h := rfl
def isNo : E → Bool
  | .no => true
  | _ => false
/-- a slice's bound -/
def ixO (x : W) (h : Hpa) : R (Option Int) := match x with
  | .int i => .ok (some i) h
  | _ => .bad
mutual
def evE (cx : Cxt) : E → Env → Hpa → R W
  | .var i, v, h => (match v[i]? with
    | some (some w) => .ok w h
    | _ => .bad)
  | .cst k, _, h => ofO (cx.cst k) h
  | .non, _, h => .ok .non h
  | .bl b, _, h => .ok (.bl b) h
  | .int i, _, h => .ok (.int i) h
  | .str s, _, h => .ok (.str s) h
  | .tup es, v, h => (evEs cx es v h).bind mkT
  | .lst m es, v, h => (evEs cx es v h).bind (mkL m)
  | .dsp m ks es, v, h => (evEs cx es v h).bind fun ws h1 =>
      if ws.length = ks.length ∧ ks.length ≤ 15 ∧ ks.Nodup then (if m then .ok (.ref h1.length) (h1 ++ [.dk ks ws]) else .ok (.dk ks ws) h1) else .bad
  | .op o a b, v, h => (evE cx a v h).bind fun x h1 => (evE cx b v h1).bind fun y h2 => opW h2 o x y
  | .neg a, v, h => (evE cx a v h).bind fun x h1 => (match x with
    | .int i => .ok (.int (-i)) h1
    | _ => .bad)
  | .not a, v, h => (evE cx a v h).bind fun x h1 => (match x with
    | .bl b => .ok (.bl (!b)) h1
    | _ => .bad)
  | .one a, v, h => evE cx a v h
  | .and a b, v, h => (evE cx a v h).bind fun x h1 => (match x with
    | .bl true => evE cx b v h1
    | .bl false => .ok (.bl false) h1
    | _ => .bad)
  | .or a b, v, h => (evE cx a v h).bind fun x h1 => (match x with
    | .bl true => .ok (.bl true) h1
    | .bl false => evE cx b v h1
    | _ => .bad)
  | .cmp c a b, v, h => (evE cx a v h).bind fun x h1 => (evE cx b v h1).bind fun y h2 => ofO ((cmpW h2 c x y).map .bl) h2
  | .chain c d a b e, v, h => (evE cx a v h).bind fun x h1 => (evE cx b v h1).bind fun y h2 => (match cmpW h2 c x y with
    | some true => (evE cx e v h2).bind fun z h3 => ofO ((cmpW h3 d y z).map .bl) h3
    | some false => .ok (.bl false) h2
    | none => .bad)
  | .isN a, v, h => (evE cx a v h).bind fun x h1 => .ok (.bl (match x with
    | .non => true
    | _ => false)) h1
  | .notN a, v, h => (evE cx a v h).bind fun x h1 => .ok (.bl (match x with
    | .non => false
    | _ => true)) h1
  | .ite c a b, v, h => (evE cx c v h).bind fun x h1 => (match x with
    | .bl true => evE cx a v h1
    | .bl false => evE cx b v h1
    | _ => .bad)
  | .call f es, v, h => (evEs cx es v h).bind fun ws h1 => cx.call f ws h1
  | .blt f es, v, h => (evEs cx es v h).bind fun ws h1 => bltW h1 f ws
  | .mth f o es, v, h => (evE cx o v h).bind fun x h1 => if mPre h1 f x then (evEs cx es v h1).bind fun ws h2 => mthW cx.lo h2 f x ws else .bad
  | .idx o i, v, h => (evE cx o v h).bind fun x h1 => (evE cx i v h1).bind fun y h2 => ofO (idxW h2 x y) h2
  | .slc o lo hi, v, h => (evE cx o v h).bind fun x h1 => (if isNo lo then .ok none h1 else (evE cx lo v h1).bind ixO).bind fun a h2 => (if isNo hi then .ok none h2 else (evE cx hi v h2).bind ixO).bind fun b h3 => ofO (slcW h3 x a b) h3
  | .no, _, _ => .bad
  | .inst t a, v, h => (evE cx a v h).bind fun x h1 => ofO ((instW h1 t x).map .bl) h1
  | .isB b a, v, h => (evE cx a v h).bind fun x h1 => .ok (.bl (isbW b x)) h1
  | .rev a, v, h => (evE cx a v h).bind fun x h1 => ofO ((asL h1 x).map fun xs => .lst xs.reverse) h1
  | .comp m elt t it c, v, h => (evI cx it v h).bind fun wk h1 =>
      (noEx (compL (fun x h2 => match setTg t x (wipeE v (tgs t)) with
        | some v2 => (evE cx c v2 h2).bind fun b h3 => (match b with
          | .bl true => (evE cx elt v2 h3).bind fun y h4 => .ok (some y) h4
          | .bl false => .ok none h3
          | _ => .bad)
        | none => .bad) wk.g wk.xs h1)).bind (mkL m)
termination_by structural e => e
def evEs (cx : Cxt) : Es → Env → Hpa → R (List W)
  | .nil, _, h => .ok [] h
  | .cons e es, v, h => (evE cx e v h).bind fun x h1 => (evEs cx es v h1).bind fun xs h2 => .ok (x :: xs) h2
termination_by structural e => e
def evI (cx : Cxt) : It → Env → Hpa → R Wk
  | .of e, v, h => (evE cx e v h).bind fun x h1 => ofO (wkOf h1 x) h1
  | .rng1 a, v, h => (evE cx a v h).bind fun x h1 => (match x with
    | .int i => if small62 i then .ok ⟨rngW 0 i, []⟩ h1 else .bad
    | _ => .bad)
  | .rng2 a b, v, h => (evE cx a v h).bind fun x h1 => (evE cx b v h1).bind fun y h2 => (match x, y with
    | .int i, .int j => if small62 i && small62 j then .ok ⟨rngW i j, []⟩ h2 else .bad
    | _, _ => .bad)
  | .enm e, v, h => (evE cx e v h).bind fun x h1 => (match asL h1 x with
    | some xs => .ok ⟨enumW xs, gOn x xs⟩ h1
    | none => .bad)
  | .zip a b, v, h => (evE cx a v h).bind fun x h1 => (evE cx b v h1).bind fun y h2 => ofO (zipW h2 x y) h2
termination_by structural e => e
end
def R.sv {α : Type} (r : R α) (v : Env) (f : α → Hpa → SR) : SR := match r with
  | .ok a h => f a h
  | .ex x h => .ex x v h
  | .bad => .bad
@[simp] theorem R.sv_ok {α : Type} (a : α) (h : Hpa) (v : Env) (f : α → Hpa → SR) : (R.ok a h).sv v f = f a h := rfl
@[simp] theorem R.sv_bad {α : Type} (v : Env) (f : α → Hpa → SR) : (R.bad : R α).sv v f = .bad := rfl
def loopL (body : W → Env → Hpa → SR) (gs : List (Nat × List W)) : List W → Env → Hpa → SR
  | [], v, h => if okGs gs h then .nx v h else .bad
  | x :: xs, v, h => if okGs gs h then (match body x v h with
    | .nx v1 h1 => loopL body gs xs v1 h1
    | .ct v1 h1 => loopL body gs xs v1 h1
    | .bk v1 h1 => .nx v1 h1
    | r => r) else .bad
def whL (c : Env → Hpa → R W) (body : Env → Hpa → SR) : Nat → Env → Hpa → SR
  | 0, _, _ => .bad
  | n + 1, v, h => (c v h).sv v fun x h1 => match x with
    | .bl true => (match body v h1 with
      | .nx v1 h2 => whL c body n v1 h2
      | .ct v1 h2 => whL c body n v1 h2
      | .bk v1 h2 => .nx v1 h2
      | r => r)
    | .bl false => .nx v h1
    | _ => .bad
abbrev FUEL : Nat := 100000
mutual
def exS (cx : Cxt) : S → Env → Hpa → SR
  | .asg t e, v, h => (evE cx e v h).sv v fun x h1 => (match setTg t x v with
    | some v1 => .nx v1 h1
    | none => .bad)
  | .asgSub o i e, v, h => (evE cx e v h).sv v fun x h1 => (evE cx o v h1).sv v fun a h2 => (evE cx i v h2).sv v fun b h3 => (match setW cx.lo h3 a b x with
    | some h4 => .nx v h4
    | none => .bad)
  | .par2 i j a b, v, h => (evE cx a v h).sv v fun x h1 => (evE cx b v h1).sv v fun y h2 => .nx ((v.set i (some x)).set j (some y)) h2
  | .expr e, v, h => (evE cx e v h).sv v fun _ h1 => .nx v h1
  | .ret e, v, h => (evE cx e v h).sv v fun x h1 => .rt x h1
  | .retN, _, h => .rt .non h
  | .ite c a b, v, h => (evE cx c v h).sv v fun x h1 => (match x with
    | .bl true => exSs cx a v h1
    | .bl false => exSs cx b v h1
    | _ => .bad)
  | .loop t it b, v, h => (evI cx it v h).sv v fun wk h1 => loopL (fun x v2 h2 => match setTg t x v2 with
    | some v3 => exSs cx b v3 h2
    | none => .bad) wk.g wk.xs v h1
  | .wh c b, v, h => whL (fun v h => evE cx c v h) (fun v h => exSs cx b v h) FUEL v h
  | .pass, v, h => .nx v h
  | .cont, v, h => .ct v h
  | .brk, v, h => .bk v h
  | .nope, _, _ => .bad
termination_by structural e => e
def exSs (cx : Cxt) : Ss → Env → Hpa → SR
  | .nil, v, h => .nx v h
  | .cons s ss, v, h => (exS cx s v h).seq fun v1 h1 => exSs cx ss v1 h1
termination_by structural e => e
end
/-- what is handed out of a def: objects made since lo become values -/
def frz (lo : Nat) (h : Hpa) : Nat → W → Option W
  | 0, _ => none
  | k + 1, w => if w.pure then some w else match w with
    | .ref n => if n < lo then some (.ref n) else (match h[n]? with
      | some (.lst xs) => (xs.mapM (frz lo h k)).map .lst
      | some (.dk ks vs) => if ks = [] then none else (vs.mapM (frz lo h k)).map (.dk ks)
      | _ => none)
    | .tup xs => (xs.mapM (frz lo h k)).map .tup
    | .lst xs => (xs.mapM (frz lo h k)).map .lst
    | _ => none
def fin (keep : Bool) (lo : Nat) (w : W) (h : Hpa) : R W := if keep then .ok w h else match frz lo h DEP w with
  | some w' => .ok w' (h.take lo)
  | none => .bad
structure Pg where
  fd : Nat → Option Fd
  cst : Nat → Option W
def callF (P : Pg) : Nat → Nat → Nat → List W → Hpa → R W
  | 0, _, _, _, _ => .bad
  | n + 1, lo, f, ws, h => match P.fd f with
    | none => .bad
    | some d => if ws.length = d.np then
        let lo' := if d.keep then lo else h.length
        match exSs ⟨callF P n lo', lo', P.cst⟩ d.body (ws.map some ++ List.replicate (d.ns - d.np) none) h with
        | .rt w h' => fin d.keep lo' w h'
        | .nx _ h' => fin d.keep lo' .non h'
        | .ex x _ h' => .ex x (if d.keep then h' else h'.take lo')
        | _ => .bad
      else .bad
end Mi

/-! Mi2: how abstract values and objects lie in HandS's heap; what is wanted of a result. -/
namespace Mi
open PySem PySem.Spec PyProof.Rows L2

/-- the objects of ours, by their numbers; those in the making, that no value tells of -/
structure Own where
  ix : List Addr
  rs : List Addr
instance : Membership Addr Own := ⟨fun ι a => a ∈ ι.ix ∨ a ∈ ι.rs⟩
def Own.push (ι : Own) (p : Addr) : Own := ⟨ι.ix ++ [p], ι.rs⟩
def Own.hold (ι : Own) (p : Addr) : Own := ⟨ι.ix, p :: ι.rs⟩
theorem Own.not_ix {ι : Own} {a : Addr} (h : a ∉ ι) : a ∉ ι.ix := fun z => h (.inl z)
theorem Own.not_rs {ι : Own} {a : Addr} (h : a ∉ ι) : a ∉ ι.rs := fun z => h (.inr z)
theorem Own.not {ι : Own} {a : Addr} (h1 : a ∉ ι.ix) (h2 : a ∉ ι.rs) : a ∉ ι := fun z => z.elim h1 h2
theorem Own.mem_ix {ι : Own} {n : Nat} {a : Addr} (e : ι.ix[n]? = some a) : a ∈ ι := .inl (List.mem_of_getElem? e)
theorem Own.hold_not {ι : Own} {a p : Addr} (h : a ∉ ι.hold p) : a ∉ ι ∧ a ≠ p :=
  ⟨fun z => h (z.elim .inl fun z => .inr (List.mem_cons_of_mem _ z)), fun z => h (.inr (z ▸ List.mem_cons_self))⟩
theorem Own.not_hold {ι : Own} {a p : Addr} (h : a ∉ ι) (n : a ≠ p) : a ∉ ι.hold p :=
  fun z => z.elim (fun z => h (.inl z)) fun z => (List.mem_cons.mp z).elim n fun z => h (.inr z)
theorem Own.push_not {ι : Own} {a p : Addr} (h : a ∉ ι.push p) : a ∉ ι ∧ a ≠ p :=
  ⟨fun z => h (z.elim (fun z => .inl (List.mem_append_left _ z)) .inr), fun z => h (.inl (z ▸ by simp [Own.push]))⟩
theorem Own.not_push {ι : Own} {a p : Addr} (h : a ∉ ι) (n : a ≠ p) : a ∉ ι.push p :=
  fun z => z.elim (fun z => (List.mem_append.mp z).elim (fun z => h (.inl z)) fun z => n (by simpa using z)) fun z => h (.inr z)
def WrL (K : PySem.W.Frag) (a : Addr) (xs : List V) : Prop := ∃ (o : Obj) (its : Array Value) (n : Nat), K.lookup a = some o ∧ o.cls = .type "list" ∧ o.dict = none ∧ o.data = .seq its n ∧ its.size ≤ sizeLine ∧ Vals xs its.toList
def WrT (K : PySem.W.Frag) (a : Addr) (xs : List V) : Prop := ∃ (o : Obj) (its : Array Value) (n : Nat), K.lookup a = some o ∧ o.cls = .type "tuple" ∧ o.data = .seq its n ∧ its.size ≤ sizeLine ∧ Vals xs its.toList
/-- a written dict with text keys -/
def WrD (K : PySem.W.Frag) (w : World) (a : Addr) (ks : List Key) (vs : List V) : Prop :=
  ∃ es n, KDict K w a es n ∧ ∀ z : Str, ∃ r, PySem.W.nsIn K a z = some r ∧ (match valV (ks.zip vs) (.inr z) with
    | none => r = none
    | some v => ∃ u, r = some u ∧ RelV v u)

/-- the standing of the program: what is written, the world, the program -/
structure Bg where
  K : PySem.W.Frag
  w : World
  P : Program

def sOk (s : Str) : Prop := ∀ c ∈ s.cps.toList, c < 0x110000
def kOk : Key → Prop
  | .inl _ => True
  | .inr s => sOk s
def FzL (H : Hp) (ι : Own) (a : Addr) (vs : List V) : Prop := H a = some (.lst vs) ∧ a ∉ ι
def FzK (B : Bg) (H : Hp) (ι : Own) (a : Addr) (vs : List V) : Prop := (∃ o, H a = some (.frz o (.lst vs)) ∧ a ∉ ι) ∨ WrL B.K a vs
def FzT (B : Bg) (H : Hp) (ι : Own) (a : Addr) (vs : List V) : Prop := (Rd H a (.tup vs) ∧ a ∉ ι) ∨ WrT B.K a vs
def FzD (H : Hp) (ι : Own) (a : Addr) (ks : List Key) (vs : List V) : Prop := Rd H a (.dK (ks.zip vs)) ∧ a ∉ ι
/-- a set of numbers and texts, its members ks (each once) -/
def SetS (B : Bg) (a : Addr) (ks : List Key) : HO := .ext fun h => h.SetOf (mixKind B.P B.w) a (fun k => ks.any fun x => decide (x = k)) ks.length
def FzS (B : Bg) (H : Hp) (ι : Own) (a : Addr) (ks : List Key) : Prop := H a = some (SetS B a ks) ∧ a ∉ ι

mutual
inductive Rw (B : Bg) (H : Hp) (ι : Own) : W → V → Prop where
  | non : Rw B H ι .non .non
  | bl (b : Bool) : Rw B H ι (.bl b) (.bl b)
  | int (i : Int) : Rw B H ι (.int i) (.int i)
  | str (s : Str) : sOk s → Rw B H ι (.str s) (.str s)
  | rep (s : Str) : Rw B H ι (.rep s) (.str s)
  | tup {ws : List W} {vs : List V} {a : Addr} : FzT B H ι a vs → Rws B H ι ws vs → Rw B H ι (.tup ws) (.ref a)
  | lst {ws : List W} {vs : List V} {a : Addr} : FzL H ι a vs → Rws B H ι ws vs → Rw B H ι (.lst ws) (.ref a)
  | lsk {ws : List W} {vs : List V} {a : Addr} : FzK B H ι a vs → Rws B H ι ws vs → Rw B H ι (.lsk ws) (.ref a)
  | dk {ks : List Key} {ws : List W} {vs : List V} {a : Addr} : FzD H ι a ks vs → ks.length = vs.length → (∀ k ∈ ks, kOk k) → Rws B H ι ws vs → Rw B H ι (.dk ks ws) (.ref a)
  | dkw {ks : List Key} {ws : List W} {vs : List V} {a : Addr} : WrD B.K B.w a ks vs → ks.length = vs.length → (∀ k ∈ ks, kOk k) → Rws B H ι ws vs → Rw B H ι (.dkw ks ws) (.ref a)
  | st {ks : List Key} {a : Addr} : FzS B H ι a ks → (∀ k ∈ ks, kOk k) → Rw B H ι (.st (ks.map kW)) (.ref a)
  | ref {n : Nat} {a : Addr} : ι.ix[n]? = some a → Rw B H ι (.ref n) (.ref a)
inductive Rws (B : Bg) (H : Hp) (ι : Own) : List W → List V → Prop where
  | nil : Rws B H ι [] []
  | cons {x : W} {u : V} {xs : List W} {us : List V} : Rw B H ι x u → Rws B H ι xs us → Rws B H ι (x :: xs) (u :: us)
end

/-- what every value told of stands through -/
structure Xk (H : Hp) (ι : Own) (H' : Hp) (ι' : Own) : Prop where
  at_ : ∀ (n : Nat) (a : Addr), ι.ix[n]? = some a → ι'.ix[n]? = some a
  keep : ∀ b o, H b = some o → b ∉ ι → H' b = some o ∧ b ∉ ι'
/-- what came: new objects of ours are new indeed, what is not ours stays, so does what is in the making -/
structure Xt (H : Hp) (ι : Own) (H' : Hp) (ι' : Own) : Prop where
  ex : ∃ more, ι'.ix = ι.ix ++ more ∧ ∀ a ∈ more, H a = none
  rs : ι'.rs = ι.rs
  keep : ∀ b o, H b = some o → b ∉ ι → H' b = some o
  there : ∀ b o, H b = some o → ∃ o', H' b = some o'
  res : ∀ b ∈ ι.rs, H' b = H b

section
variable {B : Bg} {H H' H2 : Hp} {ι ι' ι2 : Own}
theorem Xk.refl : Xk H ι H ι := ⟨fun _ _ e => e, fun _ _ e n => ⟨e, n⟩⟩
theorem Xk.trans (x : Xk H ι H' ι') (y : Xk H' ι' H2 ι2) : Xk H ι H2 ι2 := ⟨fun n a e => y.at_ n a (x.at_ n a e), fun b o e n => let ⟨e1, n1⟩ := x.keep b o e n; y.keep b o e1 n1⟩
theorem Xt.refl : Xt H ι H ι := ⟨⟨[], by simp, fun _ h => nomatch h⟩, rfl, fun _ _ e _ => e, fun _ o e => ⟨o, e⟩, fun _ _ => rfl⟩
theorem Xt.notin (x : Xt H ι H' ι') {b : Addr} {o : HO} (e : H b = some o) (n : b ∉ ι) : b ∉ ι' := by
  obtain ⟨more, em, hm⟩ := x.ex
  refine Own.not (fun h => ?_) (by rw [x.rs]; exact Own.not_rs n)
  rw [em] at h
  rcases List.mem_append.mp h with h | h
  · exact Own.not_ix n h
  · rw [hm b h] at e
    cases e
theorem Xt.trans (x : Xt H ι H' ι') (y : Xt H' ι' H2 ι2) : Xt H ι H2 ι2 := by
  refine ⟨?_, y.rs.trans x.rs, fun b o e n => y.keep b o (x.keep b o e n) (x.notin e n), fun b o e => let ⟨o', e'⟩ := x.there b o e; y.there b o' e', fun b hb => (y.res b (by rw [x.rs]; exact hb)).trans (x.res b hb)⟩
  obtain ⟨m1, e1, h1⟩ := x.ex
  obtain ⟨m2, e2, h2⟩ := y.ex
  refine ⟨m1 ++ m2, by rw [e2, e1, List.append_assoc], fun a ha => ?_⟩
  rcases List.mem_append.mp ha with ha | ha
  · exact h1 a ha
  · cases q : H a with
    | none => rfl
    | some o =>
      obtain ⟨o', z⟩ := x.there a o q
      rw [h2 a ha] at z
      cases z
theorem Xt.at (x : Xt H ι H' ι') {n : Nat} {a : Addr} (e : ι.ix[n]? = some a) : ι'.ix[n]? = some a := by
  obtain ⟨more, em, _⟩ := x.ex
  rw [em, List.getElem?_append_left (List.getElem?_eq_some_iff.mp e).1]
  exact e
theorem Xt.k (x : Xt H ι H' ι') : Xk H ι H' ι' := ⟨fun _ _ e => x.at e, fun b o e n => ⟨x.keep b o e n, x.notin e n⟩⟩
theorem Rd.keep (x : Xk H ι H' ι') {a : Addr} {o : HO} (h : Rd H a o) (n : a ∉ ι) : Rd H' a o ∧ a ∉ ι' := by
  rcases h with h | ⟨u, h⟩
  · exact ⟨.inl (x.keep _ _ h n).1, (x.keep _ _ h n).2⟩
  · exact ⟨.inr ⟨u, (x.keep _ _ h n).1⟩, (x.keep _ _ h n).2⟩
mutual
theorem Rw.monoK (x : Xk H ι H' ι') : ∀ {w : W} {u : V}, Rw B H ι w u → Rw B H' ι' w u
  | _, _, .non => .non
  | _, _, .bl b => .bl b
  | _, _, .int i => .int i
  | _, _, .str s h => .str s h
  | _, _, .rep s => .rep s
  | _, _, .tup f r => .tup (f.imp (fun ⟨p, n⟩ => Rd.keep x p n) id) (Rws.monoK x r)
  | _, _, .lst f r => .lst (x.keep _ _ f.1 f.2) (Rws.monoK x r)
  | _, _, .lsk f r => .lsk (f.imp (fun ⟨u, p, n⟩ => ⟨u, x.keep _ _ p n⟩) id) (Rws.monoK x r)
  | _, _, .dk f l k r => .dk (Rd.keep x f.1 f.2) l k (Rws.monoK x r)
  | _, _, .dkw f l k r => .dkw f l k (Rws.monoK x r)
  | _, _, .st f k => .st (x.keep _ _ f.1 f.2) k
  | _, _, .ref e => .ref (x.at_ _ _ e)
theorem Rws.monoK (x : Xk H ι H' ι') : ∀ {ws : List W} {us : List V}, Rws B H ι ws us → Rws B H' ι' ws us
  | _, _, .nil => .nil
  | _, _, .cons a b => .cons (Rw.monoK x a) (Rws.monoK x b)
end
theorem Rw.mono (x : Xt H ι H' ι') {w : W} {u : V} (r : Rw B H ι w u) : Rw B H' ι' w u := r.monoK x.k
theorem Rws.mono (x : Xt H ι H' ι') {ws : List W} {us : List V} (r : Rws B H ι ws us) : Rws B H' ι' ws us := r.monoK x.k
theorem Rws.length : ∀ {ws : List W} {us : List V}, Rws B H ι ws us → ws.length = us.length
  | _, _, .nil => rfl
  | _, _, .cons _ r => by simp [Rws.length r]
theorem Rws.get : ∀ {ws : List W} {us : List V} {i : Nat} {w : W}, Rws B H ι ws us → ws[i]? = some w → ∃ u, us[i]? = some u ∧ Rw B H ι w u
  | _, _, _, _, .nil, e => by simp at e
  | _, _, 0, _, .cons r _, e => by simp at e; subst e; exact ⟨_, rfl, r⟩
  | _, _, i + 1, w, .cons _ t, e => by
    obtain ⟨u, h1, h2⟩ := Rws.get (i := i) (w := w) t (by simpa using e)
    exact ⟨u, by simpa using h1, h2⟩
theorem Rws.append : ∀ {ws ws' : List W} {us us' : List V}, Rws B H ι ws us → Rws B H ι ws' us' → Rws B H ι (ws ++ ws') (us ++ us')
  | _, _, _, _, .nil, r => r
  | _, _, _, _, .cons a b, r => .cons a (Rws.append b r)
theorem Rws.take : ∀ {ws : List W} {us : List V} (n : Nat), Rws B H ι ws us → Rws B H ι (ws.take n) (us.take n)
  | _, _, 0, _ => .nil
  | _, _, _ + 1, .nil => .nil
  | _, _, n + 1, .cons a b => .cons a (Rws.take n b)
theorem Rws.drop : ∀ {ws : List W} {us : List V} (n : Nat), Rws B H ι ws us → Rws B H ι (ws.drop n) (us.drop n)
  | _, _, 0, r => r
  | _, _, _ + 1, .nil => .nil
  | _, _, n + 1, .cons a b => Rws.drop n b
theorem Rws.set {w : W} {u : V} (r : Rw B H ι w u) : ∀ {ws : List W} {us : List V} (i : Nat), Rws B H ι ws us → Rws B H ι (ws.set i w) (us.set i u)
  | _, _, _, .nil => .nil
  | _, _, 0, .cons _ t => .cons r t
  | _, _, i + 1, .cons q t => .cons q (Rws.set r i t)
end

/-! ### objects -/
def Obr (B : Bg) (H : Hp) (ι : Own) (a : Addr) : Ob → Prop
  | .lst ws => ∃ vs, H a = some (.lst vs) ∧ Rws B H ι ws vs
  | .dk ks ws => ∃ vs, H a = some (.dK (ks.zip vs)) ∧ ks.length = vs.length ∧ (∀ k ∈ ks, kOk k) ∧ Rws B H ι ws vs
  | .ins _ _ => False
structure Hr (B : Bg) (H : Hp) (ι : Own) (h : Hpa) : Prop where
  len : ι.ix.length = h.length
  nd : (ι.ix ++ ι.rs).Nodup
  at_ : ∀ (n : Nat) (ob : Ob) (a : Addr), h[n]? = some ob → ι.ix[n]? = some a → Obr B H ι a ob
  res : ∀ a ∈ ι.rs, ∃ o, H a = some o
mutual
def W.und (n : Nat) : W → Bool
  | .tup xs => W.unds n xs | .lst xs => W.unds n xs | .lsk xs => W.unds n xs | .dk _ vs => W.unds n vs | .dkw _ vs => W.unds n vs | .st xs => W.unds n xs
  | .ref k => decide (k < n)
  | .non => true | .bl _ => true | .int _ => true | .str _ => true | .rep _ => true | .fn _ => true | .cl _ => true
def W.unds (n : Nat) : List W → Bool
  | [] => true
  | x :: xs => W.und n x && W.unds n xs
end
mutual
theorem W.und_pure (n : Nat) : ∀ w : W, w.pure = true → w.und n = true
  | .non, _ => rfl | .bl _, _ => rfl | .int _, _ => rfl | .str _, _ => rfl | .rep _, _ => rfl | .fn _, _ => rfl | .cl _, _ => rfl
  | .tup xs, h => W.unds_pures n xs h
  | .lst xs, h => W.unds_pures n xs h
  | .lsk xs, h => W.unds_pures n xs h
  | .dk _ xs, h => W.unds_pures n xs h
  | .dkw _ xs, h => W.unds_pures n xs h
  | .st xs, h => W.unds_pures n xs h
  | .ref _, h => by cases h
theorem W.unds_pures (n : Nat) : ∀ ws : List W, W.pures ws = true → W.unds n ws = true
  | [], _ => rfl
  | x :: xs, h => by
    have h' := Bool.and_eq_true_iff.mp (show (W.pure x && W.pures xs) = true from h)
    show (W.und n x && W.unds n xs) = true
    rw [W.und_pure n x h'.1, W.unds_pures n xs h'.2]
    rfl
end
mutual
theorem W.und_le {n m : Nat} (hm : n ≤ m) : ∀ w : W, w.und n = true → w.und m = true
  | .non, _ => rfl | .bl _, _ => rfl | .int _, _ => rfl | .str _, _ => rfl | .rep _, _ => rfl | .fn _, _ => rfl | .cl _, _ => rfl
  | .tup xs, h => W.unds_le hm xs h
  | .lst xs, h => W.unds_le hm xs h
  | .lsk xs, h => W.unds_le hm xs h
  | .dk _ xs, h => W.unds_le hm xs h
  | .dkw _ xs, h => W.unds_le hm xs h
  | .st xs, h => W.unds_le hm xs h
  | .ref k, h => decide_eq_true (Nat.lt_of_lt_of_le (of_decide_eq_true h) hm)
theorem W.unds_le {n m : Nat} (hm : n ≤ m) : ∀ ws : List W, W.unds n ws = true → W.unds m ws = true
  | [], _ => rfl
  | x :: xs, h => by
    have h' := Bool.and_eq_true_iff.mp (show (W.und n x && W.unds n xs) = true from h)
    show (W.und m x && W.unds m xs) = true
    rw [W.und_le hm x h'.1, W.unds_le hm xs h'.2]
    rfl
end
def Ob.und (n : Nat) : Ob → Bool
  | .lst xs => W.unds n xs
  | .dk _ vs => W.unds n vs
  | .ins _ fs => W.unds n (fs.map (·.2))
/-- the levels below which no object holds one from the level on; the topmost one -/
structure Lv where
  top : Nat
  set : Nat → Prop
  le : ∀ m, set m → m ≤ top
instance : Coe Lv Nat := ⟨Lv.top⟩
/-- the objects ahead of each level hold none from it on -/
def Lo (lo : Lv) (h : Hpa) : Prop := lo.top ≤ h.length ∧ ∀ (m : Nat), lo.set m → ∀ (n : Nat) (ob : Ob), n < m → h[n]? = some ob → ob.und m = true
structure Er (B : Bg) (H : Hp) (ι : Own) (v : Env) (σ : L2.St) : Prop where
  len : v.length = σ.length
  at_ : ∀ (i : Nat) (x : W), v[i]? = some (some x) → ∃ u, σ[i]? = some (some u) ∧ Rw B H ι x u
section
variable {B : Bg} {H H' H2 : Hp} {ι ι' ι2 : Own} {h h' : Hpa} {v : Env} {σ : L2.St} {p : Addr}
theorem Obr.there {a : Addr} : ∀ {ob : Ob}, Obr B H ι a ob → ∃ o, H a = some o
  | .lst _, ⟨_, e, _⟩ => ⟨_, e⟩
  | .dk _ _, ⟨_, e, _⟩ => ⟨_, e⟩
  | .ins _ _, e => e.elim
theorem Hr.there (x : Hr B H ι h) {a : Addr} (ha : a ∈ ι) : ∃ o, H a = some o := by
  rcases ha with ha | ha
  · obtain ⟨n, hn⟩ := List.mem_iff_getElem?.mp ha
    have hl := (List.getElem?_eq_some_iff.mp hn).1
    rw [x.len] at hl
    exact (x.at_ n h[n] a (by simp [hl]) hn).there
  · exact x.res a ha
/-- a new address isn't ours -/
theorem Hr.fresh (x : Hr B H ι h) {p : Addr} (hp : H p = none) : p ∉ ι := fun hm => by
  obtain ⟨o, e⟩ := x.there hm
  rw [hp] at e
  cases e
/-- something new beside: nothing of ours changes -/
theorem Xt.new {p : Addr} {o : HO} (hp : H p = none) (x : Hr B H ι h) : Xt H ι (upd H p o) ι := by
  refine ⟨⟨[], by simp, fun _ h => nomatch h⟩, rfl, fun b u e _ => ?_, fun b u e => ?_, fun b hb => ?_⟩
  · rw [upd_ne (ne_of_none e hp)]
    exact e
  · exact ⟨u, by rw [upd_ne (ne_of_none e hp)]; exact e⟩
  · obtain ⟨u, e⟩ := x.res b hb
    rw [upd_ne (ne_of_none e hp)]
theorem Obr.monoK (x : Xk H ι H' ι') {a : Addr} (e : H' a = H a) : ∀ {ob : Ob}, Obr B H ι a ob → Obr B H' ι' a ob
  | .lst _, ⟨vs, h, r⟩ => ⟨vs, by rw [e]; exact h, r.monoK x⟩
  | .dk _ _, ⟨vs, h, l, k, r⟩ => ⟨vs, by rw [e]; exact h, l, k, r.monoK x⟩
  | .ins _ _, h => h.elim
theorem Obr.mono (x : Xt H ι H' ι') {a : Addr} (e : H' a = H a) {ob : Ob} (r : Obr B H ι a ob) : Obr B H' ι' a ob := r.monoK x.k e
theorem Hr.new (x : Hr B H ι h) {p : Addr} {o : HO} (hp : H p = none) : Hr B (upd H p o) ι h := by
  refine ⟨x.len, x.nd, fun n ob a e1 e2 => ?_, fun a ha => ?_⟩
  · have r := x.at_ n ob a e1 e2
    obtain ⟨u, hu⟩ := r.there
    exact r.mono (Xt.new hp x) (upd_ne (ne_of_none hu hp))
  · obtain ⟨u, e⟩ := x.res a ha
    exact ⟨u, by rw [upd_ne (ne_of_none e hp)]; exact e⟩
/-- a new object of ours -/
theorem Xt.own (x : Hr B H ι h) {p : Addr} {o : HO} (hp : H p = none) : Xt H ι (upd H p o) (ι.push p) := by
  refine ⟨⟨[p], rfl, fun a ha => ?_⟩, rfl, (Xt.new hp x).keep, (Xt.new hp x).there, (Xt.new hp x).res⟩
  have e : a = p := by simpa using ha
  rw [e]
  exact hp
theorem nd_push {ι : Own} {p : Addr} (nd : (ι.ix ++ ι.rs).Nodup) (np : p ∉ ι) : ((ι.push p).ix ++ (ι.push p).rs).Nodup := by
  have z : (ι.ix ++ p :: ι.rs).Nodup := by
    rw [List.nodup_append] at nd ⊢
    refine ⟨nd.1, List.nodup_cons.mpr ⟨Own.not_rs np, nd.2.1⟩, fun a ha b hb => ?_⟩
    rcases List.mem_cons.mp hb with q | q
    · rw [q]
      exact fun q => Own.not_ix np (q ▸ ha)
    · exact nd.2.2 a ha b q
  simpa [Own.push] using z
theorem nd_hold {ι : Own} {p : Addr} (nd : (ι.ix ++ ι.rs).Nodup) (np : p ∉ ι) : ((ι.hold p).ix ++ (ι.hold p).rs).Nodup := by
  simpa [Own.push, Own.hold] using nd_push nd np
/-- an object laid at an address that is not told of, as one of ours -/
theorem Hr.own' (x : Hr B H ι h) {p : Addr} {o : HO} {ob : Ob} (np : p ∉ ι) (xk : Xk H ι (upd H p o) (ι.push p)) (hob : Obr B (upd H p o) (ι.push p) p ob) : Hr B (upd H p o) (ι.push p) (h ++ [ob]) := by
  refine ⟨by simp [Own.push, x.len], nd_push x.nd np, fun n ob' a e1 e2 => ?_, fun a ha => ?_⟩
  · have e2 : (ι.ix ++ [p])[n]? = some a := e2
    by_cases hn : n < h.length
    · rw [List.getElem?_append_left hn] at e1
      rw [List.getElem?_append_left (by rw [x.len]; exact hn)] at e2
      have r := x.at_ n ob' a e1 e2
      have ne : a ≠ p := fun q => np (q ▸ Own.mem_ix e2)
      exact r.monoK xk (upd_ne ne)
    · have hn' : h.length ≤ n := Nat.le_of_not_lt hn
      rw [List.getElem?_append_right hn'] at e1
      rw [List.getElem?_append_right (by rw [x.len]; exact hn')] at e2
      cases k : n - h.length with
      | zero =>
        rw [k] at e1
        have k2 : n - ι.ix.length = 0 := by rw [x.len]; exact k
        rw [k2] at e2
        cases e1
        cases e2
        exact hob
      | succ m =>
        rw [k] at e1
        simp at e1
  · obtain ⟨u, e⟩ := x.res a ha
    have ne : a ≠ p := fun q => np (q ▸ .inr ha)
    exact ⟨u, by rw [upd_ne ne]; exact e⟩
theorem Hr.own (x : Hr B H ι h) {p : Addr} {o : HO} {ob : Ob} (hp : H p = none) (hob : Obr B (upd H p o) (ι.push p) p ob) : Hr B (upd H p o) (ι.push p) (h ++ [ob]) :=
  x.own' (x.fresh hp) (Xt.own x hp).k hob
/-- an object of ours is changed -/
theorem Xt.put (x : Hr B H ι h) {n : Nat} {a : Addr} {o : HO} (e : ι.ix[n]? = some a) : Xt H ι (upd H a o) ι := by
  refine ⟨⟨[], by simp, fun _ h => nomatch h⟩, rfl, fun b u hb nb => ?_, fun b u hb => ?_, fun b hb => ?_⟩
  · have z : b ≠ a := fun q => by
      rw [q] at nb
      exact nb (Own.mem_ix e)
    rw [upd_ne z]
    exact hb
  · by_cases q : b = a
    · subst q
      exact ⟨o, upd_same⟩
    · exact ⟨u, by rw [upd_ne q]; exact hb⟩
  · have z : b ≠ a := fun q => (List.nodup_append.mp x.nd).2.2 a (List.mem_of_getElem? e) b hb q.symm
    rw [upd_ne z]
theorem Hr.put (x : Hr B H ι h) {n : Nat} {a : Addr} {o : HO} {ob : Ob} (e : ι.ix[n]? = some a) (hob : Obr B (upd H a o) ι a ob) : Hr B (upd H a o) ι (h.set n ob) := by
  refine ⟨by simp [x.len], x.nd, fun m ob' b e1 e2 => ?_, fun b hb => ?_⟩
  · by_cases hm : m = n
    · subst hm
      rw [e] at e2
      cases e2
      have hl := (List.getElem?_eq_some_iff.mp e).1
      rw [x.len] at hl
      rw [List.getElem?_set_self hl] at e1
      cases e1
      exact hob
    · rw [List.getElem?_set_ne (Ne.symm hm)] at e1
      have r := x.at_ m ob' b e1 e2
      have nb : b ≠ a := fun q => hm (L2.nd_ix (List.nodup_append.mp x.nd).1 (q ▸ e2) e)
      exact r.mono (Xt.put x e) (upd_ne nb)
  · rw [(Xt.put x e).res b hb]
    exact x.res b hb
/-! .. one in the making -/
theorem Xk.hold {p : Addr} {o : HO} (hp : H p = none) : Xk H ι (upd H p o) (ι.hold p) :=
  ⟨fun _ _ e => e, fun b u e n => ⟨by rw [upd_ne (ne_of_none e hp)]; exact e, Own.not_hold n (ne_of_none e hp)⟩⟩
theorem Hr.hold (x : Hr B H ι h) {p : Addr} {o : HO} (hp : H p = none) : Hr B (upd H p o) (ι.hold p) h := by
  refine ⟨x.len, nd_hold x.nd (x.fresh hp), fun n ob a e1 e2 => ?_, fun a ha => ?_⟩
  · have r := x.at_ n ob a e1 e2
    obtain ⟨u, hu⟩ := r.there
    exact r.monoK (Xk.hold hp) (upd_ne (ne_of_none hu hp))
  · rcases List.mem_cons.mp ha with q | q
    · rw [q]
      exact ⟨o, upd_same⟩
    · obtain ⟨u, e⟩ := x.res a q
      exact ⟨u, by rw [upd_ne (ne_of_none e hp)]; exact e⟩
/-- it changes: no value tells of it -/
theorem Xk.fill {p : Addr} {o : HO} : Xk H (ι.hold p) (upd H p o) (ι.hold p) :=
  ⟨fun _ _ e => e, fun b u e n => ⟨by rw [upd_ne (Own.hold_not n).2]; exact e, n⟩⟩
theorem Hr.fill (x : Hr B H (ι.hold p) h) {o : HO} : Hr B (upd H p o) (ι.hold p) h := by
  refine ⟨x.len, x.nd, fun n ob a e1 e2 => ?_, fun a ha => ?_⟩
  · have r := x.at_ n ob a e1 e2
    have ne : a ≠ p := fun q => (List.nodup_append.mp x.nd).2.2 a (List.mem_of_getElem? e2) p List.mem_cons_self q
    exact r.monoK Xk.fill (upd_ne ne)
  · by_cases q : a = p
    · exact ⟨o, by rw [q]; exact upd_same⟩
    · obtain ⟨u, e⟩ := x.res a ha
      exact ⟨u, by rw [upd_ne q]; exact e⟩
theorem Hr.held (x : Hr B H (ι.hold p) h) : p ∉ ι := by
  have nd := List.nodup_append.mp x.nd
  exact Own.not (fun z => nd.2.2 p z p List.mem_cons_self rfl) (List.nodup_cons.mp nd.2.1).1
/-- done: let go of -/
theorem Xk.free {p : Addr} : Xk H (ι.hold p) H ι := ⟨fun _ _ e => e, fun b u e n => ⟨e, (Own.hold_not n).1⟩⟩
theorem Hr.free (x : Hr B H (ι.hold p) h) : Hr B H ι h :=
  ⟨x.len, (List.nodup_append.mpr ⟨(List.nodup_append.mp x.nd).1, (List.nodup_cons.mp (List.nodup_append.mp x.nd).2.1).2, fun a ha b hb => (List.nodup_append.mp x.nd).2.2 a ha b (List.mem_cons_of_mem _ hb)⟩),
    fun n ob a e1 e2 => (x.at_ n ob a e1 e2).monoK Xk.free rfl, fun a ha => x.res a (List.mem_cons_of_mem _ ha)⟩
/-- done: one of ours -/
theorem Xk.take {p : Addr} : Xk H (ι.hold p) H (ι.push p) :=
  ⟨fun n a e => by
    show (ι.ix ++ [p])[n]? = some a
    have e : ι.ix[n]? = some a := e
    rw [List.getElem?_append_left (List.getElem?_eq_some_iff.mp e).1]
    exact e, fun b u e n => ⟨e, Own.not_push (Own.hold_not n).1 (Own.hold_not n).2⟩⟩
theorem Hr.take (x : Hr B H (ι.hold p) h) {ob : Ob} (hob : Obr B H (ι.push p) p ob) : Hr B H (ι.push p) (h ++ [ob]) := by
  have np := x.held
  have y := x.free
  refine ⟨by simp [Own.push, y.len], nd_push y.nd np, fun n ob' a e1 e2 => ?_, fun a ha => y.res a ha⟩
  have e2 : (ι.ix ++ [p])[n]? = some a := e2
  by_cases hn : n < h.length
  · rw [List.getElem?_append_left hn] at e1
    rw [List.getElem?_append_left (by rw [y.len]; exact hn)] at e2
    exact (x.at_ n ob' a e1 e2).monoK Xk.take rfl
  · have hn' : h.length ≤ n := Nat.le_of_not_lt hn
    rw [List.getElem?_append_right hn'] at e1
    rw [List.getElem?_append_right (by rw [y.len]; exact hn')] at e2
    cases k : n - h.length with
    | zero =>
      rw [k] at e1
      have k2 : n - ι.ix.length = 0 := by rw [y.len]; exact k
      rw [k2] at e2
      cases e1
      cases e2
      exact hob
    | succ m =>
      rw [k] at e1
      simp at e1
/-- .. as seen from ahead of it -/
theorem Xt.under {H1 : Hp} {ι1 ι4 : Own} {H4 : Hp} {p : Addr} (x : Xt H1 ι1 H ι) (hp : H1 p = none) (y : Xt H (ι.hold p) H4 ι4) : ∃ ι', ι4 = ι'.hold p ∧ Xt H1 ι1 H4 ι' := by
  obtain ⟨m2, e2, h2⟩ := y.ex
  obtain ⟨m1, e1, h1⟩ := x.ex
  refine ⟨⟨ι4.ix, ι.rs⟩, ?_, ⟨⟨m1 ++ m2, ?_, fun a ha => ?_⟩, x.rs, fun b o e n => y.keep b o (x.keep b o e n) (Own.not_hold (x.notin e n) (ne_of_none e hp)), fun b o e => let ⟨o', e'⟩ := x.there b o e; y.there b o' e', fun b hb => (y.res b (List.mem_cons_of_mem _ (by rw [x.rs]; exact hb))).trans (x.res b hb)⟩⟩
  · have z : ι4.rs = p :: ι.rs := y.rs
    cases ι4
    cases z
    rfl
  · show ι4.ix = ι1.ix ++ (m1 ++ m2)
    rw [e2, ← List.append_assoc, ← e1]
    rfl
  · rcases List.mem_append.mp ha with ha | ha
    · exact h1 a ha
    · cases q : H1 a with
      | none => rfl
      | some o =>
        obtain ⟨o', z⟩ := x.there a o q
        rw [h2 a ha] at z
        cases z
theorem Xt.filled {H1 : Hp} {ι1 : Own} {p : Addr} {o : HO} (x : Xt H1 ι1 H ι) (y : Hr B H1 ι1 h) (hp : H1 p = none) : Xt H1 ι1 (upd H p o) ι := by
  refine ⟨x.ex, x.rs, fun b u e n => ?_, fun b u e => ?_, fun b hb => ?_⟩
  · rw [upd_ne (ne_of_none e hp)]
    exact x.keep b u e n
  · rw [upd_ne (ne_of_none e hp)]
    exact x.there b u e
  · obtain ⟨u, e⟩ := y.res b hb
    rw [upd_ne (ne_of_none e hp)]
    exact x.res b hb
/-- .. taken as one of ours -/
theorem Xt.taken {H1 : Hp} {ι1 : Own} {p : Addr} (x : Xt H1 ι1 H ι) (hp : H1 p = none) : Xt H1 ι1 H (ι.push p) := by
  obtain ⟨m, e, h⟩ := x.ex
  refine ⟨⟨m ++ [p], ?_, fun a ha => ?_⟩, x.rs, x.keep, x.there, x.res⟩
  · show ι.ix ++ [p] = _
    rw [e, List.append_assoc]
  · rcases List.mem_append.mp ha with ha | ha
    · exact h a ha
    · have q : a = p := by simpa using ha
      rw [q]
      exact hp
theorem Xk.held {H1 : Hp} {ι1 : Own} {p : Addr} (x : Xt H1 ι1 H ι) (hp : H1 p = none) : Xk H1 ι1 H (ι.hold p) :=
  ⟨fun _ _ e => x.at e, fun b o e n => ⟨x.keep b o e n, Own.not_hold (x.notin e n) (ne_of_none e hp)⟩⟩
theorem Er.monoK (x : Xk H ι H' ι') (r : Er B H ι v σ) : Er B H' ι' v σ := ⟨r.len, fun i w e => let ⟨u, e1, e2⟩ := r.at_ i w e; ⟨u, e1, e2.monoK x⟩⟩
theorem Er.mono (x : Xt H ι H' ι') (r : Er B H ι v σ) : Er B H' ι' v σ := r.monoK x.k
theorem Er.set (r : Er B H ι v σ) {i : Nat} {w : W} {u : V} (q : Rw B H ι w u) : Er B H ι (v.set i (some w)) (σ.set i (some u)) := by
  refine ⟨by simp [r.len], fun j x e => ?_⟩
  by_cases hj : j = i
  · subst hj
    have hl : j < v.length := by
      have := (List.getElem?_eq_some_iff.mp e).1
      simpa using this
    rw [List.getElem?_set_self hl] at e
    cases e
    exact ⟨u, List.getElem?_set_self (by rw [← r.len]; exact hl), q⟩
  · rw [List.getElem?_set_ne (Ne.symm hj)] at e ⊢
    exact r.at_ j x e
theorem Er.wipe (r : Er B H ι v σ) : ∀ is : List Nat, Er B H ι (wipeE v is) (L2.wipe σ is)
  | [] => r
  | i :: is => by
    have q := Er.wipe r is
    show Er B H ι ((wipeE v is).set i none) ((L2.wipe σ is).set i none)
    refine ⟨by simp [q.len], fun j x e => ?_⟩
    by_cases hj : j = i
    · subst hj
      have hl : j < (wipeE v is).length := by
        have := (List.getElem?_eq_some_iff.mp e).1
        simpa using this
      rw [List.getElem?_set_self hl] at e
      cases e
    · rw [List.getElem?_set_ne (Ne.symm hj)] at e ⊢
      exact q.at_ j x e
theorem Lo.new {lo : Lv} {ob : Ob} (l : Lo lo h) : Lo lo (h ++ [ob]) := by
  refine ⟨by rw [List.length_append]; exact Nat.le_trans l.1 (Nat.le_add_right _ _), fun m hm n o hn e => ?_⟩
  rw [List.getElem?_append_left (Nat.lt_of_lt_of_le hn (Nat.le_trans (lo.le m hm) l.1))] at e
  exact l.2 m hm n o hn e
theorem Lo.put {lo : Lv} {n : Nat} {ob : Ob} (l : Lo lo h) (hb : lo.top ≤ n ∨ ∀ m, lo.set m → n < m → ob.und m = true) : Lo lo (h.set n ob) := by
  refine ⟨by simpa using l.1, fun k hk m o hm e => ?_⟩
  by_cases q : m = n
  · subst q
    have hl : m < h.length := Nat.lt_of_lt_of_le hm (Nat.le_trans (lo.le k hk) l.1)
    rw [List.getElem?_set_self hl] at e
    cases e
    rcases hb with z | z
    · have := lo.le k hk
      omega
    · exact z k hk hm
  · rw [List.getElem?_set_ne (Ne.symm q)] at e
    exact l.2 k hk m o hm e
end

/-! ### what is wanted of a result -/
/-- what is wanted at a raise -/
abbrev XP := Exn → Hp → Own → Hpa → Prop
def post {α β : Type} (B : Bg) (lo : Lv) (rel : Hp → Own → α → β → Prop) (E : XP) (H : Hp) (ι : Own) (r : R α) (Q : β → Hp → Prop) : Prop := match r with
  | .ok x h' => ∀ H' ι' u, Xt H ι H' ι' → Hr B H' ι' h' → Lo lo h' → rel H' ι' x u → Q u H'
  | .ex x h' => ∀ H' ι', Xt H ι H' ι' → Hr B H' ι' h' → Lo lo h' → E x H' ι' h'
  | .bad => False
abbrev rW (B : Bg) : Hp → Own → W → V → Prop := fun H ι => Rw B H ι
abbrev rWs (B : Bg) : Hp → Own → List W → List V → Prop := fun H ι => Rws B H ι
section
variable {α β γ δ : Type} {B : Bg} {lo : Lv} {rel : Hp → Own → α → β → Prop} {rel' : Hp → Own → γ → δ → Prop} {E : XP} {H H' : Hp} {ι ι' : Own} {r : R α} {h : Hpa}
theorem post.mono {Q Q' : β → Hp → Prop} (p : post B lo rel E H ι r Q) (k : ∀ u H', Q u H' → Q' u H') : post B lo rel E H ι r Q' := by
  cases r with
  | ok x h' => exact fun H' ι' u a b c d => k u H' (p H' ι' u a b c d)
  | ex x h' => exact p
  | bad => exact p
theorem post.from {Q : β → Hp → Prop} (xt : Xt H ι H' ι') (p : post B lo rel E H ι r Q) : post B lo rel E H' ι' r Q := by
  cases r with
  | ok x h' => exact fun H2 ι2 u a b c d => p H2 ι2 u (xt.trans a) b c d
  | ex x h' => exact fun H2 ι2 a b c => p H2 ι2 (xt.trans a) b c
  | bad => exact p
theorem post.bind {f : α → Hpa → R γ} {Q : δ → Hp → Prop} (p : post B lo rel' E H ι (r.bind f) Q) :
    post B lo rel E H ι r (fun u H1 => ∃ x ι1 h1, Xt H ι H1 ι1 ∧ Hr B H1 ι1 h1 ∧ Lo lo h1 ∧ rel H1 ι1 x u ∧ post B lo rel' E H1 ι1 (f x h1) Q) := by
  cases r with
  | ok x h' => exact fun H1 ι1 u a b c d => ⟨x, ι1, h', a, b, c, d, p.from a⟩
  | ex x h' => exact p
  | bad => exact p
theorem post.ok {x : α} {u : β} {Q : β → Hp → Prop} (p : post B lo rel E H ι (.ok x h) Q) (hr : Hr B H ι h) (l : Lo lo h) (d : rel H ι x u) : Q u H := p H ι u .refl hr l d
end
end Mi

/-! Mi3: the operations on values are those of the machine. -/
namespace Mi
open PySem PySem.Spec PyProof.Rows L2

abbrev bgX (X : Cx) : Bg := ⟨X.K, X.w, X.prog⟩
section
variable {B : Bg} {H : Hp} {ι : Own} {h : Hpa} {lo : Lv} {E : XP}
theorem lim_eq : sizeLine = LIM := sizeLine_eq
theorem Obr.lstOf {a : Addr} {ws : List W} (r : Obr B H ι a (.lst ws)) : ∃ vs, H a = some (.lst vs) ∧ Rws B H ι ws vs := r
theorem Hr.get (hr : Hr B H ι h) {n : Nat} {ob : Ob} (e : h[n]? = some ob) : ∃ a, ι.ix[n]? = some a ∧ Obr B H ι a ob := by
  have hl := (List.getElem?_eq_some_iff.mp e).1
  rw [← hr.len] at hl
  exact ⟨ι.ix[n], by simp [hl], hr.at_ n ob _ e (by simp [hl])⟩
theorem Rw.refAt {n : Nat} {u : V} (r : Rw B H ι (.ref n) u) : ∃ a, ι.ix[n]? = some a ∧ u = .ref a := by
  cases r with
  | ref e => exact ⟨_, e, rfl⟩
theorem asLc_ok (hr : Hr B H ι h) {w : W} {u : V} {xs : List W} (r : Rw B H ι w u) (e : asLc h w = some xs) : ∃ a vs, u = .ref a ∧ H a = some (.lst vs) ∧ Rws B H ι xs vs := by
  cases r with
  | lst f r =>
    cases e
    exact ⟨_, _, rfl, f.1, r⟩
  | @ref n a q =>
    unfold asLc at e
    cases z : h[n]? with
    | none => simp [z] at e
    | some ob =>
      obtain ⟨b, hb, o⟩ := hr.get z
      rw [q] at hb
      cases hb
      cases ob with
      | lst ws =>
        simp [z] at e
        subst e
        obtain ⟨vs, h1, h2⟩ := o
        exact ⟨_, _, rfl, h1, h2⟩
      | dk _ _ => simp [z] at e
      | ins _ _ => simp [z] at e
  | _ => cases e
theorem asL_ok (hr : Hr B H ι h) {w : W} {u : V} {xs : List W} (r : Rw B H ι w u) (e : asL h w = some xs) : ∃ a vs, u = .ref a ∧ SqL B.K H a vs ∧ Rws B H ι xs vs := by
  by_cases k : ∃ ys, w = .lsk ys
  · obtain ⟨ys, rfl⟩ := k
    cases r with
    | lsk f r =>
      cases e
      refine ⟨_, _, rfl, ?_, r⟩
      rcases f with ⟨o, f, _⟩ | f
      · exact .inl (.inr ⟨o, f⟩)
      · exact .inr f
  · have e2 : asLc h w = some xs := by
      cases w with
      | lsk ys => exact absurd ⟨ys, rfl⟩ k
      | _ => exact e
    obtain ⟨a, vs, h1, h2, h3⟩ := asLc_ok hr r e2
    exact ⟨a, vs, h1, SqL.of h2, h3⟩
theorem FzT.sq {a : Addr} {vs : List V} (f : FzT B H ι a vs) : SqT B.K H a vs := by
  rcases f with ⟨f, _⟩ | f
  · exact .inl f
  · exact .inr f
theorem asQ_ok (hr : Hr B H ι h) {w : W} {u : V} {xs : List W} (r : Rw B H ι w u) (e : asQ h w = some xs) : ∃ a vs, u = .ref a ∧ (SqL B.K H a vs ∨ SqT B.K H a vs) ∧ Rws B H ι xs vs := by
  cases w with
  | tup ws =>
    cases e
    cases r with
    | tup f r => exact ⟨_, _, rfl, .inr f.sq, r⟩
  | _ =>
    obtain ⟨a, vs, h1, h2, h3⟩ := asL_ok hr r (show asL h _ = some xs from e)
    exact ⟨a, vs, h1, .inl h2, h3⟩
theorem mkL_le {β : Type} {m : Bool} {ws : List W} {rel : Hp → Own → W → β → Prop} {Q : β → Hp → Prop} (p : post B lo rel E H ι (mkL m ws h) Q) : ws.length ≤ LIM := by
  unfold mkL at p
  split at p
  · assumption
  · exact p.elim
theorem mkL_at {m : Bool} {ws : List W} {vs : List V} {Q : VK} (p : post B lo (rW B) E H ι (mkL m ws h) Q) (hr : Hr B H ι h) (l : Lo lo h) (r : Rws B H ι ws vs) {q : Addr} (hq : H q = none) : Q (.ref q) (upd H q (.lst vs)) := by
  have hl := mkL_le p
  unfold mkL at p
  rw [if_pos hl] at p
  cases m with
  | false =>
    exact p _ ι _ (Xt.new hq hr) (hr.new hq) l (.lst ⟨upd_same, hr.fresh hq⟩ (r.mono (Xt.new hq hr)))
  | true =>
    refine p _ (ι.push q) _ (Xt.own hr hq) (hr.own hq ⟨vs, upd_same, r.mono (Xt.own hr hq)⟩) l.new (.ref ?_)
    rw [← hr.len]
    simp [Own.push]
theorem mkT_le {β : Type} {ws : List W} {rel : Hp → Own → W → β → Prop} {Q : β → Hp → Prop} (p : post B lo rel E H ι (mkT ws h) Q) : ws.length ≤ LIM := by
  unfold mkT at p
  split at p
  · assumption
  · exact p.elim
theorem mkT_at {ws : List W} {vs : List V} {Q : VK} (p : post B lo (rW B) E H ι (mkT ws h) Q) (hr : Hr B H ι h) (l : Lo lo h) (r : Rws B H ι ws vs) {q : Addr} (hq : H q = none) : Q (.ref q) (upd H q (.tup vs)) := by
  have hl := mkT_le p
  unfold mkT at p
  rw [if_pos hl] at p
  exact p _ ι _ (Xt.new hq hr) (hr.new hq) l (.tup (.inl ⟨.inl upd_same, hr.fresh hq⟩) (r.mono (Xt.new hq hr)))
/-- a tuple that stands already -/
theorem mkT_is {ws : List W} {u : V} {Q : VK} (p : post B lo (rW B) E H ι (mkT ws h) Q) (hr : Hr B H ι h) (l : Lo lo h) (r : Rw B H ι (.tup ws) u) : Q u H := by
  have hl := mkT_le p
  unfold mkT at p
  rw [if_pos hl] at p
  exact p.ok hr l r
/-! ### texts -/
theorem sOk.append {a b : Str} (ha : sOk a) (hb : sOk b) : sOk (a ++ b) := fun c hc => by
  have e : (a ++ b).cps.toList = a.cps.toList ++ b.cps.toList := by
    show (a.cps ++ b.cps).toList = _
    simp
  rw [e] at hc
  rcases List.mem_append.mp hc with q | q
  · exact ha c q
  · exact hb c q
theorem sOk.cut {a : Str} (ha : sOk a) (lo hi : Option Int) : sOk (cutS a lo hi) := fun c hc => by
  have e : (cutS a lo hi).cps.toList = (a.cps.toList.drop (HT.sIx a.length 0 lo)).take (HT.sIx a.length a.length hi - HT.sIx a.length 0 lo) := by
    simp [cutS]
  rw [e] at hc
  exact ha c (List.mem_of_mem_drop (List.mem_of_mem_take hc))
theorem sOk.one {a : Str} (ha : sOk a) {c : Nat} (hc : c ∈ a.cps.toList) : sOk ⟨#[c]⟩ := fun d hd => by
  have e : d = c := by simpa using hd
  rw [e]
  exact ha c hc
/-! ### data -/
theorem mapM_dp {f : W → Option PyData} {K : PySem.W.Frag} {n : Nat} (hf : ∀ w u d, f w = some d → Rw B H ι w u → Dp K H u d ∧ d.canLay0 = true ∧ d.depth ≤ n) :
    ∀ {xs : List W} {us : List V} {ds : List PyData}, xs.mapM f = some ds → Rws B H ι xs us → DpAll K H us ds ∧ PyData.canLayAll0 ds = true ∧ PyData.depthAll ds ≤ n
  | [], _, ds, e, .nil => by
    have : ds = [] := by simpa using e.symm
    subst this
    exact ⟨.nil, by simp [PyData.canLayAll0], by simp [PyData.depthAll]⟩
  | x :: xs, _, ds, e, .cons (u := u) (us := us) r rs => by
    rw [List.mapM_cons] at e
    cases q : f x with
    | none => rw [q] at e; cases e
    | some d =>
      rw [q] at e
      cases q2 : xs.mapM f with
      | none => rw [q2] at e; cases e
      | some ds' =>
        rw [q2] at e
        have e2 : ds = d :: ds' := (Option.some.inj e).symm
        subst e2
        obtain ⟨a1, a2, a3⟩ := hf x u d q r
        obtain ⟨b1, b2, b3⟩ := mapM_dp hf q2 rs
        refine ⟨.cons a1 b1, by simp [PyData.canLayAll0, a2, b2], ?_⟩
        simp only [PyData.depthAll]
        omega
theorem toD_ok (hr : Hr B H ι h) : ∀ (n : Nat) (w : W) (u : V) (d : PyData), toD h n w = some d → Rw B H ι w u → Dp B.K H u d ∧ d.canLay0 = true ∧ d.depth ≤ n
  | 0, _, _, _, e, _ => by cases e
  | n + 1, w, u, d, e, r => by
    have ih := toD_ok hr n
    have lists : ∀ (xs : List W) (a : Addr) (vs : List V), (xs.mapM (toD h n)).map PyData.list = some d → SqL B.K H a vs → Rws B H ι xs vs → Dp B.K H (.ref a) d ∧ d.canLay0 = true ∧ d.depth ≤ n + 1 := fun xs a vs e hs rs => by
      cases q : xs.mapM (toD h n) with
      | none => rw [q] at e; cases e
      | some ds =>
        rw [q] at e
        cases e
        obtain ⟨b1, b2, b3⟩ := mapM_dp ih q rs
        exact ⟨.lst hs b1, by simp [PyData.canLay0, b2], by simp only [PyData.depth]; omega⟩
    cases r with
    | non => cases e; exact ⟨.non, by simp [PyData.canLay0], by simp [PyData.depth]⟩
    | bl b => cases e; exact ⟨.bl b, by simp [PyData.canLay0], by simp [PyData.depth]⟩
    | int i => cases e; exact ⟨.int i, by simp [PyData.canLay0], by simp [PyData.depth]⟩
    | str x hx =>
      cases e
      refine ⟨.str x, ?_, by simp [PyData.depth]⟩
      simp only [PyData.canLay0]
      unfold PyData.strOk
      rw [Array.all_eq_true]
      intro i hi
      exact decide_eq_true (hx _ (by simp))
    | tup f r =>
      rename_i ws vs a
      have e : (ws.mapM (toD h n)).map PyData.tuple = some d := e
      cases q : ws.mapM (toD h n) with
      | none => rw [q] at e; cases e
      | some ds =>
        rw [q] at e
        cases e
        obtain ⟨b1, b2, b3⟩ := mapM_dp ih q r
        exact ⟨.tup f.sq b1, by simp [PyData.canLay0, b2], by simp only [PyData.depth]; omega⟩
    | lst f r => exact lists _ _ _ e (SqL.of f.1) r
    | lsk f r =>
      refine lists _ _ _ e ?_ r
      rcases f with ⟨o, f, _⟩ | f
      · exact .inl (.inr ⟨o, f⟩)
      · exact .inr f
    | @ref k a q =>
      cases z : h[k]? with
      | none => simp [toD, z] at e
      | some ob =>
        obtain ⟨b, hb, o⟩ := hr.get z
        rw [q] at hb
        cases hb
        cases ob with
        | lst ws =>
          obtain ⟨vs, h1, h2⟩ := o
          refine lists ws a vs ?_ (SqL.of h1) h2
          simpa [toD, z] using e
        | dk _ _ => simp [toD, z] at e
        | ins _ _ => simp [toD, z] at e
    | _ => cases e
theorem toD_shaped (hr : Hr B H ι h) {w : W} {u : V} {d : PyData} (e : toD h DEP w = some d) (r : Rw B H ι w u) : Dp B.K H u d ∧ SeqAt.shaped d = true := by
  obtain ⟨a, b, c⟩ := toD_ok hr DEP w u d e r
  exact ⟨a, by unfold SeqAt.shaped; rw [b, decide_eq_true (Nat.le_trans c (by decide))] <;> rfl⟩
end

/-! ### the operators -/
section
variable {X : Cx} {lo : Lv} {E : XP}
def rOp (X : Cx) (lo : Lv) (E : XP) (o : O2) : R2 := fun u1 u2 H Q => ∃ ι h x y, Hr (bgX X) H ι h ∧ Lo lo h ∧ Rw (bgX X) H ι x u1 ∧ Rw (bgX X) H ι y u2 ∧ post (bgX X) lo (rW (bgX X)) E H ι (opW h o x y) Q
def o2 : O2 → Operator
  | .add => .Add | .sub => .Sub | .mul => .Mult | .fdiv => .FloorDiv | .mod => .Mod | .pow => .Pow
theorem op_add_ok : OpR X (binaryOp .Add) (rOp X lo E .add) := by
  intro pins s σ H u1 u2 v1 v2 Q I r1 r2 ⟨ι, h, x, y, hr, l, rx, ry, p⟩
  have lists : ∀ xs ys, asLc h x = some xs → asLc h y = some ys → post (bgX X) lo (rW (bgX X)) E H ι (mkL false (xs ++ ys) h) Q → wpAny (model X.prog X.w) X.A (binaryOp .Add v1 v2) (EP X pins σ Q) X.xe s := fun xs ys e1 e2 p => by
    obtain ⟨a, vs, rfl, h1, q1⟩ := asLc_ok hr rx e1
    obtain ⟨b, us, rfl, h2, q2⟩ := asLc_ok hr ry e2
    have hl := mkL_le p
    rw [List.length_append, q1.length, q2.length] at hl
    exact op_cat pins s σ H _ _ v1 v2 Q I r1 r2 ⟨a, b, vs, us, rfl, rfl, h1, h2, by rw [lim_eq]; exact hl, fun q hq => mkL_at p hr l (q1.append q2) hq⟩
  have other : (∀ xs ys, asLc h x = some xs → asLc h y = some ys → opW h .add x y = mkL false (xs ++ ys) h) → (asLc h x = none ∨ asLc h y = none → opW h .add x y = .bad) → wpAny (model X.prog X.w) X.A (binaryOp .Add v1 v2) (EP X pins σ Q) X.xe s := fun k1 k2 => by
    cases e1 : asLc h x with
    | none => rw [k2 (.inl e1)] at p; exact p.elim
    | some xs =>
      cases e2 : asLc h y with
      | none => rw [k2 (.inr e2)] at p; exact p.elim
      | some ys =>
        rw [k1 xs ys e1 e2] at p
        exact lists xs ys e1 e2 p
  have gen : (opW h .add x y = match asLc h x, asLc h y with | some a, some b => mkL false (a ++ b) h | _, _ => .bad) → wpAny (model X.prog X.w) X.A (binaryOp .Add v1 v2) (EP X pins σ Q) X.xe s := fun e => by
    refine other (fun xs ys e1 e2 => by rw [e, e1, e2]) fun k => ?_
    rw [e]
    rcases k with k | k
    · rw [k]
    · rw [k]
      cases asLc h x <;> rfl
  cases rx with
  | int i =>
    cases ry with
    | int j => exact op_add pins s σ H _ _ v1 v2 Q I r1 r2 ⟨i, j, rfl, rfl, p.ok hr l (.int _)⟩
    | _ => exact gen rfl
  | str i hi =>
    cases ry with
    | str j hj =>
      have p : post (bgX X) lo (rW (bgX X)) E H ι (if i.length + j.length ≤ LIM then .ok (.str (i ++ j)) h else .bad) Q := p
      by_cases hc : i.length + j.length ≤ LIM
      · rw [if_pos hc] at p
        exact op_add_str pins s σ H _ _ v1 v2 Q I r1 r2 ⟨i, j, rfl, rfl, by rw [lim_eq]; exact hc, p.ok hr l (.str _ (hi.append hj))⟩
      · rw [if_neg hc] at p
        exact p.elim
    | _ => exact gen rfl
  | @tup ws vs a f r =>
    cases ry with
    | @tup ws' vs' a' f' r' =>
      have p : post (bgX X) lo (rW (bgX X)) E H ι (mkT (ws ++ ws') h) Q := p
      have hl := mkT_le p
      rw [List.length_append, r.length, r'.length] at hl
      refine op_catA pins s σ H _ _ v1 v2 Q I r1 r2 ⟨a, a', vs, vs', rfl, rfl, f.sq, f'.sq, by rw [lim_eq]; exact hl, fun e => ?_, fun e1 e2 => ?_, fun _ _ q hq => mkT_at p hr l (r.append r') hq⟩
      · subst e
        cases r
        exact mkT_is p hr l (.tup f' r')
      · subst e2
        cases r'
        rw [List.append_nil] at p
        exact mkT_is p hr l (.tup f r)
    | _ => exact gen rfl
  | _ => exact gen rfl
theorem op_sub_ok : OpR X (binaryOp .Sub) (rOp X lo E .sub) := by
  intro pins s σ H u1 u2 v1 v2 Q I r1 r2 ⟨ι, h, x, y, hr, l, rx, ry, p⟩
  cases rx with
  | int i =>
    cases ry with
    | int j => exact op_sub pins s σ H _ _ v1 v2 Q I r1 r2 ⟨i, j, rfl, rfl, p.ok hr l (.int _)⟩
    | _ => exact p.elim
  | _ => exact p.elim
theorem op_fdiv_ok : OpR X (binaryOp .FloorDiv) (rOp X lo E .fdiv) := by
  intro pins s σ H u1 u2 v1 v2 Q I r1 r2 ⟨ι, h, x, y, hr, l, rx, ry, p⟩
  cases rx with
  | int i =>
    cases ry with
    | int j =>
      have p : post (bgX X) lo (rW (bgX X)) E H ι (if j ≠ 0 ∧ j.natAbs < 1073741824 then .ok (.int (i.fdiv j)) h else .bad) Q := p
      by_cases hc : j ≠ 0 ∧ j.natAbs < 1073741824
      · rw [if_pos hc] at p
        exact op_fdivN pins s σ H _ _ v1 v2 Q I r1 r2 ⟨i, j, rfl, rfl, hc, p.ok hr l (.int _)⟩
      · rw [if_neg hc] at p
        exact p.elim
    | _ => exact p.elim
  | _ => exact p.elim
theorem op_mod_ok : OpR X (binaryOp .Mod) (rOp X lo E .mod) := by
  intro pins s σ H u1 u2 v1 v2 Q I r1 r2 ⟨ι, h, x, y, hr, l, rx, ry, p⟩
  cases rx with
  | int i =>
    cases ry with
    | int j =>
      have p : post (bgX X) lo (rW (bgX X)) E H ι (if j ≠ 0 then .ok (.int (i.fmod j)) h else .bad) Q := p
      by_cases hc : j ≠ 0
      · rw [if_pos hc] at p
        exact op_modN pins s σ H _ _ v1 v2 Q I r1 r2 ⟨i, j, rfl, rfl, hc, p.ok hr l (.int _)⟩
      · rw [if_neg hc] at p
        exact p.elim
    | _ => exact p.elim
  | _ => exact p.elim
theorem op_pow_ok : OpR X (binaryOp .Pow) (rOp X lo E .pow) := by
  intro pins s σ H u1 u2 v1 v2 Q I r1 r2 ⟨ι, h, x, y, hr, l, rx, ry, p⟩
  cases rx with
  | int i =>
    cases ry with
    | int j =>
      have p : post (bgX X) lo (rW (bgX X)) E H ι (if 0 ≤ j ∧ j ≤ 1000000 ∧ i.natAbs < 2 ^ 64 then .ok (.int (i ^ j.toNat)) h else .bad) Q := p
      by_cases hc : 0 ≤ j ∧ j ≤ 1000000 ∧ i.natAbs < 2 ^ 64
      · rw [if_pos hc] at p
        exact op_pow pins s σ H _ _ v1 v2 Q I r1 r2 ⟨i, j, rfl, rfl, hc, p.ok hr l (.int _)⟩
      · rw [if_neg hc] at p
        exact p.elim
    | _ => exact p.elim
  | _ => exact p.elim

theorem mulOk_small {x : Str} {n : Int} (h0 : 0 ≤ n) (h1 : n ≤ 1000) (hx : x.length ≤ 1000) : MulOk x n := by
  refine ⟨?_, fun hn _ => ?_, fun hn _ => ?_⟩
  · rw [decide_eq_false (by omega), decide_eq_false (by omega)] <;> rfl
  · have a : (2 ^ 63 - 1) / 1000 ≤ ((2 ^ 63 - 1) / n : Int) := by
      have hn0 : 0 < n := by omega
      rw [Int.le_ediv_iff_mul_le hn0]
      have : ((2 ^ 63 - 1) / 1000 : Int) * n ≤ ((2 ^ 63 - 1) / 1000 : Int) * 1000 := Int.mul_le_mul_of_nonneg_left h1 (by decide)
      exact Int.le_trans this (by decide)
    have b : ((1000 : Int)) ≤ (2 ^ 63 - 1) / 1000 := by decide
    omega
  · unfold Builtin.Str.tooLong
    rw [sizeLine_eq]
    have : x.length * n.toNat ≤ 1000 * 1000 := Nat.mul_le_mul hx (by omega)
    exact decide_eq_false (by omega)
theorem mem_foldl_app {c : Nat} : ∀ (l : List (Array Nat)) (acc : Array Nat), c ∈ (l.foldl (· ++ ·) acc).toList → c ∈ acc.toList ∨ ∃ a ∈ l, c ∈ a.toList
  | [], _, h => .inl h
  | a :: l, acc, h => by
    rcases mem_foldl_app l (acc ++ a) h with h | ⟨b, hb, h⟩
    · have e : (acc ++ a).toList = acc.toList ++ a.toList := by simp
      rw [e] at h
      rcases List.mem_append.mp h with h | h
      · exact .inl h
      · exact .inr ⟨a, List.mem_cons_self, h⟩
    · exact .inr ⟨b, List.mem_cons_of_mem _ hb, h⟩
theorem sOk.mul {a : Str} (ha : sOk a) (n : Int) : sOk (Txt.mul a n) := by
  unfold Txt.mul
  split
  · intro c hc
    simp [Str.empty] at hc
  · split
    · exact ha
    · intro c hc
      rcases mem_foldl_app _ _ hc with h | ⟨b, hb, h⟩
      · simp at h
      · rw [(List.mem_replicate.mp hb).2] at h
        exact ha c h
theorem Rws.rep {B : Bg} {H : Hp} {ι : Own} {ws : List W} {us : List V} (r : Rws B H ι ws us) : ∀ k : Nat, Rws B H ι (List.replicate k ws).flatten (List.replicate k us).flatten
  | 0 => .nil
  | k + 1 => by
    rw [List.replicate_succ, List.replicate_succ, List.flatten_cons, List.flatten_cons]
    exact r.append (Rws.rep r k)
theorem op_mul_ok : OpR X (binaryOp .Mult) (rOp X lo E .mul) := by
  intro pins s σ H u1 u2 v1 v2 Q I r1 r2 ⟨ι, h, x, y, hr, l, rx, ry, p⟩
  cases rx with
  | int i =>
    cases ry with
    | int j =>
      have p : post (bgX X) lo (rW (bgX X)) E H ι (if (small64 i || small64 j) = true then .ok (.int (i * j)) h else .bad) Q := p
      by_cases hc : (small64 i || small64 j) = true
      · rw [if_pos hc] at p
        refine op_mul pins s σ H _ _ v1 v2 Q I r1 r2 ⟨i, j, rfl, rfl, ?_, p.ok hr l (.int _)⟩
        rcases Bool.or_eq_true_iff.mp hc with q | q
        · unfold small64 at q
          obtain ⟨a, b⟩ := Bool.and_eq_true_iff.mp q
          exact .inl ⟨of_decide_eq_true a, of_decide_eq_true b⟩
        · unfold small64 at q
          obtain ⟨a, b⟩ := Bool.and_eq_true_iff.mp q
          exact .inr ⟨of_decide_eq_true a, of_decide_eq_true b⟩
      · rw [if_neg hc] at p
        exact p.elim
    | _ => exact p.elim
  | str i hi =>
    cases ry with
    | int j =>
      have p : post (bgX X) lo (rW (bgX X)) E H ι (if 0 ≤ j ∧ j ≤ 1000 ∧ i.length ≤ 1000 then .ok (.str (Txt.mul i j)) h else .bad) Q := p
      by_cases hc : 0 ≤ j ∧ j ≤ 1000 ∧ i.length ≤ 1000
      · rw [if_pos hc] at p
        obtain ⟨t1, rfl⟩ := r1
        obtain ⟨t2, rfl⟩ := r2
        exact PySem.SB.mul (mulOk_small hc.1 hc.2.1 hc.2.2) fun t' k => ⟨.str _, H, I.tok _, ⟨_, rfl⟩, p.ok hr l (.str _ (hi.mul j))⟩
      · rw [if_neg hc] at p
        exact p.elim
    | _ => exact p.elim
  | @tup ws vs a f r =>
    cases ry with
    | int j =>
      have p : post (bgX X) lo (rW (bgX X)) E H ι (if 2 ≤ j ∧ j ≤ 1000 ∧ ws.length ≤ 1000 ∧ ws ≠ [] then .ok (.tup ((List.replicate j.toNat ws).flatten)) h else .bad) Q := p
      by_cases hc : 2 ≤ j ∧ j ≤ 1000 ∧ ws.length ≤ 1000 ∧ ws ≠ []
      · rw [if_pos hc] at p
        refine op_repT pins s σ H _ _ v1 v2 Q I r1 r2 ⟨a, j, vs, rfl, rfl, f.sq, fun e => hc.2.2.2 ?_, hc.1, hc.2.1, by rw [← r.length]; exact hc.2.2.1, fun q hq => ?_⟩
        · subst e
          cases r
          rfl
        · exact p _ ι _ (Xt.new hq hr) (hr.new hq) l (.tup (.inl ⟨.inl upd_same, hr.fresh hq⟩) ((r.rep _).mono (Xt.new hq hr)))
      · rw [if_neg hc] at p
        exact p.elim
    | _ => exact p.elim
  | _ => exact p.elim
theorem op_ok (o : O2) : OpR X (binaryOp (o2 o)) (rOp X lo E o) := by
  cases o with
  | add => exact op_add_ok
  | sub => exact op_sub_ok
  | mul => exact op_mul_ok
  | fdiv => exact op_fdiv_ok
  | mod => exact op_mod_ok
  | pow => exact op_pow_ok

/-! ### comparisons -/
def c2 : C2 → CmpOp
  | .eq => .Eq | .ne => .NotEq | .lt => .Lt | .le => .LtE | .gt => .Gt | .ge => .GtE | .isin => .In | .notin => .NotIn
/-- a comparison of values: u1 is known, u2 too; what they come to -/
def rCmp (X : Cx) (c : C2) : R2 := fun u1 u2 H Q => ∃ ι h x y b, Hr (bgX X) H ι h ∧ Rw (bgX X) H ι x u1 ∧ Rw (bgX X) H ι y u2 ∧ cmpW h c x y = some b ∧ Q (.bl b) H
section
variable {pins : List (Addr × Obj)} {s : Shared} {σ : L2.St} {H : Hp} {u1 u2 : V} {v1 v2 : Value} {Q : VK} {ι : Own} {h : Hpa} {x y : W} {b : Bool}
theorem eqW_cases (h : Hpa) (x y : W) : (∃ a b, x = .rep a ∧ y = .rep b) ∨ eqW h x y = eqD h x y := by
  cases x with
  | rep a =>
    cases y with
    | rep b => exact .inl ⟨a, b, rfl, rfl⟩
    | _ => exact .inr rfl
  | _ => exact .inr rfl
theorem eq_run (hu : X.A.units + 65 < cLine) (I : Inv X pins σ H s) (r1 : RelV u1 v1) (r2 : RelV u2 v2) (hr : Hr (bgX X) H ι h) (rx : Rw (bgX X) H ι x u1) (ry : Rw (bgX X) H ι y u2) (e : eqW h x y = some b) :
    (Q (.bl b) H → wpAny (model X.prog X.w) X.A (compareOp .Eq v1 v2) (EP X pins σ Q) X.xe s) ∧ (Q (.bl (!b)) H → wpAny (model X.prog X.w) X.A (compareOp .NotEq v1 v2) (EP X pins σ Q) X.xe s) := by
  rcases eqW_cases h x y with ⟨a, c, rfl, rfl⟩ | e0
  · have e : decide (a = c) = b := Option.some.inj e
    subst e
    cases rx
    cases ry
    have z : decide (V.str a = V.str c) = decide (a = c) := by
      by_cases q : a = c
      · subst q
        simp
      · rw [decide_eq_false q, decide_eq_false (fun k => q (V.str.inj k))]
    exact ⟨fun q => op_eq pins s σ H _ _ v1 v2 Q I r1 r2 ⟨rfl, by rw [z]; exact q⟩, fun q => op_ne pins s σ H _ _ v1 v2 Q I r1 r2 ⟨rfl, by rw [z]; exact q⟩⟩
  · rw [e0] at e
    unfold eqD at e
    cases e1 : toD h DEP x with
    | none => rw [e1] at e; cases e
    | some d1 =>
      cases e2 : toD h DEP y with
      | none => rw [e1, e2] at e; cases e
      | some d2 =>
        rw [e1, e2] at e
        cases e
        obtain ⟨a1, b1⟩ := toD_shaped hr e1 rx
        obtain ⟨a2, b2⟩ := toD_shaped hr e2 ry
        exact ⟨fun q => op_eqD (by omega) pins s σ H u1 u2 v1 v2 Q I r1 r2 ⟨d1, d2, a1, a2, b1, b2, q⟩, fun q => op_neD (by omega) pins s σ H u1 u2 v1 v2 Q I r1 r2 ⟨d1, d2, a1, a2, b1, b2, q⟩⟩
theorem asQ_dp (hr : Hr (bgX X) H ι h) {ys : List W} (ry : Rw (bgX X) H ι y u2) (ey : asQ h y = some ys) {ds : List PyData} (e : ys.mapM (toD h DEP) = some ds) :
    (Dp X.K H u2 (.list ds) ∨ Dp X.K H u2 (.tuple ds)) ∧ PyData.canLayAll0 ds = true := by
  obtain ⟨a, vs, rfl, hs, rs⟩ := asQ_ok hr ry ey
  obtain ⟨b1, b2, b3⟩ := mapM_dp (toD_ok hr DEP) e rs
  rcases hs with hs | hs
  · exact ⟨.inl (.lst hs b1), b2⟩
  · exact ⟨.inr (.tup hs b1), b2⟩
theorem in_run (hu : X.A.units + 65 < cLine) (I : Inv X pins σ H s) (r1 : RelV u1 v1) (r2 : RelV u2 v2) (hr : Hr (bgX X) H ι h) (rx : Rw (bgX X) H ι x u1) {ys : List W} (ry : Rw (bgX X) H ι y u2) (ey : asQ h y = some ys) (e : inW h x ys = some b) :
    (Q (.bl b) H → wpAny (model X.prog X.w) X.A (compareOp .In v1 v2) (EP X pins σ Q) X.xe s) ∧ (Q (.bl (!b)) H → wpAny (model X.prog X.w) X.A (compareOp .NotIn v1 v2) (EP X pins σ Q) X.xe s) := by
  unfold inW at e
  cases e1 : toD h DEP x with
  | none => rw [e1] at e; cases e
  | some d =>
    cases e2 : ys.mapM (toD h DEP) with
    | none => rw [e1, e2] at e; cases e
    | some ds =>
      rw [e1, e2] at e
      cases e
      obtain ⟨a1, b1⟩ := toD_shaped hr e1 rx
      obtain ⟨a2, b2⟩ := asQ_dp hr ry ey e2
      obtain ⟨as, q1⟩ := Dp.reads I d u1 v1 a1 r1
      have room := PyProof.Rows.room_in_shaped (A := X.A) (xs := ds) b1 hu
      rcases a2 with a2 | a2
      · obtain ⟨bs, q2⟩ := Dp.reads I (.list ds) u2 v2 a2 r2
        exact ⟨fun q => SeqAt.in_list_reads q2 q1 b2 (SeqAt.canLay_of_shaped b1) room ⟨.bl _, H, I, rfl, q⟩, fun q => SeqAt.notIn_list_reads q2 q1 b2 (SeqAt.canLay_of_shaped b1) room ⟨.bl _, H, I, rfl, q⟩⟩
      · obtain ⟨bs, q2⟩ := Dp.reads I (.tuple ds) u2 v2 a2 r2
        exact ⟨fun q => SeqAt.in_tuple_reads q2 q1 b2 (SeqAt.canLay_of_shaped b1) room ⟨.bl _, H, I, rfl, q⟩, fun q => SeqAt.notIn_tuple_reads q2 q1 b2 (SeqAt.canLay_of_shaped b1) room ⟨.bl _, H, I, rfl, q⟩⟩
end
end
end Mi

/-! Mi4: dicts, comparisons, subscripts, methods, built-ins. -/
namespace Mi
open PySem PySem.Spec PyProof.Rows L2
section
variable {B : Bg} {H : Hp} {ι : Own} {h : Hpa} {lo : Lv} {E : XP}
theorem lookK_val {q : Key} : ∀ {ks : List Key} {ws : List W} {vs : List V}, ks.length = vs.length → Rws B H ι ws vs →
    (∀ w, lookK ks ws q = some w → ∃ v, valV (ks.zip vs) q = some v ∧ Rw B H ι w v) ∧ (lookK ks ws q = none → valV (ks.zip vs) q = none)
  | [], _, [], _, .nil => ⟨fun _ e => by simp [lookK] at e, fun _ => rfl⟩
  | k :: ks, _, v :: vs, hl, .cons (x := w) r rs => by
    have ih := lookK_val (q := q) (ks := ks) (by simpa using hl) rs
    have e : (k :: ks).zip (v :: vs) = (k, v) :: ks.zip vs := rfl
    rw [e]
    by_cases hk : k = q
    · refine ⟨fun w' e' => ⟨v, valV_pos hk, ?_⟩, fun e' => ?_⟩
      · simp only [lookK, if_pos hk] at e'
        cases e'
        exact r
      · simp only [lookK, if_pos hk] at e'
        cases e'
    · rw [valV_neg hk]
      simp only [lookK, if_neg hk]
      exact ih
theorem asDk_ok (hr : Hr B H ι h) {w : W} {u : V} {ks : List Key} {ws : List W} (r : Rw B H ι w u) (e : asDk h w = some (ks, ws)) : ∃ a vs, u = .ref a ∧ (Rd H a (.dK (ks.zip vs)) ∨ (WrD B.K B.w a ks vs ∧ ∃ a b, w = .dkw a b)) ∧ ks.length = vs.length ∧ (∀ k ∈ ks, kOk k) ∧ Rws B H ι ws vs := by
  cases r with
  | dk f l k r =>
    cases e
    exact ⟨_, _, rfl, .inl f.1, l, k, r⟩
  | dkw f l k r =>
    cases e
    exact ⟨_, _, rfl, .inr ⟨f, _, _, rfl⟩, l, k, r⟩
  | @ref n a q =>
    unfold asDk at e
    cases z : h[n]? with
    | none => simp [z] at e
    | some ob =>
      obtain ⟨b, hb, o⟩ := hr.get z
      rw [q] at hb
      cases hb
      cases ob with
      | dk ks' ws' =>
        simp [z] at e
        obtain ⟨rfl, rfl⟩ := e
        obtain ⟨vs, h1, h2, h3, h4⟩ := o
        exact ⟨_, _, rfl, .inl (.inl h1), h2, h3, h4⟩
      | lst _ => simp [z] at e
      | ins _ _ => simp [z] at e
  | _ => cases e
theorem keyOf_V {w : W} {u : V} {q : Key} (r : Rw B H ι w u) (e : keyOf w = some q) : u = kV q ∧ kOk q := by
  cases r with
  | int i => cases e; exact ⟨rfl, trivial⟩
  | str s hs => cases e; exact ⟨rfl, hs⟩
  | _ => cases e
theorem keyIn_V {d w : W} {u : V} {q : Key} (r : Rw B H ι w u) (e : keyIn d w = some q) : u = kV q ∧ kOk q ∧ ((∃ a b, d = .dkw a b) → ∃ t, q = .inr t) := by
  by_cases k : ∃ a b, d = .dkw a b
  · obtain ⟨a, b, rfl⟩ := k
    cases r with
    | str s hs => cases e; exact ⟨rfl, hs, fun _ => ⟨s, rfl⟩⟩
    | _ => cases e
  · have e2 : keyOf w = some q := by
      cases d with
      | dkw a b => exact absurd ⟨a, b, rfl⟩ k
      | _ => exact e
    obtain ⟨a, b⟩ := keyOf_V r e2
    exact ⟨a, b, fun z => absurd z k⟩
theorem asDk_asQ {w : W} {p : List Key × List W} (e : asDk h w = some p) : asQ h w = none := by
  cases w with
  | dk _ _ => rfl
  | dkw _ _ => rfl
  | ref n =>
    simp only [asDk] at e
    simp only [asQ, asL]
    cases z : h[n]? with
    | none => simp [z] at e
    | some ob =>
      cases ob with
      | lst _ => simp [z] at e
      | _ => simp
  | _ => cases e
end
section
variable {X : Cx} {lo : Lv} {E : XP} {pins : List (Addr × Obj)} {s : Shared} {σ : L2.St} {H : Hp} {u1 u2 u3 : V} {v1 v2 v3 : Value} {Q : VK} {ι : Own} {h : Hpa} {x y z : W} {b : Bool}
theorem inDk_run (hu : X.A.units + 65 < cLine) (I : Inv X pins σ H s) (r1 : RelV u1 v1) (r2 : RelV u2 v2) (hr : Hr (bgX X) H ι h) (rx : Rw (bgX X) H ι x u1) (ry : Rw (bgX X) H ι y u2) {ks : List Key} {ws : List W} (ed : asDk h y = some (ks, ws)) {q : Key} (ek : keyIn y x = some q) :
    (Q (.bl (lookK ks ws q).isSome) H → wpAny (model X.prog X.w) X.A (compareOp .In v1 v2) (EP X pins σ Q) X.xe s) ∧ (Q (.bl (!(lookK ks ws q).isSome)) H → wpAny (model X.prog X.w) X.A (compareOp .NotIn v1 v2) (EP X pins σ Q) X.xe s) := by
  obtain ⟨a, vs, rfl, d, hl, hk, rs⟩ := asDk_ok hr ry ed
  obtain ⟨rfl, hq, hw⟩ := keyIn_V rx ek
  have lk := lookK_val (q := q) hl rs
  have es : (lookK ks ws q).isSome = (valV (ks.zip vs) q).isSome := by
    cases e : lookK ks ws q with
    | none => rw [lk.2 e] <;> rfl
    | some w =>
      obtain ⟨v, h1, _⟩ := lk.1 w e
      rw [h1] <;> rfl
  rw [es]
  cases r2
  rcases d with d | ⟨d, dw⟩
  · have g : DGet H a (kV q) (valV (ks.zip vs) q) := .inl ⟨_, q, d, rfl, rfl⟩
    exact ⟨fun p => d_in (by omega) I g r1 fun s' I' => ⟨.bl _, H, I', rfl, p⟩, fun p => d_notIn (by omega) I g r1 fun s' I' => ⟨.bl _, H, I', rfl, p⟩⟩
  · obtain ⟨es', n, D, f⟩ := d
    obtain ⟨t, rfl⟩ := hw dw
    obtain ⟨r, e1, e2⟩ := f t
    have e3 : r.isSome = (valV (ks.zip vs) (.inr t)).isSome := by
      cases z : valV (ks.zip vs) (.inr t) with
      | none =>
        rw [z] at e2
        rw [e2] <;> rfl
      | some v =>
        rw [z] at e2
        obtain ⟨u, e2, _⟩ := e2
        rw [e2] <;> rfl
    rw [← e3]
    have r2 : RelV (.ref a) (Value.ref a) := rfl
    exact ⟨fun p => op_in_kd D pins s σ H _ _ v1 _ Q I r1 r2 ⟨t, r, rfl, rfl, e1, p⟩, fun p => op_notIn_kd D pins s σ H _ _ v1 _ Q I r1 r2 ⟨t, r, rfl, rfl, e1, p⟩⟩
theorem isin_else (hy : ∀ t, y ≠ .str t) : isinW h x y = (match asDk h y with
    | some (ks, vs) => (keyIn y x).map fun k => (lookK ks vs k).isSome
    | none => (match asQ h y with
      | some ys => inW h x ys
      | none => none)) := by
  cases y with
  | str t => exact absurd rfl (hy t)
  | _ => rfl
theorem isin_run (hu : X.A.units + 65 < cLine) (I : Inv X pins σ H s) (r1 : RelV u1 v1) (r2 : RelV u2 v2) (hr : Hr (bgX X) H ι h) (rx : Rw (bgX X) H ι x u1) (ry : Rw (bgX X) H ι y u2) (e : isinW h x y = some b) :
    (Q (.bl b) H → wpAny (model X.prog X.w) X.A (compareOp .In v1 v2) (EP X pins σ Q) X.xe s) ∧ (Q (.bl (!b)) H → wpAny (model X.prog X.w) X.A (compareOp .NotIn v1 v2) (EP X pins σ Q) X.xe s) := by
  by_cases hy : ∃ t, y = .str t
  · obtain ⟨t, rfl⟩ := hy
    cases rx with
    | str a ha =>
      cases ry with
      | str _ ht =>
        have e : strIn a t = b := Option.some.inj e
        subst e
        exact ⟨fun q => op_in_str pins s σ H _ _ v1 v2 Q I r1 r2 ⟨a, t, rfl, rfl, q⟩, fun q => op_notin_str pins s σ H _ _ v1 v2 Q I r1 r2 ⟨a, t, rfl, rfl, q⟩⟩
    | _ => cases e
  · rw [isin_else fun t q => hy ⟨t, q⟩] at e
    cases ed : asDk h y with
    | some p =>
      obtain ⟨ks, ws⟩ := p
      rw [ed] at e
      cases ek : keyIn y x with
      | none =>
        rw [ek] at e
        cases e
      | some q =>
        rw [ek] at e
        have e : (lookK ks ws q).isSome = b := Option.some.inj e
        subst e
        exact inDk_run hu I r1 r2 hr rx ry ed ek
    | none =>
      rw [ed] at e
      cases eq : asQ h y with
      | none =>
        rw [eq] at e
        cases e
      | some ys =>
        rw [eq] at e
        exact in_run hu I r1 r2 hr rx ry eq e
theorem cmp_ok (hu : X.A.units + 65 < cLine) (c : C2) : OpR X (compareOp (c2 c)) (rCmp X c) := by
  intro pins s σ H u1 u2 v1 v2 Q I r1 r2 ⟨ι, h, x, y, b, hr, rx, ry, e, q⟩
  have numsC : ∀ (op : CmpOp) (f : Int → Int → Bool) (k : OpR X (compareOp op) (rI0 fun i j => .bl (f i j))), (match x, y with | .int i, .int j => some (f i j) | _, _ => none) = some b → wpAny (model X.prog X.w) X.A (compareOp op v1 v2) (EP X pins σ Q) X.xe s := fun op f k e => by
    cases rx with
    | int i =>
      cases ry with
      | int j =>
        cases e
        exact k pins s σ H _ _ v1 v2 Q I r1 r2 ⟨i, j, rfl, rfl, q⟩
      | _ => cases e
    | _ => cases e
  cases c with
  | eq => exact (eq_run hu I r1 r2 hr rx ry e).1 q
  | ne =>
    have e : (eqW h x y).map (!·) = some b := e
    cases z : eqW h x y with
    | none =>
      rw [z] at e
      cases e
    | some d =>
      rw [z] at e
      have e : (!d) = b := Option.some.inj e
      subst e
      exact (eq_run hu I r1 r2 hr rx ry z).2 q
  | lt => exact numsC .Lt _ op_lt (by cases rx <;> cases ry <;> first | exact e | cases e)
  | le => exact numsC .LtE _ op_le (by cases rx <;> cases ry <;> first | exact e | cases e)
  | gt => exact numsC .Gt _ op_gt (by cases rx <;> cases ry <;> first | exact e | cases e)
  | ge => exact numsC .GtE _ op_ge (by cases rx <;> cases ry <;> first | exact e | cases e)
  | isin => exact (isin_run hu I r1 r2 hr rx ry e).1 q
  | notin =>
    have e : (isinW h x y).map (!·) = some b := e
    cases z : isinW h x y with
    | none =>
      rw [z] at e
      cases e
    | some d =>
      rw [z] at e
      have e : (!d) = b := Option.some.inj e
      subst e
      exact (isin_run hu I r1 r2 hr rx ry z).2 q

/-! ### subscripts -/
theorem atI_get {α β : Type} {xs : List α} {ys : List β} {R : α → β → Prop} {k : Int} {x : α} (hl : xs.length = ys.length) (hg : ∀ (i : Nat) (x : α), xs[i]? = some x → ∃ y, ys[i]? = some y ∧ R x y) (e : atI xs k = some x) : ∃ y, atI ys k = some y ∧ R x y := by
  unfold atI at e ⊢
  rw [← hl]
  cases z : ixN xs.length k with
  | none =>
    rw [z] at e
    cases e
  | some j =>
    rw [z] at e
    exact hg j x e
def rIx (X : Cx) : R2 := fun u1 u2 H Q => ∃ ι h x y w, Hr (bgX X) H ι h ∧ Rw (bgX X) H ι x u1 ∧ Rw (bgX X) H ι y u2 ∧ idxW h x y = some w ∧ ∀ u, Rw (bgX X) H ι w u → Q u H
theorem idx_else (hx : ∀ t, x ≠ .str t) : idxW h x y = (match asDk h x with
    | some (ks, vs) => (keyIn x y).bind (lookK ks vs)
    | none => (match asQ h x, y with
      | some xs, .int k => atI xs k
      | _, _ => none)) := by
  cases x with
  | str t => exact absurd rfl (hx t)
  | _ => rfl
theorem ix_ok (hu : X.A.units + 65 < cLine) : IxR X (rIx X) := by
  intro value slice pins s σ H u1 u2 v1 v2 Q I r1 r2 ⟨ι, h, x, y, w, hr, rx, ry, e, q⟩ hs
  by_cases hx : ∃ t, x = .str t
  · obtain ⟨t, rfl⟩ := hx
    cases ry with
    | int k =>
      have e : (if t.length ≤ LIM then (atI t.cps.toList k).map fun c => W.str ⟨#[c]⟩ else none) = some w := e
      by_cases hl : t.length ≤ LIM
      · rw [if_pos hl] at e
        cases z : atI t.cps.toList k with
        | none =>
          rw [z] at e
          cases e
        | some c =>
          rw [z] at e
          cases e
          cases rx with
          | str _ ht =>
            refine ix_str value slice pins s σ H _ _ v1 v2 Q I r1 r2 ⟨t, k, c, rfl, rfl, by rw [lim_eq]; exact hl, z, q _ (.str _ (ht.one ?_))⟩ hs
            unfold atI at z
            cases zz : ixN t.cps.toList.length k with
            | none =>
              rw [zz] at z
              cases z
            | some j =>
              rw [zz] at z
              exact List.mem_of_getElem? z
      · rw [if_neg hl] at e
        cases e
    | _ => cases e
  · rw [idx_else fun t q => hx ⟨t, q⟩] at e
    cases ed : asDk h x with
    | some p =>
      obtain ⟨ks, ws⟩ := p
      rw [ed] at e
      cases ek : keyIn x y with
      | none =>
        rw [ek] at e
        cases e
      | some k =>
        rw [ek] at e
        have e : lookK ks ws k = some w := e
        obtain ⟨a, vs, rfl, d, hl, hk, rs⟩ := asDk_ok hr rx ed
        obtain ⟨rfl, hq, hw⟩ := keyIn_V ry ek
        obtain ⟨v, e1, e2⟩ := (lookK_val (q := k) hl rs).1 w e
        have r1' : v1 = Value.ref a := r1
        subst r1'
        rcases d with d | ⟨d, dw⟩
        · have g : DGet H a (kV k) (some v) := .inl ⟨_, k, d, rfl, e1.symm⟩
          refine tail_any (dict_typeIs I g) slot_dict_getitem.lookup (d_getItem (by omega) I g r2 fun w' s' I' rv => ⟨v, H, I', rv, q v e2⟩) hs
        · obtain ⟨es', n, D, f⟩ := d
          obtain ⟨t, rfl⟩ := hw dw
          obtain ⟨r, g1, g2⟩ := f t
          rw [e1] at g2
          obtain ⟨u, g3, g4⟩ := g2
          rw [g3] at g1
          exact ix_kdict value slice pins s σ H _ _ _ v2 Q I r1 r2 ⟨a, t, v, rfl, rfl, ⟨es', n, u, D.at_, D.lit, g1, g4⟩, q v e2⟩ hs
    | none =>
      rw [ed] at e
      cases eq : asQ h x with
      | none =>
        rw [eq] at e
        cases e
      | some xs =>
        rw [eq] at e
        cases ry with
        | int k =>
          have e : atI xs k = some w := e
          obtain ⟨a, vs, rfl, hs2, rs⟩ := asQ_ok hr rx eq
          obtain ⟨v, e1, e2⟩ := atI_get rs.length (fun i x => rs.get) e
          rcases hs2 with hs2 | hs2
          · exact ix_list value slice pins s σ H _ _ v1 v2 Q I r1 r2 ⟨a, vs, k, v, rfl, rfl, hs2, e1, q v e2⟩ hs
          · exact ix_tup value slice pins s σ H _ _ v1 v2 Q I r1 r2 ⟨a, vs, k, v, rfl, rfl, hs2, e1, q v e2⟩ hs
        | _ => cases e

/-! ### slices -/
theorem Rws.cut {B : Bg} {ws : List W} {us : List V} (r : Rws B H ι ws us) (a c : Option Int) : Rws B H ι (cutL ws a c) (cutV us a c) := by
  unfold cutL cutV
  rw [r.length]
  exact (r.drop _).take _
def rSlc (X : Cx) (lo : Lv) (E : XP) : V → Option Int → Option Int → Hp → VK → Prop := fun u a c H Q => ∃ ι h x, Hr (bgX X) H ι h ∧ Lo lo h ∧ Rw (bgX X) H ι x u ∧ post (bgX X) lo (rW (bgX X)) E H ι (ofO (slcW h x a c) h) Q
theorem slc_ok : SlR X (rSlc X lo E) := by
  intro pins s σ H u v vl vu a c sl Q I r hs pl pu ⟨ι, h, x, hr, l, rx, p⟩
  have lists : ∀ xs, asL h x = some xs → slcW h x a c = some (.lst (cutL xs a c)) → ∃ T id, typeLookup (.type T) "__getitem__" = pure (some (.builtin id)) ∧ s.TypeIs v T ∧ wpAny (model X.prog X.w) X.A (getItem v (.ref sl)) (EP X pins σ Q) X.xe s := fun xs e1 e2 => by
    obtain ⟨b, vs, rfl, h1, rs⟩ := asL_ok hr rx e1
    rw [e2] at p
    refine sl_list pins s σ H _ v vl vu a c sl Q I r hs pl pu ⟨b, vs, rfl, h1, fun q hq => ?_⟩
    exact p _ ι _ (Xt.new hq hr) (hr.new hq) l (.lst ⟨upd_same, hr.fresh hq⟩ ((rs.cut a c).mono (Xt.new hq hr)))
  have gen : slcW h x a c = (asL h x).map (fun xs => W.lst (cutL xs a c)) → ∃ T id, typeLookup (.type T) "__getitem__" = pure (some (.builtin id)) ∧ s.TypeIs v T ∧ wpAny (model X.prog X.w) X.A (getItem v (.ref sl)) (EP X pins σ Q) X.xe s := fun e => by
    cases z : asL h x with
    | none =>
      rw [e, z] at p
      exact p.elim
    | some xs => exact lists xs z (by rw [e, z] <;> rfl)
  cases rx with
  | str t ht =>
    have p : post (bgX X) lo (rW (bgX X)) E H ι (ofO (if t.length ≤ LIM then some (.str (cutS t a c)) else none) h) Q := p
    by_cases hl : t.length ≤ LIM
    · rw [if_pos hl] at p
      exact sl_str pins s σ H _ v vl vu a c sl Q I r hs pl pu ⟨t, rfl, by rw [lim_eq]; exact hl, p.ok hr l (.str _ (ht.cut a c))⟩
    · rw [if_neg hl] at p
      exact p.elim
  | @tup ws vs b f rs =>
    have p : post (bgX X) lo (rW (bgX X)) E H ι (.ok (.tup (cutL ws a c)) h) Q := p
    refine sl_tupA pins s σ H _ v vl vu a c sl Q I r hs pl pu ⟨b, vs, rfl, f.sq, fun e => ?_, fun _ q hq => ?_⟩
    · have e2 : cutL ws a c = ws := by
        unfold cutL
        rw [rs.length, e.1, e.2, List.drop_zero, Nat.sub_zero, ← rs.length, List.take_length]
      rw [e2] at p
      exact p.ok hr l (.tup f rs)
    · exact p _ ι _ (Xt.new hq hr) (hr.new hq) l (.tup (.inl ⟨.inl upd_same, hr.fresh hq⟩) ((rs.cut a c).mono (Xt.new hq hr)))
  | _ => exact gen rfl
end
end Mi

/-! Mi5: the contract of a def where no guarded call is under way (so that repr may be asked). -/
namespace Mi
open PySem PySem.Spec PyProof.Rows L2
/-- a def's contract by positional values: room, and no guard -/
structure FnG (P : Program) (w : World) (K : PySem.W.Frag) (mg : Str → Option Value) (base : Heap) (k : Nat) (f : Addr) (np : Nat) (sp : Sp) : Prop where
  len : ∀ vs H Q E, sp vs H Q E → vs.length = np
  run : ∀ (A : Around) (outer : List PySem.Env) (s : Shared) (H : Hp) (us : List Value) (vs : List V) (Q : VK) (E : XK), Room k A → A.guards = some [] → Env0 P w K mg base A outer s H → Vals vs us → sp vs H Q E →
    codeAny (model P w) A (.call (.ref f) ⟨us, []⟩) (CR (L2.CX P w) outer P w H s Q E) s
section
variable {X : Cx} {k np : Nat} {f : Addr} {sp : Sp} {E : L2.St → XK} {x : Str} {p pos : Pos} {e : Expr} {es : List Expr} {t : TA}
theorem FnG.call {pins : List (Addr × Obj)} {σ : L2.St} {H : Hp} {s : Shared} {Q : VK} {us : List Value} {vs : List V} (F : FnG X.prog X.w X.K X.mg X.base k f np sp) (room : Room k X.A) (gd : X.A.guards = some []) (out : PassesAt (L2.CX X.prog X.w) X σ (E σ))
    (I : Inv X pins σ H s) (rel : Vals vs us) (ask : sp vs H Q (E σ)) : wpAny (model X.prog X.w) X.A (PySem.call (.ref f) us) (EP X pins σ Q) X.xe s := by
  refine wpAny_call (codeAny_mono (F.run X.A X.stack s H us vs Q (E σ) room gd I.env0 rel ask) fun res st hq => ?_)
  match res, hq with
  | .error err, hq => exact out pins H s err st I hq
  | .ok (.ret u), hq => exact I.after hq
  | .ok .next, hq => exact hq.elim
  | .ok .brk, hq => exact hq.elim
  | .ok .cont, hq => exact hq.elim
theorem pe_callG (F : FnG X.prog X.w X.K X.mg X.base k f np sp) (room : Room k X.A) (gd : X.A.guards = some []) (hg : Gl X x) (hm : X.mg x = some (.ref f)) (hk : PySem.W.keepIn X.K (.ref f) = true) (out : ∀ σ, PassesAt (L2.CX X.prog X.w) X σ (E σ))
    (ha : PA X (e :: es) t) (hdb : (x == ("__debug__" : Str)) = false) (he : starEach (e :: es) X.env = (false, eval e X.env) :: starEach es X.env) (hpl : (backTo pos (starEach es X.env)).any (·.1) = false) :
    PE X (.Call (.Name x p) (e :: es) [] pos) (tCallS sp E t) := by
  constructor
  intro pins s σ H Q I ask
  refine wpAny_Call_Name_kw (ld_glob I hg hm ?_ hdb)
  refine PySem.W.callWith_K (h₀ := X.base) I.ok.mod.kin hk (thn (ha.run pos pins s σ H _ I ask) ?_) he hpl
  rintro us st ⟨vs, H1, J, rel, q⟩
  exact ⟨J.kIn, F.call room gd (out σ) J rel q⟩
theorem pe_callG0 (F : FnG X.prog X.w X.K X.mg X.base k f np sp) (room : Room k X.A) (gd : X.A.guards = some []) (hg : Gl X x) (hm : X.mg x = some (.ref f)) (hk : PySem.W.keepIn X.K (.ref f) = true) (out : ∀ σ, PassesAt (L2.CX X.prog X.w) X σ (E σ))
    (hdb : (x == ("__debug__" : Str)) = false) : PE X (.Call (.Name x p) [] [] pos) (tCallS sp E tNil) := by
  constructor
  intro pins s σ H Q I ask
  refine wpAny_Call_Name_kw (ld_glob I hg hm ?_ hdb)
  exact PySem.W.callWith_K0 I.kIn hk (F.call (us := []) (vs := []) room gd (out σ) I .nil ask)
end
/-- the rule for a def: its body by rules, and what is asked of it -/
theorem fnG_of {P : Program} {w : World} {K : PySem.W.Frag} {mg : Str → Option Value} {base : Heap} {k np : Nat} {f : Addr} {fd : FuncData} {x qual : Str} {params : Arguments} {body : List Stmt} {scope : Scope} {N ps : List Str} {sp : Sp}
    (F : FunD K x qual params body scope [] [] f fd) (bd : Binds K fd ps []) (S : FnScope N ps scope) (hnp : ps.length = np) (len : ∀ vs H Q E, sp vs H Q E → vs.length = np)
    (hbody : ∀ (cdv : Value) (A : Around) (outer : List PySem.Env) (s : Shared) (H : Hp) (vs : List V) (Q : VK) (E : XK), Room k (A.deeper (envOfC qual scope s.heap.objs.size f cdv)) → A.guards = some [] → sp vs H Q E →
      ∃ t, PSs (cxOf (L2.CX P w) P w K mg base N qual scope f cdv A outer s H E) body t ∧ t { nx := fun _ H' => Q .non H', rt := Q } (start N vs) H) : FnG P w K mg base (k + 1) f np sp := by
  obtain ⟨oc, od, dV, kV, doc, pm, an, cdv, ct, osl, rfl, lk, hcd, _, _⟩ := F.ex
  refine ⟨len, fun A outer s H us vs Q E room gd env rel ask => ?_⟩
  have hps : vs.length = ps.length := (len _ _ _ _ ask).trans hnp.symm
  have inS : K.In s.heap := env.mod.kin.keeps fun b o q => (env.bs b o q).1
  have free : s.heap.NoLimit := env.mod.nolimit.keeps fun b o q => (env.bs b o q).1
  have bnd := bd s us inS (by rw [List.append_nil, ← rel.length]; exact hps)
  rw [List.append_nil] at bnd
  have kinds : ∀ y ∈ ps.zip us, scope.names.lookup y.1 = some .local ∨ (scope.names.lookup y.1 = some .cell ∧ ((cellsFrom (s.heap.objs.size + 1) scope.names []).lookup y.1).isSome = true) := by
    rintro ⟨n, v⟩ hy
    cases S.par n (List.of_mem_zip hy).1 with
    | inl q => exact .inl q
    | inr q => exact .inr ⟨q, PySem.W.cellsFrom_some _ _ _ (.inl q)⟩
  refine codeAny_call_function room.depth (inS _ _ lk) rfl S.co S.gen rfl (PySem.W.codeRec_of inS hcd) (bnd _ _ _ _ ?_)
  refine wpAny_newFunctionEnv_cells S.kind kinds ?_
  rintro env' rfl s1 entry
  refine ⟨free.keeps entry.toInCall.keep, codeAny_func ?_⟩
  obtain ⟨t, walk, read⟩ := hbody cdv A outer s H vs Q E (room.deeper _) gd ask
  refine wpAny_mono (walk.run [] s1 (start N vs) H _ (inv_start S room.hd env hps rel entry) read) (fun fl st hs => ?_) fun _ _ z => z
  match fl, hs with
  | .ret u, ⟨v, σ', H', J, rv, q⟩ => exact ⟨v, H', J.os, J.bare, J.base, J.hok, rv, q⟩
  | .next, ⟨σ', H', J, q⟩ => exact ⟨V.non, H', J.os, J.bare, J.base, J.hok, rfl, q⟩
  | .brk, ⟨_, _, _, q⟩ => exact q.elim
  | .cont, ⟨_, _, _, q⟩ => exact q.elim

/-! ### the law's own call -/
/-- nothing but the script is told of at the law's entry -/
def AtStart (K : PySem.W.Frag) (H : Hp) (a : Addr) (ns : List Int) : Prop :=
  ((∃ o, H a = some (.frz o (.lst (ns.map V.int)))) ∨ WrL K a (ns.map V.int)) ∧ ∀ b u, H b = some u → b = a
theorem law_run {P : Program} {w : World} {K : PySem.W.Frag} {mg mb : Str → Option Value} {k : Nat} {fa a : Addr} {sp : Sp} {st : Shared} {vs : List Value} {ns : List Int}
    (inK : K.In st.heap) (gl : st.heap.Ns mainGlobals mg) (bt : st.heap.Ns builtinsNs mb) (btv : ∀ x : Str, x ≠ "__name__" → mb x = bootBuiltins x) (free : st.heap.NoLimit) (gens : st.gens = #[])
    (scr : st.heap.get? a = some { cls := .type "list", data := .seq vs.toArray }) (are : IntsAre vs ns) (short : ns.length ≤ sizeLine) (room : Room k callerA)
    (F : ∀ base : Heap, K.In base → base.Ns mainGlobals mg → FnG P w K mg base k fa 1 sp)
    (ask : ∀ H : Hp, AtStart K H a ns → sp [.ref a] H (fun v _ => v = .bl true) fun _ _ _ => False) :
    codeAny (model P w) callerA (.call (.ref fa) ⟨[.ref a], []⟩) (fun r s' => r = .ok (.ret (.bool true)) ∧ OldK st.heap s'.heap ∧ s'.os = st.os ∧ AllBare s'.gens) st := by
  have rel := vals_ints are
  have hlen := are.length
  let ob : Obj := { cls := .type "list", data := .seq vs.toArray }
  let H : Hp := fun b => if b = a ∧ K.lookup a = none then some (.frz ob (.lst (ns.map V.int))) else none
  have inv : ∀ {b : Addr} {u : HO}, H b = some u → b = a ∧ K.lookup a = none ∧ u = .frz ob (.lst (ns.map V.int)) := fun {b u} z => by
    by_cases hb : b = a ∧ K.lookup a = none
    · have q : H b = some (.frz ob (.lst (ns.map V.int))) := if_pos hb
      rw [q] at z
      cases z
      exact ⟨hb.1, hb.2, rfl⟩
    · have q : H b = none := if_neg hb
      rw [q] at z
      cases z
  have ok : HOk P w H st.heap := fun b u z => by
    obtain ⟨rfl, _, rfl⟩ := inv z
    exact ⟨scr, by rw [List.length_map]; exact short, vs, _, rel, scr⟩
  have dicts : ∀ {b : Addr} {o : Obj} {es : Array DictEntry} {ep : Nat}, st.heap.get? b = some o → o.data = .dict es ep → H b = none := fun {b o es ep} e d => by
    cases q : H b with
    | none => rfl
    | some u =>
      obtain ⟨rfl, _, _⟩ := inv q
      rw [scr] at e
      cases e
      cases d
  have keepNs : ∀ {b : Addr} {m : Str → Option Value}, st.heap.Ns b m → (hidT st.heap H).Ns b m := by
    rintro b m ⟨o, es, ep, e, d, z⟩
    exact ⟨o, es, ep, hidT_get e (dicts e d), d, z⟩
  have inBase : K.In (hidT st.heap H) := fun b o e => hidT_get (inK b o e) (by
    cases q : H b with
    | none => rfl
    | some u =>
      obtain ⟨rfl, z, _⟩ := inv q
      rw [z] at e
      cases e)
  have base : Mod K mg (hidT st.heap H) := ⟨inBase, keepNs gl, ⟨mb, keepNs bt, btv⟩, let ⟨mc, z1, z2⟩ := free; ⟨mc, keepNs z1, z2⟩⟩
  have env : Env0 P w K mg (hidT st.heap H) callerA [] st H :=
    { frames := rfl, mod := base, bs := fun b o e => of_hidT e, bsz := Nat.le_of_eq (hidT_size _ _), funs := trivial, frf := (fun b hb => nomatch (show b ∈ ([] : List Addr) from hb)), hok := ok, bare := .of_eq gens }
  have start : AtStart K H a ns := by
    refine ⟨?_, fun b u z => (inv z).1⟩
    cases hk : K.lookup a with
    | none => exact .inl ⟨ob, if_pos ⟨rfl, hk⟩⟩
    | some o =>
      have e := inK a o hk
      rw [scr] at e
      cases e
      exact .inr ⟨_, vs.toArray, _, hk, rfl, rfl, rfl, by rw [List.size_toArray, hlen]; exact short, by simpa using rel⟩
  refine codeAny_mono ((F _ inBase (keepNs gl)).run callerA [] st H [.ref a] [.ref a] _ _ room rfl env (.cons rfl .nil) (ask H start)) fun r s' z => ?_
  match r, z with
  | .error e, z =>
    obtain ⟨_, _, _, _, _, _, _, _, _, _, _, _, q⟩ := z
    exact q.elim
  | .ok (.ret u), ⟨v, H', os, bare, un, ok', rv, q⟩ =>
    have q : v = .bl true := q
    subst q
    have rv : u = Value.bool true := rv
    subst rv
    refine ⟨rfl, OldK.of_keep fun b o e => ?_, os, bare⟩
    cases q : H b with
    | none => exact un.keep b o e q (fun z => nomatch (show b ∈ ([] : List Addr) from z)) (fun z => nomatch z)
    | some u =>
      obtain ⟨_, _, rfl⟩ := inv q
      have e1 : st.heap.get? b = some ob := (ok b _ q).1
      have e2 : s'.heap.get? b = some ob := (ok' b _ (un.frzs b ob _ q)).1
      rw [e] at e1
      rw [e2, e1]
  | .ok .next, z => exact z.elim
  | .ok .brk, z => exact z.elim
  | .ok .cont, z => exact z.elim
end Mi

/-! Mi6: set(list) of numbers and texts, of any length below the scan's bound. -/
namespace Mi
open PySem PySem.Spec PyProof.Rows L2
abbrev hasK (ks : List Key) (k : Key) : Bool := ks.any fun x => decide (x = k)
theorem onceK_len : ∀ (ks acc : List Key), (onceK acc ks).length ≤ acc.length + ks.length
  | [], acc => Nat.le_refl _
  | k :: ks, acc => by
    unfold onceK
    split
    · have := onceK_len ks acc
      simp only [List.length_cons]
      omega
    · have := onceK_len ks (acc ++ [k])
      simp only [List.length_append, List.length_cons, List.length_nil] at this ⊢
      omega
theorem onceK_snoc : ∀ (ks acc : List Key) (k : Key), onceK acc (ks ++ [k]) = if hasK (onceK acc ks) k then onceK acc ks else onceK acc ks ++ [k]
  | [], acc, k => by
    show onceK acc [k] = _
    unfold onceK onceK
    split <;> rfl
  | a :: ks, acc, k => by
    rw [List.cons_append]
    simp only [onceK]
    exact onceK_snoc ks _ k
theorem hasK_snoc (ks : List Key) (k q : Key) : hasK (ks ++ [k]) q = (hasK ks q || decide (q = k)) := by
  unfold hasK
  rw [List.any_append]
  congr 1
  simp only [List.any_cons, List.any_nil, Bool.or_false]
  by_cases h : k = q
  · subst h
    simp
  · rw [decide_eq_false h, decide_eq_false (fun z => h z.symm)]
theorem hasK_step (ks : List Key) (k q : Key) : (hasK ks q || decide (q = k)) = hasK (if hasK ks k then ks else ks ++ [k]) q := by
  by_cases h : hasK ks k = true
  · rw [if_pos h]
    by_cases e : q = k
    · subst e
      rw [h]
      rfl
    · rw [decide_eq_false e, Bool.or_false]
  · rw [if_neg h, hasK_snoc]
section
variable {prog : Program} {w : World} {A : Around} {E : Value → Shared → Prop} {s : Shared}
theorem set_loopK {Rs : Result → Shared → Prop} {I : Addr} {fp wr : List Addr} {G : Array GenState → Array GenState → Prop} {n : Nat} {P : Nat → Value → Prop} {St : Nat → Shared → Prop} (W : WalksS prog w A.in1 I fp wr G n P St) (S : Addr) (out : S ∉ fp)
    (ks : List Key) (len : ks.length = n) (small : n + 1 < scanBound) (are : ∀ i v, P i v → ∃ k, ks[i]? = some k ∧ RelV (kV k) v) :
    ∀ (m i : Nat) (st : Shared), n - i = m → i ≤ n → St i st →
      st.heap.SetOf (mixKind prog w) S (hasK (onceK [] (ks.take i))) (onceK [] (ks.take i)).length →
      (∀ st', Moved (S :: wr) G st st' → st'.heap.SetOf (mixKind prog w) S (hasK (onceK [] ks)) (onceK [] ks).length → Rs (.ok (.ret .none)) st') →
      codeAny (model prog w) A (.builtin "set.update.loop" ⟨[.ref S, .ref I], []⟩) Rs st := by
  have outW : S ∉ wr := fun z => out (W.sub _ z)
  have sub : ∀ b ∈ wr, b ∈ S :: wr := fun b z => List.mem_cons_of_mem _ z
  intro m
  induction m with
  | zero =>
    intro i st hm hi inst own done
    obtain rfl : i = n := by omega
    refine codeAny_builtin PyProof.Rows.F.entry_set_update_loop ?_
    rw [Around.under_plainId PyProof.Rows.F.plain_set_update_loop _]
    show wpAny _ A.in1 (pyNext (.ref I) >>= _) _ _ st
    refine wpAny_bind (W.done st _ _ inst fun st' mv => ?_)
    show wpAny _ A.in1 (ret Value.none) _ _ st'
    refine wpAny_pure (done st' (mv.mono sub) ?_)
    rw [← len, List.take_length] at own
    obtain ⟨o, es, ep, t, ho, more⟩ := own
    exact ⟨o, es, ep, t, mv.heap S _ outW ho, more⟩
  | succ m ih =>
    intro i st hm hi inst own done
    have lt : i < n := by omega
    refine codeAny_builtin PyProof.Rows.F.entry_set_update_loop ?_
    rw [Around.under_plainId PyProof.Rows.F.plain_set_update_loop _]
    show wpAny _ A.in1 (pyNext (.ref I) >>= _) _ _ st
    refine wpAny_bind (W.item i st _ _ lt inst fun v st' pv inst' mv => ?_)
    obtain ⟨k, hk, rk⟩ := are i v pv
    have own' : st'.heap.SetOf (mixKind prog w) S (hasK (onceK [] (ks.take i))) (onceK [] (ks.take i)).length := by
      obtain ⟨o, es, ep, tb, ho, more⟩ := own
      exact ⟨o, es, ep, tb, mv.heap S _ outW ho, more⟩
    have isk := kV_is (P := prog) (w := w) rk
    show wpAny _ A.in1 (holding [v] (setAdd S v) >>= _) _ _ st'
    refine wpAny_bind (wpAny_holding ?_)
    unfold setAdd
    refine wpAny_holding ?_
    refine wpAny_bind ((mixKind prog w).pyHash (k := k) isk ?_)
    have few : (onceK [] (ks.take i)).length + 1 < scanBound := by
      have a := onceK_len (ks.take i) []
      rw [List.length_take] at a
      simp only [List.length_nil] at a
      omega
    refine wpAny_setAddHashed_of (knd := mixKind prog w) (s := { st' with toks := st'.toks + 1 }) isk (key_scan rk) own' few fun h' sb now => ?_
    have next : onceK [] (ks.take (i + 1)) = if hasK (onceK [] (ks.take i)) k then onceK [] (ks.take i) else onceK [] (ks.take i) ++ [k] := by
      rw [← onceK_snoc, List.take_add_one, hk] <;> rfl
    have now' : h'.SetOf (mixKind prog w) S (hasK (onceK [] (ks.take (i + 1)))) (onceK [] (ks.take (i + 1))).length := by
      rw [next]
      have e1 : (fun q => hasK (onceK [] (ks.take i)) q || decide (q = k)) = hasK (if hasK (onceK [] (ks.take i)) k then onceK [] (ks.take i) else onceK [] (ks.take i) ++ [k]) := funext fun q => hasK_step _ k q
      have e2 : (if hasK (onceK [] (ks.take i)) k = true then (onceK [] (ks.take i)).length else (onceK [] (ks.take i)).length + 1) = (if hasK (onceK [] (ks.take i)) k then onceK [] (ks.take i) else onceK [] (ks.take i) ++ [k]).length := by
        by_cases z : hasK (onceK [] (ks.take i)) k = true
        · rw [if_pos z, if_pos z]
        · rw [if_neg z, if_neg z, List.length_append] <;> rfl
      rw [← e1, ← e2]
      exact now
    refine wpAny_pure ⟨plainId_quiet PyProof.Rows.F.plain_set_update_loop _, ih (i + 1) _ (by omega) lt (W.frame _ st' _ _ inst' (Nat.le_succ _) fun b hb o e => ?_) now' fun st2 mv2 own2 => ?_⟩
    · rw [sb.2 b (fun z : b = S => out (by rw [← z]; exact hb))]
      exact e
    · refine done st2 (Moved.trans W.gtrans ((mv.mono sub).then_heap (Nat.le_succ _) fun b o hb e => ?_) mv2) own2
      rw [sb.2 b (fun z : b = S => hb (by rw [z]; exact List.mem_cons_self))]
      exact e
theorem keys_at : ∀ {us : List Value} {ks : List Key}, Vals (ks.map kV) us → ∀ (i : Nat) (v : Value), us[i]? = some v → ∃ k, ks[i]? = some k ∧ RelV (kV k) v
  | _, [], .nil, i, v, e => by simp at e
  | _, k :: ks, .cons r rs, 0, v, e => by
    simp at e
    subst e
    exact ⟨k, rfl, r⟩
  | _, k :: ks, .cons r rs, i + 1, v, e => by
    obtain ⟨q, h1, h2⟩ := keys_at rs i v (by simpa using e)
    exact ⟨q, by simpa using h1, h2⟩
theorem call_setK {l : Addr} {items : Array Value} {ks : List Key} {Q : Value → Shared → Prop} (calm : A.handled = none) (hl : s.heap.IsList l items) (rel : Vals (ks.map kV) items.toList) (small : ks.length + 1 < scanBound)
    (k : ∀ (h' : Heap) (tk : Nat), h'.SetOf (mixKind prog w) s.heap.objs.size (hasK (onceK [] ks)) (onceK [] ks).length →
      (∀ b o, b < s.heap.objs.size → s.heap.get? b = some o → h'.get? b = some o) → Q (.ref s.heap.objs.size) { s with heap := h', toks := tk }) :
    wpAny (model prog w) A (call (.type "set") [.ref l]) Q E s := by
  obtain ⟨c, tl, hmro⟩ := PySem.F.called_set.mro
  have hmade := PySem.F.called_set.made
  have hsub := PySem.F.called_set.sub
  refine wpAny_call (codeAny_of_tree ?_)
  show wpAny _ _ (callAny (.type "set") _) _ _ _
  refine wpAny_pure ⟨Code.quiet_builtin _ (by decide +kernel), codeAny_builtin PySem.F.entry_type_call ?_⟩
  rw [Around.under_plain (weight_type_call_type "set" [.ref l] []) rfl]
  have f1 := PySem.F.called_set.notType
  have f2 := PySem.F.called_set.canCreate
  have f3 := PySem.F.typeCall_set_1 (.ref l)
  repeat (any_goals (first | assumption | wp_step))
  let fresh (led : Bool) : Obj := { cls := .type "set", dict := none, data := .set #[] 0 (.fresh 0 0 led) }
  refine codeAny_mono (code_set_new_1 (.ref l) (E := E) (Q₁ := fun ob st => ∃ led : Bool, ob = .ref s.heap.objs.size ∧ st = { s with heap := s.heap.push (fresh led) }) fun led => ⟨led, rfl, rfl⟩) fun r st hr => ?_
  match r, hr with
  | .error e, hr => exact hr
  | .ok .next, hr => exact hr.elim
  | .ok .brk, hr => exact hr.elim
  | .ok .cont, hr => exact hr.elim
  | .ok (.ret ob), ⟨led, e1, e2⟩ =>
    subst e1
    subst e2
    have at_ : (s.heap.push (fresh led)).get? s.heap.objs.size = some (fresh led) := Heap.get?_push_size _ rfl
    have ty : Shared.TypeIs { s with heap := s.heap.push (fresh led) } (.ref s.heap.objs.size) "set" := ⟨_, at_, rfl⟩
    have g1 := PySem.F.called_set.init.lookup
    have g2 := PySem.F.called_set.init.bind (.ref s.heap.objs.size)
    repeat (any_goals (first | assumption | wp_step))
    refine codeAny_mono (codeAny_call_builtin (R := wants (fun r s₂ => r = .none ∧ ∃ h' tk, s₂ = { s with heap := h', toks := tk } ∧
        h'.SetOf (mixKind prog w) s.heap.objs.size (hasK (onceK [] ks)) (onceK [] ks).length ∧ (∀ b o, b < s.heap.objs.size → s.heap.get? b = some o → h'.get? b = some o)) E) PySem.F.called_set.init.plain PySem.F.entry_set_init (check_set_init_1 ty ?_)) fun r2 st2 hr2 => ?_
    · obtain ⟨⟨ocls, odict, odata, oslots⟩, hol, hcl, nl, hdl⟩ := hl
      simp only at hcl hdl
      subst hcl
      subst hdl
      have hol' : (s.heap.push (fresh led)).get? l = some { cls := .type "list", dict := odict, data := .seq items nl, slots := oslots } := Heap.get?_push_of_some _ hol
      have n1 := PySem.F.sub_list_set
      have n2 := PySem.F.sub_list_frozenset
      have n3 : (Value.type "list" == Value.type "dict") = false := by decide
      have hl1 : (s.heap.push (fresh led)).IsList l items := ⟨_, hol', rfl, nl, rfl⟩
      unfold Builtin.«set.__init__» noKeywords Builtin.Frozenset.updateFrom
      generalize hPI : pyIter = PI
      wp_walk
      subst hPI
      refine wpAny_pyIter_list hl1 ?_
      refine wpAny_bind (wpAny_runValue ?_)
      have low : l < s.heap.objs.size := Heap.lt_size hol
      have calm3 : A.in1.in1.in1.handled = none := by simp [calm]
      have apart : l ≠ (s.heap.push (fresh led)).objs.size := by
        rw [Heap.size_push]
        exact Nat.ne_of_lt (Nat.lt_succ_of_lt low)
      have away : s.heap.objs.size ∉ [(s.heap.push (fresh led)).objs.size, l] := by
        rw [Heap.size_push]
        simp only [List.mem_cons, List.mem_singleton, List.not_mem_nil, or_false, not_or]
        exact ⟨Nat.ne_of_lt (Nat.lt_succ_self _), Nat.ne_of_gt low⟩
      have hlen : ks.length = items.size := by
        have := rel.length
        rw [List.length_map, Array.length_toList] at this
        exact this
      refine set_loopK ((Walks.list calm3 _ l apart items).toS) s.heap.objs.size away ks hlen (by rw [← hlen]; exact small) (fun i v hv => keys_at rel i v (by rw [Array.getElem?_toList]; exact hv)) (items.size - 0) 0 _ (by omega) (Nat.zero_le _)
        ⟨⟨_, Heap.get?_push_size _ rfl, rfl, rfl⟩, (hl1.push _)⟩ ?start ?stop
      case start =>
        have q : ((s.heap.push (fresh led)).push { cls := .type "list_iterator", data := .fields #[.ref l, .int 0 0] }).get? s.heap.objs.size = some (fresh led) := Heap.get?_push_of_some _ at_
        exact ⟨_, #[], 0, _, q, ⟨rfl, rfl, rfl⟩, rfl, (fun e he => by simp at he), (fun x => by simp [onceK]), (by decide), (by rfl), rfl⟩
      case stop =>
        rintro ⟨h', g', d', tk', os'⟩ mv own
        have eg : g' = s.gens := mv.gens
        have ed : d' = s.drawn := mv.drawn
        have eo : os' = s.os := mv.os
        subst eg ed eo
        show wpAny _ _ _ _ _ _
        refine wpAny_pure ?_
        show wpAny _ _ (ret Value.none) _ _ _
        refine wpAny_pure ⟨rfl, h', tk', rfl, own, fun b o hb e => ?_⟩
        have b1 : b ≠ s.heap.objs.size := Nat.ne_of_lt hb
        have b2 : b ≠ (s.heap.push (fresh led)).objs.size := by
          rw [Heap.size_push]
          exact Nat.ne_of_lt (Nat.lt_succ_of_lt hb)
        exact mv.heap b o (by simp only [List.mem_cons, List.mem_singleton, List.not_mem_nil, or_false, not_or]; exact ⟨b1, b2⟩) (Heap.get?_push_of_some _ (Heap.get?_push_of_some _ e))
    · match r2, hr2 with
      | .error e, hr2 => exact hr2
      | .ok .next, hr2 => exact hr2.elim
      | .ok .brk, hr2 => exact hr2.elim
      | .ok .cont, hr2 => exact hr2.elim
      | .ok (.ret r), ⟨e1, h', tk, e2, own, kept⟩ =>
        subst e1
        subst e2
        repeat (any_goals (first | assumption | wp_step))
        exact k _ _ own kept
end
end Mi

/-! Mi7: built-ins and methods. -/
namespace Mi
open PySem PySem.Spec PyProof.Rows L2
def bv : Bt → Value
  | .len => .builtin "len" | .int_ => .type "int" | .set_ => .type "set" | .repr_ => .builtin "repr" | .min2 => .builtin "min"
  | .str_ => .type "str"
  | .all_ => .builtin "all" | .any_ => .builtin "any" | .sum_ => .builtin "sum" | .tuple_ => .type "tuple" | .list_ _ => .type "list"
section
variable {B : Bg} {H : Hp} {ι : Own} {h : Hpa}
theorem sOk_string (x : String) : sOk (x : Str) := fun c hc => by
  have e : (x : Str).cps.toList = x.toList.map Char.toNat := by
    show (Str.ofString x).cps.toList = _
    rw [PySem.Str.ofString_eq_toList]
  rw [e] at hc
  obtain ⟨d, _, rfl⟩ := List.mem_map.mp hc
  have := d.valid
  simp only [UInt32.isValidChar, Nat.isValidChar] at this
  show d.val.toNat < 0x110000
  omega
theorem sOkB0_ok {s : Str} (e : sOkB0 s = true) : sOk s := fun c hc => of_decide_eq_true (List.all_eq_true.mp e c hc)
theorem Rws.one {w : W} {us : List V} (r : Rws B H ι [w] us) : ∃ u, us = [u] ∧ Rw B H ι w u := by
  cases r with
  | cons a b =>
    cases b
    exact ⟨_, rfl, a⟩
theorem Rws.two {w w' : W} {us : List V} (r : Rws B H ι [w, w'] us) : ∃ u u', us = [u, u'] ∧ Rw B H ι w u ∧ Rw B H ι w' u' := by
  cases r with
  | cons a b =>
    obtain ⟨u, rfl, c⟩ := b.one
    exact ⟨_, _, rfl, a, c⟩
theorem allI_V : ∀ {ws : List W} {us : List V} {ns : List Int}, allI ws = some ns → Rws B H ι ws us → us = ns.map V.int
  | [], _, _, e, .nil => by cases e; rfl
  | w :: ws, _, ns, e, .cons a b => by
    cases a with
    | int i =>
      have e : (allI ws).map (i :: ·) = some ns := e
      cases z : allI ws with
      | none => rw [z] at e; cases e
      | some ms =>
        rw [z] at e
        cases e
        rw [allI_V z b] <;> rfl
    | _ => cases e
theorem allB_V : ∀ {ws : List W} {us : List V} {ns : List Bool}, allB ws = some ns → Rws B H ι ws us → us = ns.map V.bl
  | [], _, _, e, .nil => by cases e; rfl
  | w :: ws, _, ns, e, .cons a b => by
    cases a with
    | bl i =>
      have e : (allB ws).map (i :: ·) = some ns := e
      cases z : allB ws with
      | none => rw [z] at e; cases e
      | some ms =>
        rw [z] at e
        cases e
        rw [allB_V z b] <;> rfl
    | _ => cases e
theorem allS_V : ∀ {ws : List W} {us : List V} {ns : List Str}, allS ws = some ns → Rws B H ι ws us → us = ns.map V.str ∧ ∀ x ∈ ns, sOk x
  | [], _, _, e, .nil => by cases e; exact ⟨rfl, fun _ z => nomatch z⟩
  | w :: ws, _, ns, e, .cons a b => by
    cases a with
    | str i hi =>
      have e : (allS ws).map (i :: ·) = some ns := e
      cases z : allS ws with
      | none => rw [z] at e; cases e
      | some ms =>
        rw [z] at e
        cases e
        obtain ⟨c, d⟩ := allS_V z b
        rw [c]
        exact ⟨rfl, fun x hx => by
          rcases List.mem_cons.mp hx with q | q
          · rw [q]; exact hi
          · exact d x q⟩
    | _ => cases e
theorem allK_V : ∀ {ws : List W} {us : List V} {ks : List Key}, allK ws = some ks → Rws B H ι ws us → us = ks.map kV ∧ ∀ x ∈ ks, kOk x
  | [], _, _, e, .nil => by cases e; exact ⟨rfl, fun _ z => nomatch z⟩
  | w :: ws, _, ks, e, .cons a b => by
    have e : (match keyOf w, allK ws with
      | some k, some ks => some (k :: ks)
      | _, _ => none) = some ks := e
    cases z1 : keyOf w with
    | none => rw [z1] at e; cases e
    | some k =>
      cases z2 : allK ws with
      | none => rw [z1, z2] at e; cases e
      | some ms =>
        rw [z1, z2] at e
        cases e
        obtain ⟨c, d⟩ := allK_V z2 b
        obtain ⟨c1, d1⟩ := keyOf_V a z1
        rw [c, c1]
        exact ⟨rfl, fun x hx => by
          rcases List.mem_cons.mp hx with q | q
          · rw [q]; exact d1
          · exact d x q⟩
theorem onceK_ok : ∀ (ks acc : List Key), (∀ k ∈ acc, kOk k) → (∀ k ∈ ks, kOk k) → ∀ k ∈ onceK acc ks, kOk k
  | [], _, ha, _ => ha
  | a :: ks, acc, ha, hk => by
    unfold onceK
    refine onceK_ok ks _ ?_ fun k z => hk k (List.mem_cons_of_mem _ z)
    split
    · exact ha
    · intro k z
      rcases List.mem_append.mp z with q | q
      · exact ha k q
      · have e : k = a := by simpa using q
        rw [e]
        exact hk a List.mem_cons_self
mutual
theorem noDict : ∀ d : PyData, d.canLay0 = true → d.hasDict = false
  | .none, _ => rfl
  | .bool _, _ => rfl
  | .int _, _ => rfl
  | .str _, _ => rfl
  | .list xs, h => by
    simp only [PyData.hasDict]
    exact noDicts xs (by simpa [PyData.canLay0] using h)
  | .tuple xs, h => by
    simp only [PyData.hasDict]
    exact noDicts xs (by simpa [PyData.canLay0] using h)
  | .dict _, h => by simp [PyData.canLay0] at h
theorem noDicts : ∀ ds : List PyData, PyData.canLayAll0 ds = true → PyData.hasDictAll ds = false
  | [], _ => rfl
  | d :: ds, h => by
    simp only [PyData.canLayAll0, Bool.and_eq_true] at h
    simp only [PyData.hasDictAll]
    rw [noDict d h.1, noDicts ds h.2]
    rfl
end
end
section
variable {X : Cx} {lo : Lv} {E : XP}
def rBl (X : Cx) (lo : Lv) (E : XP) (f : Bt) : List V → Hp → VK → Prop := fun us H Q => ∃ ι h ws, Hr (bgX X) H ι h ∧ Lo lo h ∧ Rws (bgX X) H ι ws us ∧ post (bgX X) lo (rW (bgX X)) E H ι (bltW h f ws) Q
theorem repr_run (hu : X.A.units + 65 < cLine) (gd : X.A.guards = some []) {pins : List (Addr × Obj)} {s : Shared} {σ : L2.St} {H : Hp} {u : V} {v : Value} {Q : VK} {ι : Own} {h : Hpa} {w : W} {d : PyData} (I : Inv X pins σ H s) (r : RelV u v) (hr : Hr (bgX X) H ι h)
    (rw_ : Rw (bgX X) H ι w u) (e : toD h DEP w = some d) (hs : d.showable = true) (hl : d.shown.length ≤ LIM) (q : Q (.str d.shown) H) : wpAny (model X.prog X.w) X.A (call (.builtin "repr") [v]) (EP X pins σ Q) X.xe s := by
  obtain ⟨dp, lay, dep⟩ := toD_ok hr DEP w u d e rw_
  have hl' : d.shown.length ≤ sizeLine := by rw [lim_eq]; exact hl
  obtain ⟨as, rd⟩ := Dp.reads I d u v dp r
  have refs : ∀ a, v = .ref a → wpAny (model X.prog X.w) X.A (call (.builtin "repr") [v]) (EP X pins σ Q) X.xe s := fun a ea => by
    subst ea
    have dep' : d.depth ≤ 20 := dep
    exact repr_of_reads' rd hs (fun z => by rw [noDict d lay] at z; cases z) gd (by omega) (fun _ _ z => z) (fun h' u' tk k => ⟨.str d.shown, H, I.kept (t' := tk) k, ⟨_, rfl⟩, q⟩) hl'
  cases rd with
  | none => exact PySem.P.repr_of_none ⟨.str _, H, I.tok _, ⟨_, rfl⟩, q⟩
  | bool b => exact PySem.P.repr_of_bool ⟨.str _, H, I.tok _, ⟨_, rfl⟩, q⟩
  | int i t => exact PySem.P.repr_of_int (by simpa [PyData.showable] using hs) ⟨.str _, H, I.tok _, ⟨_, rfl⟩, q⟩
  | str x t => exact PySem.P.repr_of_str ⟨.str _, H, I.tok _, ⟨_, rfl⟩, q⟩ hl'
  | list h1 h2 h3 h4 => exact refs _ rfl
  | tuple h1 h2 h3 h4 => exact refs _ rfl
  | dict h1 h2 h3 h4 h5 => exact refs _ rfl
theorem len_run {pins : List (Addr × Obj)} {s : Shared} {σ : L2.St} {H : Hp} {us : List V} {vs : List Value} {Q : VK} {ι : Own} {h : Hpa} {ws : List W} (I : Inv X pins σ H s) (r : Vals us vs) (hr : Hr (bgX X) H ι h) (l : Lo lo h) (rs : Rws (bgX X) H ι ws us)
    (p : post (bgX X) lo (rW (bgX X)) E H ι (bltW h .len ws) Q) : wpAny (model X.prog X.w) X.A (call (.builtin "len") vs) (EP X pins σ Q) X.xe s := by
  match ws, rs, p with
  | [], rs, p => exact p.elim
  | _ :: _ :: _, rs, p =>
    exfalso
    revert p
    rename_i a b c
    cases a <;> exact fun p => p.elim
  | [w], rs, p =>
    obtain ⟨u, rfl, rw_⟩ := rs.one
    have gen : bltW h .len [w] = (match asQ h w with
        | some xs => .ok (.int xs.length) h
        | none => .bad) → wpAny (model X.prog X.w) X.A (call (.builtin "len") vs) (EP X pins σ Q) X.xe s := fun e => by
      rw [e] at p
      cases z : asQ h w with
      | none =>
        rw [z] at p
        exact p.elim
      | some xs =>
        rw [z] at p
        obtain ⟨a, us, rfl, hs, rs2⟩ := asQ_ok hr rw_ z
        have q : Q (.int us.length) H := by
          rw [← rs2.length]
          exact p.ok hr l (.int _)
        refine call_len pins s σ H _ vs Q I r ⟨_, us.length, rfl, ?_, q⟩
        exact hs.elim (fun z => .inl ⟨us, z, rfl⟩) fun z => .inr ⟨us, z, rfl⟩
    cases rw_ with
    | str t ht =>
      have p : post (bgX X) lo (rW (bgX X)) E H ι (if t.length ≤ LIM then .ok (.int t.length) h else .bad) Q := p
      by_cases hl : t.length ≤ LIM
      · rw [if_pos hl] at p
        exact call_len pins s σ H _ vs Q I r ⟨_, t.length, rfl, ⟨by rw [lim_eq]; exact hl, rfl⟩, p.ok hr l (.int _)⟩
      · rw [if_neg hl] at p
        exact p.elim
    | @st ks a f hk =>
      have p : post (bgX X) lo (rW (bgX X)) E H ι (.ok (.int (ks.map kW).length) h) Q := p
      obtain ⟨v, rfl, rv⟩ := vals1 r
      have rv : v = Value.ref a := rv
      subst rv
      obtain ⟨o, es, ep, t, ho, hex, hd, _, _, bnd, hf, hn⟩ := setK_get I f.1
      refine call_len_set ho hex hd hf (by rw [hn]; have : ks.length < scanBound := by rw [← hn]; exact bnd
                                           unfold scanBound at this; omega) ⟨.int ks.length, H, I.tok _, ⟨_, by rw [hn]⟩, ?_⟩
      have q := p.ok hr l (.int _)
      rw [List.length_map] at q
      exact q
    | _ => exact gen rfl
theorem blt_ok (calm : X.calm = true) (hu : X.A.units + 65 < cLine) (gd : X.A.guards = some []) (f : Bt) : CallR X (bv f) (rBl X lo E f) := by
  intro pins s σ H us vs Q I r ⟨ι, h, ws, hr, l, rs, p⟩
  cases f with
  | len => exact len_run I r hr l rs p
  | int_ =>
    match ws, rs, p with
    | [], rs, p => exact p.elim
    | _ :: _ :: _, rs, p =>
      exfalso
      revert p
      rename_i a b c
      cases a <;> exact fun p => p.elim
    | [w], rs, p =>
      obtain ⟨u, rfl, rw_⟩ := rs.one
      cases rw_ with
      | int i => exact call_int1 pins s σ H _ vs Q I r (.inl ⟨i, rfl, p.ok hr l (.int _)⟩)
      | bl b => exact call_int1 pins s σ H _ vs Q I r (.inr ⟨b, rfl, p.ok hr l (.int _)⟩)
      | str t ht =>
        have p : post (bgX X) lo (rW (bgX X)) E H ι (match PySem.intText? t with
          | some n => if t.length ≤ 640 then .ok (.int n) h else .bad
          | none => .bad) Q := p
        cases z : PySem.intText? t with
        | none => rw [z] at p; exact p.elim
        | some n =>
          rw [z] at p
          have p : post (bgX X) lo (rW (bgX X)) E H ι (if t.length ≤ 640 then .ok (.int n) h else .bad) Q := p
          by_cases c : t.length ≤ 640
          · rw [if_pos c] at p
            exact call_int_str pins s σ H _ vs Q I r ⟨t, n, rfl, z, c, p.ok hr l (.int _)⟩
          · rw [if_neg c] at p
            exact p.elim
      | _ => exact p.elim
  | str_ =>
    match ws, rs, p with
    | [], rs, p => exact p.elim
    | _ :: _ :: _, rs, p =>
      exfalso
      revert p
      rename_i a b c
      cases a <;> exact fun p => p.elim
    | [w], rs, p =>
      obtain ⟨u, rfl, rw_⟩ := rs.one
      cases rw_ with
      | int i =>
        have p : post (bgX X) lo (rW (bgX X)) E H ι (if i.natAbs.log2 < 1920 then .ok (.str (toString i)) h else .bad) Q := p
        by_cases c : i.natAbs.log2 < 1920
        · rw [if_pos c] at p
          exact call_str_int pins s σ H _ vs Q I r ⟨i, rfl, c, p.ok hr l (.str _ (sOk_string _))⟩
        · rw [if_neg c] at p
          exact p.elim
      | _ => exact p.elim
  | min2 =>
    match ws, rs, p with
    | [], rs, p => exact p.elim
    | [_], rs, p =>
      exfalso
      revert p
      rename_i a
      cases a <;> exact fun p => p.elim
    | _ :: _ :: _ :: _, rs, p =>
      exfalso
      revert p
      rename_i a b c d
      cases a <;> cases b <;> exact fun p => p.elim
    | [w, w'], rs, p =>
      obtain ⟨u, u', rfl, ra, rb⟩ := rs.two
      cases ra with
      | int i =>
        cases rb with
        | int j => exact call_min2 calm pins s σ H _ vs Q I r ⟨i, j, rfl, p.ok hr l (.int _)⟩
        | _ => exact p.elim
      | _ => exact p.elim
  | repr_ =>
    match ws, rs, p with
    | [], rs, p => exact p.elim
    | _ :: _ :: _, rs, p => exact p.elim
    | [w], rs, p =>
      obtain ⟨u, rfl, rw_⟩ := rs.one
      obtain ⟨v, rfl, rv⟩ := vals1 r
      have p : post (bgX X) lo (rW (bgX X)) E H ι (match toD h DEP w with
        | some d => if d.showable = true ∧ d.shown.length ≤ LIM then .ok (.rep d.shown) h else .bad
        | none => .bad) Q := p
      cases z : toD h DEP w with
      | none =>
        rw [z] at p
        exact p.elim
      | some d =>
        rw [z] at p
        have p : post (bgX X) lo (rW (bgX X)) E H ι (if d.showable = true ∧ d.shown.length ≤ LIM then .ok (.rep d.shown) h else .bad) Q := p
        by_cases c : d.showable = true ∧ d.shown.length ≤ LIM
        · rw [if_pos c] at p
          exact repr_run hu gd I rv hr rw_ z c.1 c.2 (p.ok hr l (.rep _))
        · rw [if_neg c] at p
          exact p.elim
  | all_ =>
    match ws, rs, p with
    | [], rs, p => exact p.elim
    | _ :: _ :: _, rs, p => exact p.elim
    | [w], rs, p =>
      obtain ⟨u, rfl, rw_⟩ := rs.one
      have p : post (bgX X) lo (rW (bgX X)) E H ι (match (asL h w).bind allB with
        | some bs => .ok (.bl (bs.all id)) h
        | none => .bad) Q := p
      cases z : asL h w with
      | none => rw [z] at p; exact p.elim
      | some xs =>
        rw [z] at p
        have p : post (bgX X) lo (rW (bgX X)) E H ι (match allB xs with
          | some bs => .ok (.bl (bs.all id)) h
          | none => .bad) Q := p
        cases z2 : allB xs with
        | none => rw [z2] at p; exact p.elim
        | some bs =>
          rw [z2] at p
          obtain ⟨a, us, rfl, hs, rs2⟩ := asL_ok hr rw_ z
          have e := allB_V z2 rs2
          subst e
          exact cr_all calm pins s σ H _ vs Q I r ⟨a, bs, rfl, hs, p.ok hr l (.bl _)⟩
  | any_ =>
    match ws, rs, p with
    | [], rs, p => exact p.elim
    | _ :: _ :: _, rs, p => exact p.elim
    | [w], rs, p =>
      obtain ⟨u, rfl, rw_⟩ := rs.one
      have p : post (bgX X) lo (rW (bgX X)) E H ι (match (asL h w).bind allB with
        | some bs => .ok (.bl (bs.any id)) h
        | none => .bad) Q := p
      cases z : asL h w with
      | none => rw [z] at p; exact p.elim
      | some xs =>
        rw [z] at p
        have p : post (bgX X) lo (rW (bgX X)) E H ι (match allB xs with
          | some bs => .ok (.bl (bs.any id)) h
          | none => .bad) Q := p
        cases z2 : allB xs with
        | none => rw [z2] at p; exact p.elim
        | some bs =>
          rw [z2] at p
          obtain ⟨a, us, rfl, hs, rs2⟩ := asL_ok hr rw_ z
          have e := allB_V z2 rs2
          subst e
          exact cr_any calm pins s σ H _ vs Q I r ⟨a, bs, rfl, hs, p.ok hr l (.bl _)⟩
  | sum_ =>
    match ws, rs, p with
    | [], rs, p => exact p.elim
    | _ :: _ :: _, rs, p => exact p.elim
    | [w], rs, p =>
      obtain ⟨u, rfl, rw_⟩ := rs.one
      have p : post (bgX X) lo (rW (bgX X)) E H ι (match (asL h w).bind allI with
        | some bs => .ok (.int bs.sum) h
        | none => .bad) Q := p
      cases z : asL h w with
      | none => rw [z] at p; exact p.elim
      | some xs =>
        rw [z] at p
        have p : post (bgX X) lo (rW (bgX X)) E H ι (match allI xs with
          | some bs => .ok (.int bs.sum) h
          | none => .bad) Q := p
        cases z2 : allI xs with
        | none => rw [z2] at p; exact p.elim
        | some bs =>
          rw [z2] at p
          obtain ⟨a, us, rfl, hs, rs2⟩ := asL_ok hr rw_ z
          have e := allI_V z2 rs2
          subst e
          exact cr_sum calm pins s σ H _ vs Q I r ⟨a, bs, rfl, hs, p.ok hr l (.int _)⟩
  | tuple_ =>
    match ws, rs, p with
    | [], rs, p => exact p.elim
    | _ :: _ :: _, rs, p => exact p.elim
    | [w], rs, p =>
      obtain ⟨u, rfl, rw_⟩ := rs.one
      have p : post (bgX X) lo (rW (bgX X)) E H ι (match asQ h w with
        | some xs => mkT xs h
        | none => .bad) Q := p
      cases z : asQ h w with
      | none => rw [z] at p; exact p.elim
      | some xs =>
        rw [z] at p
        have p : post (bgX X) lo (rW (bgX X)) E H ι (mkT xs h) Q := p
        by_cases k : ∃ ys, w = .tup ys
        · obtain ⟨ys, rfl⟩ := k
          have z : ys = xs := Option.some.inj z
          subst z
          cases rw_ with
          | tup f rs2 => exact call_tuple_of pins s σ H _ vs Q I r ⟨_, _, rfl, .inr ⟨f.sq, mkT_is p hr l (.tup f rs2)⟩⟩
        · have z' : asL h w = some xs := by
            cases w with
            | tup ys => exact absurd ⟨ys, rfl⟩ k
            | _ => exact z
          obtain ⟨a, us, rfl, hs, rs2⟩ := asL_ok hr rw_ z'
          exact call_tuple_of pins s σ H _ vs Q I r ⟨a, us, rfl, .inl ⟨hs, fun q hq => mkT_at p hr l rs2 hq⟩⟩
  | list_ m =>
    match ws, rs, p with
    | [], rs, p => exact p.elim
    | _ :: _ :: _, rs, p => exact p.elim
    | [w], rs, p =>
      obtain ⟨u, rfl, rw_⟩ := rs.one
      have p : post (bgX X) lo (rW (bgX X)) E H ι (match asQ h w with
        | some xs => mkL m xs h
        | none => .bad) Q := p
      cases z : asQ h w with
      | none => rw [z] at p; exact p.elim
      | some xs =>
        rw [z] at p
        obtain ⟨a, us, rfl, hs, rs2⟩ := asQ_ok hr rw_ z
        exact call_list_of pins s σ H _ vs Q I r ⟨a, us, rfl, hs, fun q hq => mkL_at p hr l rs2 hq⟩
  | set_ =>
    match ws, rs, p with
    | [], rs, p => exact p.elim
    | _ :: _ :: _, rs, p => exact p.elim
    | [w], rs, p =>
      obtain ⟨u, rfl, rw_⟩ := rs.one
      obtain ⟨v, rfl, rv⟩ := vals1 r
      have p : post (bgX X) lo (rW (bgX X)) E H ι (match (asL h w).bind allK with
        | some ks => if ks.length ≤ 4000 then .ok (.st ((onceK [] ks).map kW)) h else .bad
        | none => .bad) Q := p
      cases z : asL h w with
      | none => rw [z] at p; exact p.elim
      | some xs =>
        rw [z] at p
        have p : post (bgX X) lo (rW (bgX X)) E H ι (match allK xs with
          | some ks => if ks.length ≤ 4000 then .ok (.st ((onceK [] ks).map kW)) h else .bad
          | none => .bad) Q := p
        cases z2 : allK xs with
        | none => rw [z2] at p; exact p.elim
        | some ks =>
          rw [z2] at p
          have p : post (bgX X) lo (rW (bgX X)) E H ι (if ks.length ≤ 4000 then .ok (.st ((onceK [] ks).map kW)) h else .bad) Q := p
          by_cases c : ks.length ≤ 4000
          · rw [if_pos c] at p
            obtain ⟨a, us, rfl, hs, rs2⟩ := asL_ok hr rw_ z
            obtain ⟨e, hk⟩ := allK_V z2 rs2
            subst e
            have rv : v = Value.ref a := rv
            subst rv
            obtain ⟨its, ri, pl, _⟩ := I.list hs
            refine call_setK (I.ok.hd calm) pl.isList (by simpa using ri) (by unfold scanBound; omega) fun h' tk own kept => ?_
            have free : H s.heap.objs.size = none := I.hok.fresh (Nat.le_refl _)
            refine ⟨.ref s.heap.objs.size, upd H s.heap.objs.size (SetS (bgX X) s.heap.objs.size (onceK [] ks)), I.laid (t' := tk) (fun b o e => kept b o (Heap.lt_size e) e) (Nat.le_refl _) (setK_new own), rfl, ?_⟩
            refine p _ ι _ (Xt.new free hr) (hr.new free) l (.st ⟨upd_same, hr.fresh free⟩ (onceK_ok ks [] (fun _ z => nomatch z) hk))
          · rw [if_neg c] at p
            exact p.elim
end
end Mi

/-! Mi8: the checker (is an expression of the program's text this one of ours?), what stands around. -/
namespace Mi
open PySem PySem.Spec PyProof.Rows L2
/-! ### the checker -/
/-- the module's names: its defs, its constants -/
structure Gm where
  fn : List (Nat × Str)
  cs : List (Nat × Str)
def visB (sc : Scope) (x : Str) : Bool := match sc.names.lookup x with
  | some .local => true
  | some .cell => true
  | some .free => true
  | _ => false
def glB (sc : Scope) (x : Str) : Bool := match sc.names.lookup x with
  | some .globalImplicit => true
  | _ => false
def okX (x : Str) : Bool := !(x == ("__debug__" : Str)) && !(x == ("__classdict__" : Str)) && !(x == ("__name__" : Str))
def ckO : O2 → Operator → Bool
  | .add, .Add => true | .sub, .Sub => true | .mul, .Mult => true | .fdiv, .FloorDiv => true | .mod, .Mod => true | .pow, .Pow => true | _, _ => false
def ckC : C2 → CmpOp → Bool
  | .eq, .Eq => true | .ne, .NotEq => true | .lt, .Lt => true | .le, .LtE => true | .gt, .Gt => true | .ge, .GtE => true | .isin, .In => true | .notin, .NotIn => true | _, _ => false
def bName : Bt → Str
  | .len => "len" | .int_ => "int" | .set_ => "set" | .repr_ => "repr" | .min2 => "min" | .all_ => "all" | .any_ => "any" | .sum_ => "sum" | .tuple_ => "tuple" | .list_ _ => "list" | .str_ => "str"
def tyN : Ty → Str
  | .int => "int" | .str => "str" | .bool => "bool" | .tuple => "tuple" | .list => "list" | .dict => "dict"
def bNames : List Str := ["len", "int", "set", "repr", "min", "all", "any", "sum", "tuple", "list", "range", "enumerate", "zip", "str", "isinstance", "bool", "dict"]
def mName : Mt → Str
  | .append => "append" | .get2 => "get" | .join => "join" | .index => "index" | .split => "split" | .startswith => "startswith" | .partition => "partition"
def mLen : Mt → Nat
  | .append => 1 | .get2 => 2 | .join => 1 | .index => 1 | .split => 1 | .startswith => 1 | .partition => 1
def mOk : Mt → Bool
  | .index => false
  | _ => true
/-- not a call of no argument (super's) -/
def baseB : Expr → Bool
  | .Call _ [] _ _ => false
  | _ => true
/-- what enumerate and zip give goes to a written tuple -/
def tgI : It → Expr → Bool
  | .enm _, .Tuple _ _ _ => true
  | .enm _, _ => false
  | .zip _ _, .Tuple _ _ _ => true
  | .zip _ _, _ => false
  | _, _ => true
def sOkB (s : Str) : Bool := s.cps.toList.all fun c => decide (c < 0x110000)
def ckKey : Key → Option Expr → Bool
  | .inr s, some (.Constant (.str t) _ _) => decide (s = t) && sOkB s
  | .inl i, some (.Constant (.int j) _ _) => decide (i = j)
  | _, _ => false
def ckKeys : List Key → List (Option Expr) → Bool
  | [], [] => true
  | k :: ks, e :: es => ckKey k e && ckKeys ks es
  | _, _ => false
/-- a target in a scope; in a block only its own names -/
def locB (blk : Bool) (sc : Scope) (x : Str) : Bool := match sc.names.lookup x with
  | some .local => true
  | some .cell => !blk
  | _ => false
def ckNames (N : List Str) (sc : Scope) (blk : Bool) : List Nat → List Expr → Bool
  | [], [] => true
  | i :: is, .Name x _ :: es => decide (N[i]? = some x) && locB blk sc x && ckNames N sc blk is es
  | _, _ => false
def ckTg (N : List Str) (sc : Scope) (blk : Bool) : Tg → Expr → Bool
  | .nm i, .Name x _ => decide (N[i]? = some x) && locB blk sc x
  | .tp is, .Tuple es _ _ => ckNames N sc blk is es
  | _, _ => false
def ownOf (N : List Str) (is : List Nat) : List (Str × Nat) := is.filterMap fun i => (N[i]?).map fun x => (x, i)
def pureX : Expr → Bool
  | .Tuple _ _ _ => true
  | _ => false
def plainY : Expr → Bool
  | .BoolOp _ _ _ | .BinOp _ _ _ _ | .UnaryOp _ _ _ | .IfExp _ _ _ _ | .Dict _ _ _ | .ListComp _ _ _ _ | .Compare _ _ _ _ | .Call _ _ _ _ | .Constant _ _ _ | .Attribute _ _ _ | .Subscript _ _ _ | .Name _ _ | .List _ _ | .Tuple _ _ _ => true
  | _ => false
mutual
def ckE (G : Gm) (N : List Str) (sc : Scope) : E → Expr → Bool
  | .var i, .Name x _ => decide (N[i]? = some x) && visB sc x && okX x
  | .cst k, .Name x _ => decide (G.cs.lookup k = some x) && glB sc x && okX x
  | .non, .Constant .none _ _ => true
  | .bl b, .Constant (.bool c) _ _ => b == c
  | .int i, .Constant (.int j) _ _ => decide (i = j)
  | .str s, .Constant (.str t) _ _ => decide (s = t) && sOkB s
  | .tup es, .Tuple xs _ _ => ckEs G N sc es xs
  | .lst _ es, .List xs _ => ckEs G N sc es xs
  | .dsp _ ks es, .Dict keys vals _ => ckKeys ks keys && ckEs G N sc es vals && !ks.isEmpty && decide (keys.length = vals.length) && decide (keys.length ≤ 15)
  | .op o a b, .BinOp x p y _ => ckO o p && ckE G N sc a x && ckE G N sc b y
  | .neg a, .UnaryOp .USub x _ => ckE G N sc a x
  | .not a, .UnaryOp .Not x _ => ckE G N sc a x
  | .one a, .BoolOp _ [x] _ => ckE G N sc a x
  | .and a b, .BoolOp .And (x :: y :: r) p => ckE G N sc a x && ckE G N sc b (.BoolOp .And (y :: r) p)
  | .or a b, .BoolOp .Or (x :: y :: r) p => ckE G N sc a x && ckE G N sc b (.BoolOp .Or (y :: r) p)
  | .cmp c a b, .Compare x [p] [y] _ => ckC c p && ckE G N sc a x && ckE G N sc b y
  | .chain c d a b e, .Compare x [p, q] [y, z] _ => ckC c p && ckC d q && ckE G N sc a x && ckE G N sc b y && ckE G N sc e z
  | .isN a, .Compare x [.Is] [.Constant .none _ _] _ => ckE G N sc a x
  | .notN a, .Compare x [.IsNot] [.Constant .none _ _] _ => ckE G N sc a x
  | .ite c a b, .IfExp z x y _ => ckE G N sc c z && ckE G N sc a x && ckE G N sc b y
  | .call f es, .Call (.Name x _) xs [] _ => decide (G.fn.lookup f = some x) && glB sc x && okX x && ckEs G N sc es xs
  | .blt f es, .Call (.Name x _) xs [] _ => decide (x = bName f) && glB sc x && ckEs G N sc es xs && !xs.isEmpty
  | .mth f o es, .Call (.Attribute ox nm ap) xs [] cp => decide (nm = mName f) && mOk f && ckE G N sc o ox && ckEs G N sc es xs && (ap.endLine == cp.line) && decide (xs.length = mLen f) && baseB ox
  | .no, e => plainY e
  | .inst t a, .Call (.Name x _) [y, .Name z _] [] _ => decide (x = ("isinstance" : Str)) && decide (z = tyN t) && glB sc x && glB sc z && ckE G N sc a y
  | .isB b a, .Compare x [.Is] [.Constant (.bool c) _ _] _ => (b == c) && ckE G N sc a x
  | .rev a, .Subscript x (.Slice none none (some (.UnaryOp .USub (.Constant (.int c) _ _) _)) _) _ => decide (c = 1) && ckE G N sc a x
  | .idx o i, .Subscript x y _ => ckE G N sc o x && ckE G N sc i y
  | .slc o lo hi, .Subscript x (.Slice l u none _) _ => ckE G N sc o x && (match l with | none => isNo lo | some z => !isNo lo && ckE G N sc lo z) && (match u with | none => isNo hi | some z => !isNo hi && ckE G N sc hi z)
  | .comp _ elt t it c, .ListComp x gs scope _ => (match gs with
    | [g] => decide (g.is_async = 0) && ckI G N sc it g.iter && tgI it g.target && blkC N sc scope (ownOf N (tgs t)) && decide ((ownOf N (tgs t)).map (·.2) = tgs t) && ckTg N (relS scope sc) true t g.target && (match g.ifs with
      | [] => (match c with
        | .bl true => true
        | _ => false)
      | [z] => ckE G N (relS scope sc) c z
      | _ => false) && ckE G N (relS scope sc) elt x
    | _ => false)
  | _, _ => false
termination_by structural m => m
def ckEs (G : Gm) (N : List Str) (sc : Scope) : Es → List Expr → Bool
  | .nil, [] => true
  | .cons e es, x :: xs => ckE G N sc e x && ckEs G N sc es xs
  | _, _ => false
termination_by structural m => m
def ckI (G : Gm) (N : List Str) (sc : Scope) : It → Expr → Bool
  | .rng1 a, .Call (.Name x _) [y] [] _ => decide (x = ("range" : Str)) && glB sc x && ckE G N sc a y
  | .rng2 a b, .Call (.Name x _) [y, z] [] _ => decide (x = ("range" : Str)) && glB sc x && ckE G N sc a y && ckE G N sc b z
  | .enm e, .Call (.Name x _) [y] [] _ => decide (x = ("enumerate" : Str)) && glB sc x && ckE G N sc e y
  | .zip a b, .Call (.Name x _) [y, z] [] _ => decide (x = ("zip" : Str)) && glB sc x && ckE G N sc a y && ckE G N sc b z
  | .of e, x => ckE G N sc e x
  | _, _ => false
termination_by structural m => m
end
/-! ### plain expressions -/
def plainX : Expr → Bool
  | .BoolOp _ _ _ | .BinOp _ _ _ _ | .UnaryOp _ _ _ | .IfExp _ _ _ _ | .Dict _ _ _ | .ListComp _ _ _ _ | .Compare _ _ _ _ | .Call _ _ _ _ | .Constant _ _ _ | .Attribute _ _ _ | .Subscript _ _ _ | .Name _ _ | .List _ _ | .Tuple _ _ _ => true
  | _ => false
theorem ck_plain {G : Gm} {N : List Str} {sc : Scope} {m : E} {e : Expr} (h : ckE G N sc m e = true) : plainX e = true := by
  cases e <;> first | rfl | (cases m <;> simp [ckE, plainY] at h)
theorem star_cons {e : Expr} (h : plainX e = true) (es : List Expr) (env : PySem.Env) : starEach (e :: es) env = (false, eval e env) :: starEach es env := by
  cases e <;> first | rfl | cases h
theorem ckEs_plain {G : Gm} {N : List Str} {sc : Scope} : ∀ {ms : Es} {xs : List Expr}, ckEs G N sc ms xs = true → xs.all plainX = true
  | .nil, [], _ => rfl
  | .cons e es, x :: xs, h => by
    have h' := Bool.and_eq_true_iff.mp (show (ckE G N sc e x && ckEs G N sc es xs) = true from h)
    rw [List.all_cons, ck_plain h'.1, ckEs_plain h'.2]
    rfl
  | .nil, _ :: _, h => by cases h
  | .cons _ _, [], h => by cases h
theorem star_any {pos : Pos} {env : PySem.Env} : ∀ {xs : List Expr}, xs.all plainX = true → (backTo pos (starEach xs env)).any (·.1) = false
  | [], _ => rfl
  | x :: xs, h => by
    have h' := Bool.and_eq_true_iff.mp (show (plainX x && xs.all plainX) = true from h)
    rw [star_cons h'.1]
    show (false || (backTo pos (starEach xs env)).any (·.1)) = false
    rw [star_any h'.2]
    rfl
theorem star_all {pos : Pos} {env : PySem.Env} : ∀ {xs : List Expr}, xs.all plainX = true → (backTo pos (starEach xs env)).all (fun x => !x.1) = true
  | [], _ => rfl
  | x :: xs, h => by
    have h' := Bool.and_eq_true_iff.mp (show (plainX x && xs.all plainX) = true from h)
    rw [star_cons h'.1]
    show (true && (backTo pos (starEach xs env)).all (fun x => !x.1)) = true
    rw [star_all h'.2]
    rfl
theorem plain_fold {e : Expr} (h : plainX e = true) (env : PySem.Env) (x : Value) : foldedSetIterable e env x = pure x := by
  cases e <;> first | rfl | cases h
theorem plain_mark {e : Expr} (h : plainX e = true) (op : CmpOp) : behindInMarks op e = false := by
  cases e <;> first | rfl | cases h
theorem plain_ix {e : Expr} (h : plainX e = true) : PlainIx e := by
  cases e <;> first | (exact fun _ _ => rfl) | cases h
/-! ### what stands around -/
/-- the wish at a raise, as XP -/
def xW (xr : Exn → Hp → Value → Option Addr → Prop) (F : XK) : XP := fun x H _ _ => ∀ cls d, xr x H cls d → F cls d H
/-- what callF tells of a def -/
def spM (xr : Exn → Hp → Value → Option Addr → Prop) (B : Bg) (P : Pg) (n i : Nat) : Sp := fun vs H Q F => ∃ ι h ws lo, Hr B H ι h ∧ Lo lo h ∧ Rws B H ι ws vs ∧ post B lo (rW B) (xW xr F) H ι (callF P n lo i ws h) Q
structure Ok (xr : Exn → Hp → Value → Option Addr → Prop) (G : Gm) (P : Pg) (N : List Str) (sc : Scope) (blk : Bool) (n : Nat) (X : Cx) : Prop where
  nm : X.N = N
  nd : N.Nodup
  sc : X.env.scope = sc
  fnc : blk = false → ∀ x, X.fn x = true
  calm : X.calm = true
  room : Room n X.A
  gd : X.A.guards = some []
  blt : ∀ x ∈ bNames, X.mg x = none
  fns : ∀ i x, G.fn.lookup i = some x → ∃ f np, X.mg x = some (.ref f) ∧ PySem.W.keepIn X.K (.ref f) = true ∧ FnG X.prog X.w X.K X.mg X.base n f np (spM xr (bgX X) P n i)
  cst : ∀ i x w, G.cs.lookup i = some x → P.cst i = some w → ∃ u v, X.mg x = some u ∧ RelV v u ∧ ∀ H ι, Rw (bgX X) H ι w v
theorem Ok.hu {xr : Exn → Hp → Value → Option Addr → Prop} {G : Gm} {P : Pg} {N : List Str} {sc : Scope} {blk : Bool} {n : Nat} {X : Cx} (o : Ok xr G P N sc blk n X) : X.A.units + 65 < cLine := by
  have := o.room.un
  omega
/-! ### readings -/
section
variable (xr : Exn → Hp → Value → Option Addr → Prop) (X : Cx) (lo : Lv) (U : WX)
def tE (m : Env → Hpa → R W) : TE := fun σ H Q => ∃ ι v h, Hr (bgX X) H ι h ∧ Lo lo h ∧ Er (bgX X) H ι v σ ∧ post (bgX X) lo (rW (bgX X)) (xW xr (WE U σ)) H ι (m v h) Q
def tEs (m : Env → Hpa → R (List W)) : TA := fun σ H Q => ∃ ι v h, Hr (bgX X) H ι h ∧ Lo lo h ∧ Er (bgX X) H ι v σ ∧ post (bgX X) lo (rWs (bgX X)) (xW xr (WE U σ)) H ι (m v h) Q
abbrev rBo : Hp → Own → Bool → Bool → Prop := fun _ _ a b => a = b
def tT (m : Env → Hpa → R W) : TT := fun σ H Q => ∃ ι v h, Hr (bgX X) H ι h ∧ Lo lo h ∧ Er (bgX X) H ι v σ ∧ post (bgX X) lo rBo (xW xr (WE U σ)) H ι ((m v h).bind fun x h1 => ofO (asB x) h1) Q
structure SdE (e : Expr) (m : Env → Hpa → R W) : Prop where
  pe : PE X e (tE xr X lo U m)
  pt : PT X e (tT xr X lo U m)
  pw : ∀ op vs pos, e = .BoolOp op vs pos → PW X e (tT xr X lo U m)
end
theorem _root_.L2.PE.imp {X : Cx} {e : Expr} {t t' : TE} (h : PE X e t) (k : ∀ σ H Q, t' σ H Q → t σ H Q) : PE X e t' := ⟨fun pins s σ H Q I q => h.run pins s σ H Q I (k σ H Q q)⟩
theorem _root_.L2.PT.imp {X : Cx} {e : Expr} {t t' : TT} (h : PT X e t) (k : ∀ σ H Q, t' σ H Q → t σ H Q) : PT X e t' := ⟨fun pins s σ H Q I q => h.run pins s σ H Q I (k σ H Q q)⟩
theorem _root_.L2.PW.imp {X : Cx} {e : Expr} {t t' : TT} (h : PW X e t) (k : ∀ σ H Q, t' σ H Q → t σ H Q) : PW X e t' := ⟨fun wh pins s σ H Q I q => h.run wh pins s σ H Q I (k σ H Q q)⟩
theorem _root_.L2.PA.imp {X : Cx} {es : List Expr} {t t' : TA} (h : PA X es t) (k : ∀ σ H Q, t' σ H Q → t σ H Q) : PA X es t' := ⟨fun pos pins s σ H Q I q => h.run pos pins s σ H Q I (k σ H Q q)⟩
end Mi

/-! Mi9: each form of expression, by the readings of its parts. -/
namespace Mi
open PySem PySem.Spec PyProof.Rows L2
section
variable {xr : Exn → Hp → Value → Option Addr → Prop} {X : Cx} {lo : Lv} {U : WX} {σ : L2.St} {H : Hp} {ι : Own} {v : Env} {h : Hpa} {γ δ : Type}
theorem tE.mono {m : Env → Hpa → R W} {Q Q' : VK} (p : tE xr X lo U m σ H Q) (k : ∀ u H', Q u H' → Q' u H') : tE xr X lo U m σ H Q' := by
  obtain ⟨ι, v, h, a, b, c, d⟩ := p
  exact ⟨ι, v, h, a, b, c, d.mono k⟩
theorem tEs.mono {m : Env → Hpa → R (List W)} {Q Q' : List V → Hp → Prop} (p : tEs xr X lo U m σ H Q) (k : ∀ u H', Q u H' → Q' u H') : tEs xr X lo U m σ H Q' := by
  obtain ⟨ι, v, h, a, b, c, d⟩ := p
  exact ⟨ι, v, h, a, b, c, d.mono k⟩
theorem tT.mono {m : Env → Hpa → R W} {Q Q' : Bool → Hp → Prop} (p : tT xr X lo U m σ H Q) (k : ∀ u H', Q u H' → Q' u H') : tT xr X lo U m σ H Q' := by
  obtain ⟨ι, v, h, a, b, c, d⟩ := p
  exact ⟨ι, v, h, a, b, c, d.mono k⟩
/-- what stands when a part has been evaluated -/
structure St1 (X : Cx) (lo : Lv) (H : Hp) (ι : Own) (v : Env) (σ : L2.St) (H1 : Hp) (ι1 : Own) (h1 : Hpa) : Prop where
  hr : Hr (bgX X) H1 ι1 h1
  lo : Lo lo h1
  er : Er (bgX X) H1 ι1 v σ
  xt : Xt H ι H1 ι1
theorem seqE {m : Env → Hpa → R W} {f : W → Hpa → R γ} {rel' : Hp → Own → γ → δ → Prop} {Q : δ → Hp → Prop} (hr : Hr (bgX X) H ι h) (l : Lo lo h) (er : Er (bgX X) H ι v σ)
    (p : post (bgX X) lo rel' (xW xr (WE U σ)) H ι ((m v h).bind f) Q) :
    tE xr X lo U m σ H fun u H1 => ∃ x ι1 h1, St1 X lo H ι v σ H1 ι1 h1 ∧ Rw (bgX X) H1 ι1 x u ∧ post (bgX X) lo rel' (xW xr (WE U σ)) H1 ι1 (f x h1) Q :=
  ⟨ι, v, h, hr, l, er, (post.bind p).mono fun u H1 ⟨x, ι1, h1, a, b, c, d, e⟩ => ⟨x, ι1, h1, ⟨b, c, er.mono a, a⟩, d, e⟩⟩
theorem seqEs {m : Env → Hpa → R (List W)} {f : List W → Hpa → R γ} {rel' : Hp → Own → γ → δ → Prop} {Q : δ → Hp → Prop} (hr : Hr (bgX X) H ι h) (l : Lo lo h) (er : Er (bgX X) H ι v σ)
    (p : post (bgX X) lo rel' (xW xr (WE U σ)) H ι ((m v h).bind f) Q) :
    tEs xr X lo U m σ H fun u H1 => ∃ x ι1 h1, St1 X lo H ι v σ H1 ι1 h1 ∧ Rws (bgX X) H1 ι1 x u ∧ post (bgX X) lo rel' (xW xr (WE U σ)) H1 ι1 (f x h1) Q :=
  ⟨ι, v, h, hr, l, er, (post.bind p).mono fun u H1 ⟨x, ι1, h1, a, b, c, d, e⟩ => ⟨x, ι1, h1, ⟨b, c, er.mono a, a⟩, d, e⟩⟩
theorem asB_some {x : W} {b : Bool} (e : asB x = some b) : x = .bl b := by
  cases x <;> simp [asB] at e
  rw [e]
theorem Rw.ofBl {B : Bg} {b : Bool} {u : V} (r : Rw B H ι (.bl b) u) : u = .bl b := by
  cases r
  rfl
theorem seqT {m : Env → Hpa → R W} {F : W → Hpa → R γ} {G : Bool → Hpa → R γ} {rel' : Hp → Own → γ → δ → Prop} {Q : δ → Hp → Prop} (hr : Hr (bgX X) H ι h) (l : Lo lo h) (er : Er (bgX X) H ι v σ)
    (p : post (bgX X) lo rel' (xW xr (WE U σ)) H ι ((m v h).bind F) Q) (e1 : ∀ b h1, F (.bl b) h1 = G b h1) (e0 : ∀ x h1, asB x = none → F x h1 = .bad) :
    tT xr X lo U m σ H fun b H1 => ∃ ι1 h1, St1 X lo H ι v σ H1 ι1 h1 ∧ post (bgX X) lo rel' (xW xr (WE U σ)) H1 ι1 (G b h1) Q := by
  refine ⟨ι, v, h, hr, l, er, ?_⟩
  cases hm : m v h with
  | bad => rw [hm] at p; exact p
  | ex x h' => rw [hm] at p; exact p
  | ok x h1 =>
    rw [hm] at p
    have p : post (bgX X) lo rel' (xW xr (WE U σ)) H ι (F x h1) Q := p
    show post (bgX X) lo rBo (xW xr (WE U σ)) H ι (ofO (asB x) h1) _
    cases hb : asB x with
    | none => rw [e0 x h1 hb] at p; exact p
    | some b =>
      have ex := asB_some hb
      subst ex
      rw [e1] at p
      intro H' ι' u xt hr' l' e
      have e : b = u := e
      subst e
      exact ⟨ι', h1, ⟨hr', l', er.mono xt, xt⟩, p.from xt⟩
/-- as a test, by the value -/
theorem tT_tB {m : Env → Hpa → R W} {Q : Bool → Hp → Prop} (p : tT xr X lo U m σ H Q) : tE xr X lo U m σ H fun x H1 => ∃ c, x = .bl c ∧ Q c H1 := by
  obtain ⟨ι, v, h, hr, l, er, p⟩ := p
  refine (seqE hr l er p).mono fun u H1 ⟨x, ι1, h1, s1, r, q⟩ => ?_
  cases hb : asB x with
  | none => rw [hb] at q; exact q.elim
  | some b =>
    rw [hb] at q
    have ex := asB_some hb
    subst ex
    exact ⟨b, r.ofBl, q.ok s1.hr s1.lo rfl⟩
def boolX : Expr → Bool
  | .BoolOp _ _ _ => true
  | _ => false
theorem SdE.mk2 {e : Expr} {m : Env → Hpa → R W} (pe : PE X e (tE xr X lo U m)) (pt : PT X e (tT xr X lo U m)) (nb : boolX e = false) : SdE xr X lo U e m :=
  ⟨pe, pt, fun op vs pos q => by subst q; cases nb⟩
theorem SdE.plain {e : Expr} {m : Env → Hpa → R W} (pe : PE X e (tE xr X lo U m)) (he : ∀ whole, isTrue e X.env whole = (do let v ← whole; standAt e.pos; holding [v] (truthy v))) (nb : boolX e = false) : SdE xr X lo U e m :=
  .mk2 pe ((pt_val pe he).imp fun σ H Q q => tT_tB q) nb

/-! ### names, constants -/
theorem visB_ok {sc : Scope} {x : Str} (e : visB sc x = true) : Vis sc x := by
  unfold visB at e
  split at e
  · exact .inl (by assumption)
  · exact .inr (.inl (by assumption))
  · exact .inr (.inr (by assumption))
  · cases e
theorem glB_ok {x : Str} (e : glB X.env.scope x = true) : Gl X x := by
  unfold glB at e
  split at e
  · assumption
  · cases e
theorem okX_1 {x : Str} (e : okX x = true) : (x == ("__debug__" : Str)) = false := by
  unfold okX at e
  revert e
  cases (x == ("__debug__" : Str)) <;> simp
theorem okX_2 {x : Str} (e : okX x = true) : (x == ("__classdict__" : Str)) = false := by
  unfold okX at e
  revert e
  cases (x == ("__classdict__" : Str)) <;> simp
theorem sd_var {x : Str} {pos : Pos} {i : Nat} (hi : X.N[i]? = some x) (hv : visB X.env.scope x = true) (ok : okX x = true) : SdE xr X lo U (.Name x pos) (fun v h => match v[i]? with
    | some (some w) => .ok w h
    | _ => .bad) := by
  refine .plain ((pe_var hi (visB_ok hv) (okX_1 ok) (okX_2 ok)).imp fun σ H Q ⟨ι, v, h, hr, l, er, p⟩ => ?_) (fun _ => rfl) rfl
  dsimp only at p
  cases hv : v[i]? with
  | none => rw [hv] at p; exact p.elim
  | some o =>
    cases o with
    | none => rw [hv] at p; exact p.elim
    | some w =>
      rw [hv] at p
      obtain ⟨u, e1, e2⟩ := er.at_ i w hv
      exact ⟨u, e1, p.ok hr l e2⟩
theorem sd_glob {x : Str} {pos : Pos} {k : Nat} {cst : Nat → Option W} (hc : ∀ w, cst k = some w → ∃ u v, X.mg x = some u ∧ RelV v u ∧ ∀ H ι, Rw (bgX X) H ι w v) (hg : glB X.env.scope x = true) (ok : okX x = true) :
    SdE xr X lo U (.Name x pos) (fun _ h => ofO (cst k) h) := by
  refine .plain ?_ (fun _ => rfl) rfl
  cases hk : cst k with
  | none => exact ⟨fun pins s σ H Q I ⟨ι, v, h, hr, l, er, p⟩ => p.elim⟩
  | some w =>
    obtain ⟨u, v, e1, e2, e3⟩ := hc w hk
    exact (pe_glob (glB_ok hg) e1 e2 (okX_1 ok)).imp fun σ H Q ⟨ι, v, h, hr, l, er, p⟩ => p.ok hr l (e3 H ι)
theorem sd_non {j : Option Str} {pos : Pos} {e : Expr} : True := trivial
theorem sd_c {e : Expr} {v : V} {w : W} (pe : PE X e (tC v)) (r : ∀ H ι, Rw (bgX X) H ι w v) : PE X e (tE xr X lo U (fun _ h => .ok w h)) :=
  pe.imp fun σ H Q ⟨ι, v, h, hr, l, er, p⟩ => p.ok hr l (r H ι)
theorem sOkB_ok {s : Str} (e : sOkB s = true) : sOk s := fun c hc => of_decide_eq_true (List.all_eq_true.mp e c hc)

/-! ### lists of arguments -/
theorem pa_nil' : PA X [] (tEs xr X lo U (fun _ h => .ok [] h)) :=
  pa_nil.imp fun σ H Q ⟨ι, v, h, hr, l, er, p⟩ => p.ok hr l .nil
theorem pa_cons' {e : Expr} {es : List Expr} {m : Env → Hpa → R W} {ms : Env → Hpa → R (List W)} (he : PE X e (tE xr X lo U m)) (hs : PA X es (tEs xr X lo U ms)) (pl : plainX e = true) :
    PA X (e :: es) (tEs xr X lo U (fun v h => (m v h).bind fun x h1 => (ms v h1).bind fun xs h2 => .ok (x :: xs) h2)) :=
  (pa_cons he hs (star_cons pl es X.env)).imp fun σ H Q ⟨ι, v, h, hr, l, er, p⟩ => (seqE hr l er p).mono fun u H1 ⟨x, ι1, h1, s1, r1, p1⟩ =>
    (seqEs s1.hr s1.lo s1.er p1).mono fun us H2 ⟨xs, ι2, h2, s2, r2, p2⟩ => p2.ok s2.hr s2.lo (.cons (r1.mono s2.xt) r2)
theorem sd_tup {es : List Expr} {k : Nat} {pos : Pos} {ms : Env → Hpa → R (List W)} (hs : PA X es (tEs xr X lo U ms)) : SdE xr X lo U (.Tuple es k pos) (fun v h => (ms v h).bind mkT) :=
  .plain ((pe_tup hs).imp fun σ H Q ⟨ι, v, h, hr, l, er, p⟩ => (seqEs hr l er p).mono fun us H1 ⟨xs, ι1, h1, s1, r1, p1⟩ =>
    ⟨by rw [← r1.length, lim_eq]; exact mkT_le p1, fun q hq => mkT_at p1 s1.hr s1.lo r1 hq⟩) (fun _ => rfl) rfl
theorem sd_lst {es : List Expr} {b : Bool} {pos : Pos} {ms : Env → Hpa → R (List W)} (hs : PA X es (tEs xr X lo U ms)) : SdE xr X lo U (.List es pos) (fun v h => (ms v h).bind (mkL b)) :=
  .plain ((pe_lst hs).imp fun σ H Q ⟨ι, v, h, hr, l, er, p⟩ => (seqEs hr l er p).mono fun us H1 ⟨xs, ι1, h1, s1, r1, p1⟩ =>
    ⟨by rw [← r1.length, lim_eq]; exact mkL_le p1, fun q hq => mkL_at p1 s1.hr s1.lo r1 hq⟩) (fun _ => rfl) rfl

/-! ### operations -/
theorem post.wide {α β : Type} {B : Bg} {rel : Hp → Own → α → β → Prop} {E : XP} {r : R α} {Q : β → Hp → Prop} (p : post B lo rel E H ι r Q) : post B lo rel (fun _ _ _ _ => True) H ι r Q := by
  cases r with
  | ok _ _ => exact p
  | ex _ _ => exact fun _ _ _ _ _ => trivial
  | bad => exact p
theorem sd_op {a b : Expr} {op : Operator} {o : O2} {pos : Pos} {ma mb : Env → Hpa → R W} (eo : ckO o op = true) (ha : PE X a (tE xr X lo U ma)) (hb : PE X b (tE xr X lo U mb)) :
    SdE xr X lo U (.BinOp a op b pos) (fun v h => (ma v h).bind fun x h1 => (mb v h1).bind fun y h2 => opW h2 o x y) := by
  have e : op = o2 o := by cases o <;> cases op <;> first | rfl | cases eo
  subst e
  exact .plain ((pe_op (op_ok (lo := lo) (E := fun _ _ _ _ => True) o) ha hb).imp fun σ H Q ⟨ι, v, h, hr, l, er, p⟩ => (seqE hr l er p).mono fun u H1 ⟨x, ι1, h1, s1, r1, p1⟩ =>
    (seqE s1.hr s1.lo s1.er p1).mono fun u2 H2 ⟨y, ι2, h2, s2, r2, p2⟩ => ⟨ι2, h2, x, y, s2.hr, s2.lo, r1.mono s2.xt, r2, p2.wide⟩) (fun _ => rfl) rfl
theorem un_neg : UnR X (unaryOp .USub) (fun x H Q => ∃ i, x = .int i ∧ Q (.int (-i)) H) := by
  intro pins s σ H x v Q I r q
  obtain ⟨i, rfl, q⟩ := q
  obtain ⟨t, rfl⟩ := r
  exact neg_int ⟨.int (-i), H, I.tok _, ⟨_, rfl⟩, q⟩
theorem sd_neg {a : Expr} {pos : Pos} {ma : Env → Hpa → R W} (ha : PE X a (tE xr X lo U ma)) :
    SdE xr X lo U (.UnaryOp .USub a pos) (fun v h => (ma v h).bind fun x h1 => (match x with
    | .int i => .ok (.int (-i)) h1
    | _ => .bad)) :=
  .plain ((pe_un un_neg ha).imp fun σ H Q ⟨ι, v, h, hr, l, er, p⟩ => (seqE hr l er p).mono fun u H1 ⟨x, ι1, h1, s1, r1, p1⟩ => by
    cases x <;> first
      | exact p1.elim
      | (cases r1; exact ⟨_, rfl, p1.ok s1.hr s1.lo (.int _)⟩)) (fun _ => rfl) rfl
theorem rCmp_of {c : C2} {x y : W} {u u2 : V} {Q : VK} {E : XP} (hr : Hr (bgX X) H ι h) (l : Lo lo h) (rx : Rw (bgX X) H ι x u) (ry : Rw (bgX X) H ι y u2) (p : post (bgX X) lo (rW (bgX X)) E H ι (ofO ((cmpW h c x y).map .bl) h) Q) : rCmp X c u u2 H Q := by
  cases hc : cmpW h c x y with
  | none => rw [hc] at p; exact p.elim
  | some b =>
    rw [hc] at p
    exact ⟨ι, h, x, y, b, hr, rx, ry, hc, p.ok hr l (.bl b)⟩
theorem ckC_eq {c : C2} {op : CmpOp} (e : ckC c op = true) : op = c2 c := by cases c <;> cases op <;> first | rfl | cases e
theorem tTest_of {e : Expr} {m : Env → Hpa → R W} {t : TE} (h : PT X e (tTest t)) (k : ∀ σ H Q, tE xr X lo U m σ H Q → t σ H Q) : PT X e (tT xr X lo U m) :=
  h.imp fun σ H Q q => k σ H _ (tT_tB q)
theorem sd_cmp {a b : Expr} {op : CmpOp} {c : C2} {pos : Pos} {ma mb : Env → Hpa → R W} (hu : X.A.units + 65 < cLine) (eo : ckC c op = true) (pl : plainX b = true) (ha : PE X a (tE xr X lo U ma)) (hb : PE X b (tE xr X lo U mb)) :
    SdE xr X lo U (.Compare a [op] [b] pos) (fun v h => (ma v h).bind fun x h1 => (mb v h1).bind fun y h2 => ofO ((cmpW h2 c x y).map .bl) h2) := by
  have e := ckC_eq eo
  subst e
  have k : ∀ σ H Q, tE xr X lo U (fun v h => (ma v h).bind fun x h1 => (mb v h1).bind fun y h2 => ofO ((cmpW h2 c x y).map .bl) h2) σ H Q → tOp (rCmp X c) (tE xr X lo U ma) (tE xr X lo U mb) σ H Q := fun σ H Q ⟨ι, v, h, hr, l, er, p⟩ => (seqE hr l er p).mono fun u H1 ⟨x, ι1, h1, s1, r1, p1⟩ =>
    (seqE s1.hr s1.lo s1.er p1).mono fun u2 H2 ⟨y, ι2, h2, s2, r2, p2⟩ => rCmp_of s2.hr s2.lo (r1.mono s2.xt) r2 p2
  exact .mk2 ((pe_cmpR (cmp_ok hu c) ha hb (plain_mark pl _)).imp k) (tTest_of (pt_cmpR (cmp_ok hu c) ha hb (plain_mark pl _)) k) rfl
theorem sd_chain {a b z : Expr} {op oq : CmpOp} {c d : C2} {pos : Pos} {ma mb mz : Env → Hpa → R W} (hu : X.A.units + 65 < cLine) (eo : ckC c op = true) (eq : ckC d oq = true) (pl : plainX b = true) (pz : plainX z = true)
    (ha : PE X a (tE xr X lo U ma)) (hb : PE X b (tE xr X lo U mb)) (hz : PE X z (tE xr X lo U mz)) :
    SdE xr X lo U (.Compare a [op, oq] [b, z] pos) (fun v h => (ma v h).bind fun x h1 => (mb v h1).bind fun y h2 => (match cmpW h2 c x y with
      | some true => (mz v h2).bind fun z h3 => ofO ((cmpW h3 d y z).map .bl) h3
      | some false => .ok (.bl false) h2
      | none => .bad)) := by
  have e := ckC_eq eo
  subst e
  have e := ckC_eq eq
  subst e
  have hm : lastMarks [c2 c, c2 d] [b, z] = false := by
    show behindInMarks (c2 d) z = false
    exact plain_mark pz _
  have k : ∀ σ H Q, tE xr X lo U (fun v h => (ma v h).bind fun x h1 => (mb v h1).bind fun y h2 => (match cmpW h2 c x y with
      | some true => (mz v h2).bind fun z h3 => ofO ((cmpW h3 d y z).map .bl) h3
      | some false => .ok (.bl false) h2
      | none => .bad)) σ H Q → tChain (rCmp X c) (rCmp X d) (tE xr X lo U ma) (tE xr X lo U mb) (tE xr X lo U mz) σ H Q := fun σ H Q ⟨ι, v, h, hr, l, er, p⟩ => (seqE hr l er p).mono fun u H1 ⟨x, ι1, h1, s1, r1, p1⟩ =>
    (seqE s1.hr s1.lo s1.er p1).mono fun u2 H2 ⟨y, ι2, h2, s2, r2, p2⟩ => by
      cases hc : cmpW h2 c x y with
      | none => rw [hc] at p2; exact p2.elim
      | some k =>
        rw [hc] at p2
        refine ⟨ι2, h2, x, y, k, s2.hr, r1.mono s2.xt, r2, hc, k, rfl, ?_⟩
        cases k with
        | false => exact p2.ok s2.hr s2.lo (.bl false)
        | true => exact (seqE s2.hr s2.lo s2.er p2).mono fun u3 H3 ⟨z, ι3, h3, s3, r3, p3⟩ => rCmp_of s3.hr s3.lo (r2.mono s3.xt) r3 p3
  exact .mk2 ((pe_chain (cmp_ok hu c) (cmp_ok hu d) ha hb hz hm).imp k) (tTest_of (pt_chain (cmp_ok hu c) (cmp_ok hu d) ha hb hz hm) k) rfl
theorem sd_isN {a : Expr} {pos p2 : Pos} {k2} {ma : Env → Hpa → R W} (ha : PE X a (tE xr X lo U ma)) :
    SdE xr X lo U (.Compare a [.Is] [.Constant .none k2 p2] pos) (fun v h => (ma v h).bind fun x h1 => .ok (.bl (match x with
    | .non => true
    | _ => false)) h1) := by
  have k : ∀ σ H Q, tE xr X lo U (fun v h => (ma v h).bind fun x h1 => .ok (.bl (match x with
    | .non => true
    | _ => false)) h1) σ H Q → tIsN (tE xr X lo U ma) σ H Q := fun σ H Q ⟨ι, v, h, hr, l, er, p⟩ => (seqE hr l er p).mono fun u H1 ⟨x, ι1, h1, s1, r1, p1⟩ => by
      cases r1 <;> exact p1.ok s1.hr s1.lo (.bl _)
  exact .mk2 ((pe_cmp (pc_isN ha) rfl).imp k) ((pt_cmp (pc_isN ha) rfl).imp fun σ H Q q => k σ H _ (tT_tB q)) rfl
theorem sd_notN {a : Expr} {pos p2 : Pos} {k2} {ma : Env → Hpa → R W} (ha : PE X a (tE xr X lo U ma)) :
    SdE xr X lo U (.Compare a [.IsNot] [.Constant .none k2 p2] pos) (fun v h => (ma v h).bind fun x h1 => .ok (.bl (match x with
    | .non => false
    | _ => true)) h1) := by
  have k : ∀ σ H Q, tE xr X lo U (fun v h => (ma v h).bind fun x h1 => .ok (.bl (match x with
    | .non => false
    | _ => true)) h1) σ H Q → tNotN (tE xr X lo U ma) σ H Q := fun σ H Q ⟨ι, v, h, hr, l, er, p⟩ => (seqE hr l er p).mono fun u H1 ⟨x, ι1, h1, s1, r1, p1⟩ => by
      cases r1 <;> exact p1.ok s1.hr s1.lo (.bl _)
  exact .mk2 ((pe_cmp (pc_notN ha) rfl).imp k) ((pt_cmp (pc_notN ha) rfl).imp fun σ H Q q => k σ H _ (tT_tB q)) rfl

/-! ### and, or, not, if -/
theorem bl_or {x : W} {u : V} {r : R γ} {rel' : Hp → Own → γ → δ → Prop} {E : XP} {Q : δ → Hp → Prop} (rx : Rw (bgX X) H ι x u) (p : post (bgX X) lo rel' E H ι r Q)
    (e0 : asB x = none → r = .bad) : ∃ b, u = .bl b ∧ x = .bl b := by
  cases hb : asB x with
  | none => rw [e0 hb] at p; exact p.elim
  | some b =>
    have ex := asB_some hb
    subst ex
    exact ⟨b, rx.ofBl, rfl⟩
theorem sd_and {a b : Expr} {rest : List Expr} {pos : Pos} {ma mb : Env → Hpa → R W} (ha : SdE xr X lo U a ma) (hb : SdE xr X lo U (.BoolOp .And (b :: rest) pos) mb) :
    SdE xr X lo U (.BoolOp .And (a :: b :: rest) pos) (fun v h => (ma v h).bind fun x h1 => (match x with
    | .bl true => mb v h1
    | .bl false => .ok (.bl false) h1
    | _ => .bad)) := by
  have pw : PW X (.BoolOp .And (a :: b :: rest) pos) (tT xr X lo U (fun v h => (ma v h).bind fun x h1 => (match x with
    | .bl true => mb v h1
    | .bl false => .ok (.bl false) h1
    | _ => .bad))) := (pw_and ha.pt (hb.pw _ _ _ rfl)).imp fun σ H Q ⟨ι, v, h, hr, l, er, p⟩ => by
      have p : post (bgX X) lo rBo (xW xr (WE U σ)) H ι ((ma v h).bind fun x h1 => R.bind (match x with
        | .bl true => mb v h1
        | .bl false => .ok (.bl false) h1
        | _ => .bad) fun x h1 => ofO (asB x) h1) Q := by
        have e : ((ma v h).bind fun x h1 => (match x with
          | .bl true => mb v h1
          | .bl false => .ok (.bl false) h1
          | _ => .bad)).bind (fun x h1 => ofO (asB x) h1) = (ma v h).bind fun x h1 => R.bind (match x with
            | .bl true => mb v h1
            | .bl false => .ok (.bl false) h1
            | _ => .bad) fun x h1 => ofO (asB x) h1 := by cases ma v h <;> rfl
        rw [← e]
        exact p
      refine (seqT (G := fun b h1 => if b = true then (mb v h1).bind (fun x h1 => ofO (asB x) h1) else ofO (some false) h1) hr l er p (fun b h1 => by cases b <;> rfl) (fun x h1 hx => by cases x <;> first | rfl | cases hx)).mono fun b H1 ⟨ι1, h1, s1, p1⟩ => ?_
      cases b with
      | true => exact ⟨ι1, v, h1, s1.hr, s1.lo, s1.er, p1⟩
      | false => exact p1.ok s1.hr s1.lo rfl
  refine ⟨(pe_and ha.pe hb.pe).imp fun σ H Q ⟨ι, v, h, hr, l, er, p⟩ => (seqE hr l er p).mono fun u H1 ⟨x, ι1, h1, s1, r1, p1⟩ => ?_, pw.pt, fun op vs ps q => by cases q; exact pw⟩
  obtain ⟨b, e1, rfl⟩ := bl_or r1 p1 (fun hx => by cases x <;> first | rfl | cases hx)
  refine ⟨b, e1, ?_⟩
  cases b with
  | true => exact ⟨ι1, v, h1, s1.hr, s1.lo, s1.er, p1⟩
  | false => exact p1.ok s1.hr s1.lo (.bl false)
theorem sd_or {a b : Expr} {rest : List Expr} {pos : Pos} {ma mb : Env → Hpa → R W} (ha : SdE xr X lo U a ma) (hb : SdE xr X lo U (.BoolOp .Or (b :: rest) pos) mb) :
    SdE xr X lo U (.BoolOp .Or (a :: b :: rest) pos) (fun v h => (ma v h).bind fun x h1 => (match x with
    | .bl true => .ok (.bl true) h1
    | .bl false => mb v h1
    | _ => .bad)) := by
  have pw : PW X (.BoolOp .Or (a :: b :: rest) pos) (tT xr X lo U (fun v h => (ma v h).bind fun x h1 => (match x with
    | .bl true => .ok (.bl true) h1
    | .bl false => mb v h1
    | _ => .bad))) := (pw_or ha.pt (hb.pw _ _ _ rfl)).imp fun σ H Q ⟨ι, v, h, hr, l, er, p⟩ => by
      have p : post (bgX X) lo rBo (xW xr (WE U σ)) H ι ((ma v h).bind fun x h1 => R.bind (match x with
        | .bl true => .ok (.bl true) h1
        | .bl false => mb v h1
        | _ => .bad) fun x h1 => ofO (asB x) h1) Q := by
        have e : ((ma v h).bind fun x h1 => (match x with
          | .bl true => .ok (.bl true) h1
          | .bl false => mb v h1
          | _ => .bad)).bind (fun x h1 => ofO (asB x) h1) = (ma v h).bind fun x h1 => R.bind (match x with
            | .bl true => .ok (.bl true) h1
            | .bl false => mb v h1
            | _ => .bad) fun x h1 => ofO (asB x) h1 := by cases ma v h <;> rfl
        rw [← e]
        exact p
      refine (seqT (G := fun b h1 => if b = true then ofO (some true) h1 else (mb v h1).bind (fun x h1 => ofO (asB x) h1)) hr l er p (fun b h1 => by cases b <;> rfl) (fun x h1 hx => by cases x <;> first | rfl | cases hx)).mono fun b H1 ⟨ι1, h1, s1, p1⟩ => ?_
      cases b with
      | false => exact ⟨ι1, v, h1, s1.hr, s1.lo, s1.er, p1⟩
      | true => exact p1.ok s1.hr s1.lo rfl
  refine ⟨(pe_or ha.pe hb.pe).imp fun σ H Q ⟨ι, v, h, hr, l, er, p⟩ => (seqE hr l er p).mono fun u H1 ⟨x, ι1, h1, s1, r1, p1⟩ => ?_, pw.pt, fun op vs ps q => by cases q; exact pw⟩
  obtain ⟨b, e1, rfl⟩ := bl_or r1 p1 (fun hx => by cases x <;> first | rfl | cases hx)
  refine ⟨b, e1, ?_⟩
  cases b with
  | false => exact ⟨ι1, v, h1, s1.hr, s1.lo, s1.er, p1⟩
  | true => exact p1.ok s1.hr s1.lo (.bl true)
theorem sd_one {a : Expr} {op : BoolOp} {pos : Pos} {ma : Env → Hpa → R W} (ha : SdE xr X lo U a ma) : SdE xr X lo U (.BoolOp op [a] pos) ma := by
  have pw : PW X (.BoolOp op [a] pos) (tT xr X lo U ma) := by
    cases op
    · exact pw_and1 ha.pt
    · exact pw_or1 ha.pt
  exact ⟨pe_one ha.pe, pw.pt, fun _ _ _ q => by cases q; exact pw⟩
theorem sd_not {a : Expr} {pos : Pos} {ma : Env → Hpa → R W} (ha : SdE xr X lo U a ma) :
    SdE xr X lo U (.UnaryOp .Not a pos) (fun v h => (ma v h).bind fun x h1 => (match x with
    | .bl b => .ok (.bl (!b)) h1
    | _ => .bad)) := by
  refine .mk2 ((pe_not ha.pe).imp fun σ H Q ⟨ι, v, h, hr, l, er, p⟩ => (seqE hr l er p).mono fun u H1 ⟨x, ι1, h1, s1, r1, p1⟩ => ?_) ((pt_not ha.pt).imp fun σ H Q ⟨ι, v, h, hr, l, er, p⟩ => ?_) rfl
  · obtain ⟨b, e1, rfl⟩ := bl_or r1 p1 (fun hx => by cases x <;> first | rfl | cases hx)
    exact ⟨b, e1, p1.ok s1.hr s1.lo (.bl _)⟩
  · have p : post (bgX X) lo rBo (xW xr (WE U σ)) H ι ((ma v h).bind fun x h1 => R.bind (match x with
        | .bl b => .ok (.bl (!b)) h1
        | _ => .bad) fun x h1 => ofO (asB x) h1) Q := by
        have e : ((ma v h).bind fun x h1 => (match x with
          | .bl b => .ok (.bl (!b)) h1
          | _ => .bad)).bind (fun x h1 => ofO (asB x) h1) = (ma v h).bind fun x h1 => R.bind (match x with
            | .bl b => .ok (.bl (!b)) h1
            | _ => .bad) fun x h1 => ofO (asB x) h1 := by cases ma v h <;> rfl
        rw [← e]
        exact p
    refine (seqT (G := fun b h1 => ofO (some (!b)) h1) hr l er p (fun b h1 => rfl) (fun x h1 hx => by cases x <;> first | rfl | cases hx)).mono fun b H1 ⟨ι1, h1, s1, p1⟩ => ?_
    exact p1.ok s1.hr s1.lo rfl
theorem pt_ifExp {a b c : Expr} {pos : Pos} {tA ta tb : TT} (hc : PT X c tA) (ha : PT X a ta) (hb : PT X b tb) : PT X (.IfExp c a b pos) (fun σ H Q => tA σ H fun k H1 => if k = true then ta σ H1 Q else tb σ H1 Q) := by
  refine ⟨fun pins s σ H Q I h => ?_⟩
  refine isTrue_IfExp (thn (hc.run pins s σ H _ I h) fun d s1 ⟨H1, I1, q1⟩ => ?_)
  cases d with
  | true => exact ha.run pins s1 σ H1 Q I1 q1
  | false => exact hb.run pins s1 σ H1 Q I1 q1
theorem sd_ite {a b c : Expr} {pos : Pos} {ma mb mc : Env → Hpa → R W} (hc : SdE xr X lo U c mc) (ha : SdE xr X lo U a ma) (hb : SdE xr X lo U b mb) :
    SdE xr X lo U (.IfExp c a b pos) (fun v h => (mc v h).bind fun x h1 => (match x with
    | .bl true => ma v h1
    | .bl false => mb v h1
    | _ => .bad)) := by
  refine .mk2 ((pe_ifExp hc.pt ha.pe hb.pe).imp fun σ H Q ⟨ι, v, h, hr, l, er, p⟩ => ?_) ((pt_ifExp hc.pt ha.pt hb.pt).imp fun σ H Q ⟨ι, v, h, hr, l, er, p⟩ => ?_) rfl
  · refine (seqT (G := fun b h1 => if b = true then ma v h1 else mb v h1) hr l er p (fun b h1 => by cases b <;> rfl) (fun x h1 hx => by cases x <;> first | rfl | cases hx)).mono fun b H1 ⟨ι1, h1, s1, p1⟩ => ?_
    cases b with
    | true => exact ⟨ι1, v, h1, s1.hr, s1.lo, s1.er, p1⟩
    | false => exact ⟨ι1, v, h1, s1.hr, s1.lo, s1.er, p1⟩
  · have p : post (bgX X) lo rBo (xW xr (WE U σ)) H ι ((mc v h).bind fun x h1 => R.bind (match x with
        | .bl true => ma v h1
        | .bl false => mb v h1
        | _ => .bad) fun x h1 => ofO (asB x) h1) Q := by
        have e : ((mc v h).bind fun x h1 => (match x with
          | .bl true => ma v h1
          | .bl false => mb v h1
          | _ => .bad)).bind (fun x h1 => ofO (asB x) h1) = (mc v h).bind fun x h1 => R.bind (match x with
            | .bl true => ma v h1
            | .bl false => mb v h1
            | _ => .bad) fun x h1 => ofO (asB x) h1 := by cases mc v h <;> rfl
        rw [← e]
        exact p
    refine (seqT (G := fun b h1 => R.bind (if b = true then ma v h1 else mb v h1) fun x h1 => ofO (asB x) h1) hr l er p (fun b h1 => by cases b <;> rfl) (fun x h1 hx => by cases x <;> first | rfl | cases hx)).mono fun b H1 ⟨ι1, h1, s1, p1⟩ => ?_
    cases b with
    | true => exact ⟨ι1, v, h1, s1.hr, s1.lo, s1.er, p1⟩
    | false => exact ⟨ι1, v, h1, s1.hr, s1.lo, s1.er, p1⟩
end
end Mi

/-! Mi10: calls, methods, places, displays of dicts. -/
namespace Mi
open PySem PySem.Spec PyProof.Rows L2
section
variable {xr : Exn → Hp → Value → Option Addr → Prop} {X : Cx} {lo : Lv} {U : WX} {σ : L2.St} {H : Hp} {ι : Own} {v : Env} {h : Hpa} {γ δ : Type}
/-! ### calls -/
theorem sd_call {f : Addr} {np n i : Nat} {x : Str} {p pos : Pos} {es : List Expr} {ms : Env → Hpa → R (List W)} {P : Pg} (F : FnG X.prog X.w X.K X.mg X.base n f np (spM xr (bgX X) P n i)) (room : Room n X.A) (gd : X.A.guards = some [])
    (hg : glB X.env.scope x = true) (hm : X.mg x = some (.ref f)) (hk : PySem.W.keepIn X.K (.ref f) = true) (ok : okX x = true) (tk : Takes X U) (ha : PA X es (tEs xr X lo U ms)) (pl : es.all plainX = true) (e0 : es = [] → ms = fun _ h => .ok [] h) :
    SdE xr X lo U (.Call (.Name x p) es [] pos) (fun v h => (ms v h).bind fun ws h1 => callF P n lo i ws h1) := by
  refine .plain ?_ (fun _ => rfl) rfl
  cases es with
  | nil =>
    refine (pe_callG0 (E := WE U) F room gd (glB_ok hg) hm hk (fun σ => passAt tk σ) (okX_1 ok)).imp fun σ H Q ⟨ι, v, h, hr, l, er, q⟩ => ?_
    rw [e0 rfl] at q
    exact ⟨ι, h, [], lo, hr, l, .nil, q⟩
  | cons e es =>
    have pl' := Bool.and_eq_true_iff.mp (show (plainX e && es.all plainX) = true from pl)
    refine (pe_callG (E := WE U) F room gd (glB_ok hg) hm hk (fun σ => passAt tk σ) ha (okX_1 ok) (star_cons pl'.1 es X.env) (star_any pl'.2)).imp fun σ H Q ⟨ι, v, h, hr, l, er, q⟩ => ?_
    exact (seqEs hr l er q).mono fun us H1 ⟨ws, ι1, h1, s1, r1, p1⟩ => ⟨ι1, h1, ws, lo, s1.hr, s1.lo, r1, p1⟩
theorem bName_in (f : Bt) : bName f ∈ bNames := by cases f <;> first | decide | (rename_i m; cases m <;> decide)
theorem bName_n (f : Bt) : bName f ≠ ("__name__" : Str) := by cases f <;> first | decide | (rename_i m; cases m <;> decide)
theorem bName_d (f : Bt) : (bName f == ("__debug__" : Str)) = false := by cases f <;> first | decide | (rename_i m; cases m <;> decide)
theorem boot_bv (f : Bt) : bootBuiltins (bName f) = some (bv f) := by cases f <;> first | decide +kernel | (rename_i m; cases m <;> decide +kernel)
theorem sd_blt {f : Bt} {p pos : Pos} {es : List Expr} {ms : Env → Hpa → R (List W)} (calm : X.calm = true) (hu : X.A.units + 65 < cLine) (gd : X.A.guards = some []) (hm : ∀ x ∈ bNames, X.mg x = none)
    (hg : glB X.env.scope (bName f) = true) (ha : PA X es (tEs xr X lo U ms)) (pl : es.all plainX = true) (ne : es.isEmpty = false) :
    SdE xr X lo U (.Call (.Name (bName f) p) es [] pos) (fun v h => (ms v h).bind fun ws h1 => bltW h1 f ws) := by
  refine .plain ?_ (fun _ => rfl) rfl
  cases es with
  | nil => cases ne
  | cons e es =>
    have pl' := Bool.and_eq_true_iff.mp (show (plainX e && es.all plainX) = true from pl)
    have cr := blt_ok (lo := lo) (E := fun _ _ _ _ => True) calm hu gd f
    have hb := boot_bv f
    have k : ∀ σ H Q, tE xr X lo U (fun v h => (ms v h).bind fun ws h1 => bltW h1 f ws) σ H Q → tCB (rBl X lo (fun _ _ _ _ => True) f) (tEs xr X lo U ms) σ H Q := fun σ H Q ⟨ι, v, h, hr, l, er, q⟩ =>
      (seqEs hr l er q).mono fun us H1 ⟨ws, ι1, h1, s1, r1, p1⟩ => ⟨ι1, h1, ws, s1.hr, s1.lo, r1, p1.wide⟩
    have go : (∃ id, bv f = .builtin id) ∨ ∃ T, bv f = .type T := by cases f <;> first | exact .inl ⟨_, rfl⟩ | exact .inr ⟨_, rfl⟩
    rcases go with ⟨id, e1⟩ | ⟨T, e1⟩
    · rw [e1] at cr hb
      exact (pe_callB cr (glB_ok hg) (hm _ (bName_in f)) hb ha (bName_n f) (bName_d f) (star_cons pl'.1 es X.env) (star_any pl'.2)).imp k
    · rw [e1] at cr hb
      exact (pe_callTy cr (glB_ok hg) (hm _ (bName_in f)) hb ha (bName_n f) (bName_d f) (star_cons pl'.1 es X.env) (star_any pl'.2)).imp k

/-! ### methods -/
theorem base_plain {o : Expr} {nm : Str} {env : PySem.Env} {w : Sem Value} (e : baseB o = true) : attributeBase o nm env w = w := by
  unfold attributeBase
  split
  · cases e
  · rfl
theorem few1 {o : Expr} {es : List Expr} {cpos : Pos} {env : PySem.Env} (pl : (es).all plainX = true) (hl : es.length < 20) : ((backTo cpos (starEach es env)).all (fun x => !x.1) && (backToKw cpos (keywordEach [] env)).all (fun x => x.1.isSome)
      && decide (es.length + ([] : List Keyword).length + (if ([] : List Keyword).isEmpty then 0 else 1) < 30)) = true := by
  rw [star_all pl]
  have z : decide (es.length + ([] : List Keyword).length + (if ([] : List Keyword).isEmpty then 0 else 1) < 30) = true := decide_eq_true (by simp; omega)
  rw [z]
  rfl
theorem Hr.ref_lst (hr : Hr (bgX X) H ι h) {n : Nat} {u : V} {xs : List W} (r : Rw (bgX X) H ι (.ref n) u) (e : h[n]? = some (.lst xs)) : ∃ a vs, ι.ix[n]? = some a ∧ u = .ref a ∧ H a = some (.lst vs) ∧ Rws (bgX X) H ι xs vs := by
  obtain ⟨a, e1, e2⟩ := r.refAt
  obtain ⟨vs, e3, e4⟩ := hr.at_ n _ a e e1
  exact ⟨a, vs, e1, e2, e3, e4⟩
theorem okSt_und {lo n : Nat} {w : W} (e : okSt lo n w = true) : lo ≤ n ∨ w.pure = true := by
  rcases Bool.or_eq_true_iff.mp e with z | z
  · exact .inl (of_decide_eq_true z)
  · exact .inr z
theorem unds_append (k : Nat) : ∀ (xs ys : List W), W.unds k (xs ++ ys) = (W.unds k xs && W.unds k ys)
  | [], ys => rfl
  | x :: xs, ys => by
    show (W.und k x && W.unds k (xs ++ ys)) = ((W.und k x && W.unds k xs) && W.unds k ys)
    rw [unds_append k xs ys, Bool.and_assoc]
theorem Lo.append {n : Nat} {xs : List W} {w : W} (l : Lo lo h) (e : h[n]? = some (.lst xs)) (ok : okSt lo n w = true) : Lo lo (h.set n (.lst (xs ++ [w]))) := by
  refine l.put ?_
  rcases okSt_und ok with z | z
  · exact .inl z
  · refine .inr fun m hm hn => ?_
    have z1 : W.unds m xs = true := l.2 m hm n _ hn e
    show W.unds m (xs ++ [w]) = true
    rw [unds_append, z1]
    show (true && (W.und m w && true)) = true
    rw [W.und_pure m w z]
    rfl
theorem sd_append {o : Expr} {es : List Expr} {ap cp : Pos} {mo : Env → Hpa → R W} {ms : Env → Hpa → R (List W)} (ho : PE X o (tE xr X lo U mo)) (ha : PA X es (tEs xr X lo U ms)) (pl : es.all plainX = true) (hl : es.length = 1) (hb : baseB o = true) (line : (ap.endLine == cp.line) = true) :
    SdE xr X lo U (.Call (.Attribute o "append" ap) es [] cp) (fun v h => (mo v h).bind fun x h1 => if mPre h1 .append x then (ms v h1).bind fun ws h2 => mthW lo h2 .append x ws else .bad) := by
  refine .plain ?_ (fun _ => rfl) rfl
  match es, hl, pl, ha with
  | [e], hl, pl, ha =>
  have pl' := Bool.and_eq_true_iff.mp (show (plainX e && ([] : List Expr).all plainX) = true from pl)
  refine (pe_bm F.plainAttrs_list F.slot_list_append F.type_list_append mt_append ho ha (base_plain hb) (few1 (o := o) pl (by rw [hl]; decide)) line (star_cons pl'.1 [] X.env) (star_any pl'.2)).imp fun σ H Q ⟨ι, v, h, hr, l, er, q⟩ => (seqE hr l er q).mono fun u H1 ⟨x, ι1, h1, s1, r1, p1⟩ => ?_
  cases x with
  | ref n =>
    by_cases hp : mPre h1 .append (.ref n) = true
    · rw [if_pos hp] at p1
      have hl1 : ∃ xs, h1[n]? = some (.lst xs) := by
        unfold mPre at hp
        split at hp
        · rename_i n' e'
          cases e'
          split at hp
          · exact ⟨_, by assumption⟩
          · cases hp
        all_goals simp_all
      obtain ⟨xs, e1⟩ := hl1
      obtain ⟨a, vs, i1, eu, e3, e4⟩ := s1.hr.ref_lst r1 e1
      subst eu
      refine ⟨.inl ⟨rfl, vs, .of e3⟩, (seqEs s1.hr s1.lo s1.er p1).mono fun us H2 ⟨ws, ι2, h2, s2, r2, p2⟩ => ?_⟩
      match ws, r2 with
      | [w], r2 =>
        obtain ⟨u, rfl, ru⟩ := r2.one
        cases he : h2[n]? with
        | none => simp [mthW, he] at p2; exact p2.elim
        | some ob =>
          cases ob with
          | lst ys =>
            simp only [mthW, he] at p2
            split at p2
            · rename_i hc
              obtain ⟨a', vs', i2, eu, e5, e6⟩ := s2.hr.ref_lst (r1.mono s2.xt) he
              cases eu
              refine ⟨_, vs', u, rfl, rfl, e5, by rw [← e6.length, lim_eq]; exact hc.1, ?_⟩
              exact p2 _ ι2 _ (Xt.put s2.hr i2) (s2.hr.put i2 ⟨_, upd_same, (e6.append (.cons ru .nil)).mono (Xt.put s2.hr i2)⟩) (s2.lo.append he hc.2) .non
            · exact p2.elim
          | dk _ _ => simp [mthW, he] at p2; exact p2.elim
          | ins _ _ => simp [mthW, he] at p2; exact p2.elim
      | [], r2 => exact (show False from p2).elim
      | _ :: _ :: _, r2 => exact (show False from p2).elim
    · rw [if_neg hp] at p1
      exact p1.elim
  | _ => exact (show False from p1).elim
theorem sOk.join {a : Str} (ha : sOk a) : ∀ {ys : List Str}, (∀ y ∈ ys, sOk y) → sOk (Str.join a ys)
  | [], _ => fun c hc => by cases hc
  | [y], h => h y List.mem_cons_self
  | y :: z :: r, h => ((h y List.mem_cons_self).append ha).append (sOk.join ha fun q hq => h q (List.mem_cons_of_mem _ hq))
theorem sd_join {o : Expr} {ap cp : Pos} {mo : Env → Hpa → R W} {me : Env → Hpa → R W} {e : Expr} (ho : PE X o (tE xr X lo U mo)) (he : PE X e (tE xr X lo U me)) (pl : plainX e = true) (hb : baseB o = true) (line : (ap.endLine == cp.line) = true) :
    SdE xr X lo U (.Call (.Attribute o "join" ap) [e] [] cp) (fun v h => (mo v h).bind fun x h1 => if mPre h1 .join x then ((me v h1).bind fun w h2 => .ok [w] h2).bind fun ws h2 => mthW lo h2 .join x ws else .bad) := by
  refine .plain ?_ (fun _ => rfl) rfl
  refine (pe_join ho he (star_cons pl [] X.env) (base_plain hb) line).imp fun σ H Q ⟨ι, v, h, hr, l, er, q⟩ => (seqE hr l er q).mono fun u H1 ⟨x, ι1, h1, s1, r1, p1⟩ => ?_
  cases x with
  | str a =>
    cases r1 with
    | str _ sa =>
    refine ⟨⟨a, rfl⟩, ?_⟩
    have p1 : post (bgX X) lo (rW (bgX X)) (xW xr (WE U σ)) H1 ι1 ((me v h1).bind fun w h2 => mthW lo h2 .join (.str a) [w]) Q := by
      have e : ((me v h1).bind fun w h2 => mthW lo h2 .join (.str a) [w]) = ((me v h1).bind fun w h2 => .ok [w] h2).bind fun ws h2 => mthW lo h2 .join (.str a) ws := by cases me v h1 <;> rfl
      rw [e]
      exact p1
    refine (seqE s1.hr s1.lo s1.er p1).mono fun u2 H2 ⟨y, ι2, h2, s2, r2, p2⟩ => ?_
    simp only [mthW] at p2
    cases hs : (asQ h2 y).bind allS with
    | none => rw [hs] at p2; exact p2.elim
    | some ys =>
      rw [hs] at p2
      dsimp only at p2
      split at p2
      · rename_i hz
        cases hq : asQ h2 y with
        | none => rw [hq] at hs; cases hs
        | some xs =>
          rw [hq] at hs
          obtain ⟨b, vs, eu, sq, rs⟩ := asQ_ok s2.hr r2 hq
          obtain ⟨ev, so⟩ := allS_V hs rs
          subst eu ev
          refine ⟨a, b, ys, rfl, rfl, sq, hz, p2.ok s2.hr s2.lo ?_⟩
          rw [TL.join_eq]
          exact .str _ (sa.join so)
      · exact p2.elim
  | _ => exact (show False from p1).elim
/-- a method of a text, one argument -/
theorem sd_strm {o : Expr} {id : String} {name : Str} {f : Mt} {r : V → List V → Hp → VK → Prop} {ap cp : Pos} {mo : Env → Hpa → R W} {me : Env → Hpa → R W} {e : Expr} (slot : Slot "str" name id) (ty : typeOf (.builtin id) = pure (.type "method_descriptor")) (rule : MtR X id r)
    (hf : ∀ (h : Hpa) (x : W), mPre h f x = true → ∃ a, x = .str a) (hr : ∀ (a : Str) (x : W) (u : V) (H : Hp) (ι : Own) (h : Hpa) (Q : VK), sOk a → Hr (bgX X) H ι h → Lo lo h → Rw (bgX X) H ι x u → post (bgX X) lo (rW (bgX X)) (fun _ _ _ _ => True) H ι (mthW lo h f (.str a) [x]) Q → r (.str a) [u] H Q)
    (ho : PE X o (tE xr X lo U mo)) (he : PE X e (tE xr X lo U me)) (pl : plainX e = true) (hb : baseB o = true) (line : (ap.endLine == cp.line) = true) :
    SdE xr X lo U (.Call (.Attribute o name ap) [e] [] cp) (fun v h => (mo v h).bind fun x h1 => if mPre h1 f x then ((me v h1).bind fun w h2 => .ok [w] h2).bind fun ws h2 => mthW lo h2 f x ws else .bad) := by
  refine .plain ?_ (fun _ => rfl) rfl
  refine (pe_m1 slot ty rule ho he (star_cons pl [] X.env) (base_plain hb) line).imp fun σ H Q ⟨ι, v, h, hr', l, er, q⟩ => (seqE hr' l er q).mono fun u H1 ⟨x, ι1, h1, s1, r1, p1⟩ => ?_
  by_cases hp : mPre h1 f x = true
  · rw [if_pos hp] at p1
    obtain ⟨a, rfl⟩ := hf h1 x hp
    cases r1 with
    | str _ sa =>
    refine ⟨⟨a, rfl⟩, ?_⟩
    have p1 : post (bgX X) lo (rW (bgX X)) (xW xr (WE U σ)) H1 ι1 ((me v h1).bind fun w h2 => mthW lo h2 f (.str a) [w]) Q := by
      have e : ((me v h1).bind fun w h2 => mthW lo h2 f (.str a) [w]) = ((me v h1).bind fun w h2 => .ok [w] h2).bind fun ws h2 => mthW lo h2 f (.str a) ws := by cases me v h1 <;> rfl
      rw [e]
      exact p1
    exact (seqE s1.hr s1.lo s1.er p1).mono fun u2 H2 ⟨y, ι2, h2, s2, r2, p2⟩ => hr a y u2 H2 ι2 h2 Q sa s2.hr s2.lo r2 p2.wide
  · rw [if_neg hp] at p1
    exact p1.elim
theorem rws_strs {B : Bg} {H : Hp} {ι : Own} : ∀ {ys : List Str}, ys.all sOkB0 = true → Rws B H ι (ys.map .str) (ys.map V.str)
  | [], _ => .nil
  | y :: ys, e => by
    rw [List.all_cons, Bool.and_eq_true] at e
    exact .cons (.str _ (sOkB0_ok e.1)) (rws_strs e.2)
theorem split_ok : ∀ (a : Str) (x : W) (u : V) (H : Hp) (ι : Own) (h : Hpa) (Q : VK), sOk a → Hr (bgX X) H ι h → Lo lo h → Rw (bgX X) H ι x u → post (bgX X) lo (rW (bgX X)) (fun _ _ _ _ => True) H ι (mthW lo h .split (.str a) [x]) Q →
    (∃ a' b, V.str a = .str a' ∧ [u] = [.str b] ∧ (b.length == 0) = false ∧ a'.length + 2 ≤ sizeLine ∧ rNewStrs (Txt.split a' b) H Q) := by
  intro a x u H ι h Q sa hr l rx p
  cases rx with
  | str b sb =>
    simp only [mthW] at p
    split at p
    · rename_i c
      refine ⟨a, b, rfl, rfl, c.1, by rw [lim_eq]; exact c.2.1, fun q hq => ?_⟩
      exact p _ ι _ (Xt.new hq hr) (hr.new hq) l (.lst ⟨upd_same, hr.fresh hq⟩ (rws_strs c.2.2))
    · exact p.elim
  | _ => exact (show False from p).elim
theorem starts_ok : ∀ (a : Str) (x : W) (u : V) (H : Hp) (ι : Own) (h : Hpa) (Q : VK), sOk a → Hr (bgX X) H ι h → Lo lo h → Rw (bgX X) H ι x u → post (bgX X) lo (rW (bgX X)) (fun _ _ _ _ => True) H ι (mthW lo h .startswith (.str a) [x]) Q →
    (∃ a' b, V.str a = .str a' ∧ [u] = [.str b] ∧ Q (.bl (Txt.startswith a' b)) H) := by
  intro a x u H ι h Q sa hr l rx p
  cases rx with
  | str b sb => exact ⟨a, b, rfl, rfl, p.ok hr l (.bl _)⟩
  | _ => exact (show False from p).elim
theorem part_ok : ∀ (a : Str) (x : W) (u : V) (H : Hp) (ι : Own) (h : Hpa) (Q : VK), sOk a → Hr (bgX X) H ι h → Lo lo h → Rw (bgX X) H ι x u → post (bgX X) lo (rW (bgX X)) (fun _ _ _ _ => True) H ι (mthW lo h .partition (.str a) [x]) Q →
    (∃ a' b, V.str a = .str a' ∧ [u] = [.str b] ∧ (b.length == 0) = false ∧ a'.length ≤ sizeLine ∧ ∀ p, H p = none → Q (.ref p) (upd H p (.tup [.str (Txt.partition a' b).1, .str (Txt.partition a' b).2.1, .str (Txt.partition a' b).2.2]))) := by
  intro a x u H ι h Q sa hr l rx p
  cases rx with
  | str b sb =>
    simp only [mthW] at p
    split at p
    · rename_i c
      obtain ⟨c1, c2, c3⟩ := c
      rw [Bool.and_eq_true, Bool.and_eq_true] at c3
      refine ⟨a, b, rfl, rfl, c1, by rw [lim_eq]; exact c2, fun q hq => ?_⟩
      exact p _ ι _ (Xt.new hq hr) (hr.new hq) l (.tup (.inl ⟨.inl upd_same, hr.fresh hq⟩) (.cons (.str _ (sOkB0_ok c3.1.1)) (.cons (.str _ (sOkB0_ok c3.1.2)) (.cons (.str _ (sOkB0_ok c3.2)) .nil))))
    · exact p.elim
  | _ => exact (show False from p).elim
/-! ### what is never read -/
theorem sd_never {e : Expr} {m : Env → Hpa → R W} (hm : ∀ v h, m v h = .bad) : SdE xr X lo U e m := by
  refine ⟨⟨fun pins s σ H Q I ⟨ι, v, h, hr, l, er, q⟩ => ?_⟩, ⟨fun pins s σ H Q I ⟨ι, v, h, hr, l, er, q⟩ => ?_⟩, fun op vs pos _ => ⟨fun wh pins s σ H Q I ⟨ι, v, h, hr, l, er, q⟩ => ?_⟩⟩
  all_goals
    rw [hm] at q
    exact (show False from q).elim
/-! ### isinstance, is True, xs[::-1] -/
theorem tyW_ok {B : Bg} {w : W} {u : V} {a : String} (hr : Hr B H ι h) (r : Rw B H ι w u) (e : tyW h w = some a) : TyX B.K H u (.type a) := by
  cases r with
  | non => cases e; exact .base .non
  | bl b => cases e; exact .base (.bl b)
  | int i => cases e; exact .base (.int i)
  | str s _ => cases e; exact .base (.str s)
  | rep s => cases e; exact .base (.str s)
  | tup f _ =>
    cases e
    rcases f with ⟨f | ⟨o, f⟩, _⟩ | ⟨o, its, n, f, c, _⟩
    · exact .base (.tup f)
    · exact .fTuple f
    · exact .kTuple f c
  | lst f _ => cases e; exact .base (.lst f.1)
  | lsk f _ =>
    cases e
    rcases f with ⟨o, f, _⟩ | ⟨o, its, n, f, c, _⟩
    · exact .base (.frz f)
    · exact .kList f c
  | dk f _ _ _ =>
    cases e
    rcases f with ⟨f | ⟨o, f⟩, _⟩
    · exact .base (.dK f)
    · exact .fDict f
  | dkw _ _ _ _ => cases e
  | st _ _ => cases e
  | @ref n b q =>
    unfold tyW at e
    cases z : h[n]? with
    | none => simp [z] at e
    | some ob =>
      obtain ⟨b', hb, o⟩ := hr.get z
      rw [q] at hb
      cases hb
      cases ob with
      | lst ws =>
        simp [z] at e
        subst e
        obtain ⟨vs, h1, _⟩ := o
        exact .base (.lst h1)
      | dk ks ws =>
        simp [z] at e
        subst e
        obtain ⟨vs, h1, _⟩ := o
        exact .base (.dK h1)
      | ins _ _ => simp [z] at e
def tyB (t : Ty) : bootBuiltins (tyN t) = some (.type (tyS t)) := by cases t <;> decide +kernel
theorem tyN_in (t : Ty) : tyN t ∈ bNames := by cases t <;> decide
theorem sd_inst {t : Ty} {a : Expr} {p p2 pos : Pos} {ma : Env → Hpa → R W} (hm : ∀ x ∈ bNames, X.mg x = none) (hg : glB X.env.scope "isinstance" = true) (hg2 : glB X.env.scope (tyN t) = true) (pl : plainX a = true) (ha : PE X a (tE xr X lo U ma)) :
    SdE xr X lo U (.Call (.Name "isinstance" p) [a, .Name (tyN t) p2] [] pos) (fun v h => (ma v h).bind fun x h1 => ofO ((instW h1 t x).map .bl) h1) := by
  have pn : PE X (.Name (tyN t) p2) (tC (.ty (tyS t))) := pe_bltn (glB_ok hg2) (hm _ (tyN_in t)) (tyB t) rfl (by cases t <;> decide) (by cases t <;> decide)
  refine .plain ((pe_callB call_isi (glB_ok hg) (hm _ (by decide)) (by decide +kernel) (pa_cons ha (pa_cons pn pa_nil) (star_cons pl [.Name (tyN t) p2] X.env)) (by decide) (by decide) (star_cons pl [.Name (tyN t) p2] X.env) rfl).imp fun σ H Q ⟨ι, v, h, hr, l, er, q⟩ => (seqE hr l er q).mono fun u H1 ⟨x, ι1, h1, s1, r1, p1⟩ => ?_) (fun _ => rfl) rfl
  cases e : instW h1 t x with
  | none => rw [e] at p1; exact p1.elim
  | some b =>
    rw [e] at p1
    unfold instW at e
    cases z : tyW h1 x with
    | none => rw [z] at e; cases e
    | some a =>
      rw [z] at e
      exact ⟨u, _, _, _, b, rfl, .ty _, tyW_ok s1.hr r1 z, kit_ty e, p1.ok s1.hr s1.lo (.bl b)⟩
end
end Mi

/-! Mi11: places, slices, displays of dicts, targets. -/
namespace Mi
open PySem PySem.Spec PyProof.Rows L2
section
variable {xr : Exn → Hp → Value → Option Addr → Prop} {X : Cx} {lo : Lv} {U : WX} {σ : L2.St} {H : Hp} {ι : Own} {v : Env} {h : Hpa} {γ δ : Type}
theorem sd_idx {a b : Expr} {pos : Pos} {ma mb : Env → Hpa → R W} (hu : X.A.units + 65 < cLine) (pl : plainX b = true) (ha : PE X a (tE xr X lo U ma)) (hb : PE X b (tE xr X lo U mb)) :
    SdE xr X lo U (.Subscript a b pos) (fun v h => (ma v h).bind fun x h1 => (mb v h1).bind fun y h2 => ofO (idxW h2 x y) h2) := by
  refine .plain ((pe_ix (ix_ok hu) ha hb (plain_ix pl)).imp fun σ H Q ⟨ι, v, h, hr, l, er, p⟩ => (seqE hr l er p).mono fun u H1 ⟨x, ι1, h1, s1, r1, p1⟩ =>
    (seqE s1.hr s1.lo s1.er p1).mono fun u2 H2 ⟨y, ι2, h2, s2, r2, p2⟩ => ?_) (fun _ => rfl) rfl
  cases hc : idxW h2 x y with
  | none => rw [hc] at p2; exact p2.elim
  | some w =>
    rw [hc] at p2
    exact ⟨ι2, h2, x, y, w, s2.hr, r1.mono s2.xt, r2, hc, fun u ru => p2.ok s2.hr s2.lo ru⟩
/-- a slice's part -/
def tO (xr : Exn → Hp → Value → Option Addr → Prop) (X : Cx) (lo : Lv) (U : WX) (m : Env → Hpa → R (Option Int)) : TO := fun σ H Q => ∃ ι v h, Hr (bgX X) H ι h ∧ Lo lo h ∧ Er (bgX X) H ι v σ ∧ post (bgX X) lo (fun _ _ a b => a = b) (xW xr (WE U σ)) H ι (m v h) Q
theorem PO.imp' {e : Option Expr} {t t' : TO} (h : PO X e t) (k : ∀ σ H Q, t' σ H Q → t σ H Q) : PO X e t' := ⟨fun pins s σ H Q I q => h.run pins s σ H Q I (k σ H Q q)⟩
theorem po_non : PO X none (tO xr X lo U (fun _ h => .ok none h)) := PO.imp' po_none fun σ H Q ⟨ι, v, h, hr, l, er, p⟩ => p.ok hr l rfl
theorem po_of {e : Expr} {m : Env → Hpa → R W} (he : PE X e (tE xr X lo U m)) : PO X (some e) (tO xr X lo U (fun v h => (m v h).bind ixO)) :=
  PO.imp' (po_some he) fun σ H Q ⟨ι, v, h, hr, l, er, p⟩ => (seqE hr l er p).mono fun u H1 ⟨x, ι1, h1, s1, r1, p1⟩ => by
    cases x with
    | int i =>
      cases r1
      exact ⟨i, rfl, p1.ok s1.hr s1.lo rfl⟩
    | _ => exact (show False from p1).elim
theorem seqO {m : Env → Hpa → R (Option Int)} {f : Option Int → Hpa → R γ} {rel' : Hp → Own → γ → δ → Prop} {Q : δ → Hp → Prop} (hr : Hr (bgX X) H ι h) (l : Lo lo h) (er : Er (bgX X) H ι v σ)
    (p : post (bgX X) lo rel' (xW xr (WE U σ)) H ι ((m v h).bind f) Q) :
    tO xr X lo U m σ H fun u H1 => ∃ ι1 h1, St1 X lo H ι v σ H1 ι1 h1 ∧ post (bgX X) lo rel' (xW xr (WE U σ)) H1 ι1 (f u h1) Q :=
  ⟨ι, v, h, hr, l, er, (post.bind p).mono fun u H1 ⟨x, ι1, h1, a, b, c, d, e⟩ => by
    have d : x = u := d
    subst d
    exact ⟨ι1, h1, ⟨b, c, er.mono a, a⟩, e⟩⟩
theorem tO.mono {m : Env → Hpa → R (Option Int)} {Q Q' : Option Int → Hp → Prop} (p : tO xr X lo U m σ H Q) (k : ∀ u H', Q u H' → Q' u H') : tO xr X lo U m σ H Q' := by
  obtain ⟨ι, v, h, a, b, c, d⟩ := p
  exact ⟨ι, v, h, a, b, c, d.mono k⟩
theorem sd_slc {a : Expr} {l u : Option Expr} {p2 pos : Pos} {ma : Env → Hpa → R W} {ml mu : Env → Hpa → R (Option Int)} (ha : PE X a (tE xr X lo U ma)) (hl : PO X l (tO xr X lo U ml)) (hu : PO X u (tO xr X lo U mu)) :
    SdE xr X lo U (.Subscript a (.Slice l u none p2) pos) (fun v h => (ma v h).bind fun x h1 => (ml v h1).bind fun a h2 => (mu v h2).bind fun b h3 => ofO (slcW h3 x a b) h3) :=
  .plain ((pe_slice (slc_ok (lo := lo) (E := fun _ _ _ _ => True)) ha hl hu).imp fun σ H Q ⟨ι, v, h, hr, l, er, p⟩ => (seqE hr l er p).mono fun u H1 ⟨x, ι1, h1, s1, r1, p1⟩ =>
    (seqO s1.hr s1.lo s1.er p1).mono fun i H2 ⟨ι2, h2, s2, p2⟩ => (seqO s2.hr s2.lo s2.er p2).mono fun j H3 ⟨ι3, h3, s3, p3⟩ =>
      ⟨ι3, h3, x, s3.hr, s3.lo, r1.mono (s2.xt.trans s3.xt), p3.wide⟩) (fun _ => rfl) rfl
/-! ### displays of dicts -/
/-- the parts, one by one -/
inductive SdL (xr : Exn → Hp → Value → Option Addr → Prop) (X : Cx) (lo : Lv) (U : WX) (cx : Cxt) : Es → List Expr → Prop where
  | nil : SdL xr X lo U cx .nil []
  | cons {m : E} {e : Expr} {ms : Es} {es : List Expr} : SdE xr X lo U e (evE cx m) → plainX e = true → SdL xr X lo U cx ms es → SdL xr X lo U cx (.cons m ms) (e :: es)
theorem SdL.pa {cx : Cxt} {ms : Es} {es : List Expr} (d : SdL xr X lo U cx ms es) : PA X es (tEs xr X lo U (evEs cx ms)) := by
  induction d with
  | nil => exact pa_nil'
  | cons a p _ ih => exact pa_cons' a.pe ih p
theorem SdL.plain {cx : Cxt} {ms : Es} {es : List Expr} (d : SdL xr X lo U cx ms es) : es.all plainX = true := by
  induction d with
  | nil => rfl
  | cons a p _ ih => rw [List.all_cons, p, ih]; rfl
theorem SdL.none {cx : Cxt} {ms : Es} {es : List Expr} (d : SdL xr X lo U cx ms es) : es = [] → evEs cx ms = fun _ h => .ok [] h := by
  cases d with
  | nil => exact fun _ => rfl
  | cons => exact fun e => nomatch e
def trsOf (xr : Exn → Hp → Value → Option Addr → Prop) (X : Cx) (lo : Lv) (U : WX) (cx : Cxt) : List Key → Es → List (TE × TE)
  | k :: ks, .cons m ms => (tC (kV k), tE xr X lo U (evE cx m)) :: trsOf xr X lo U cx ks ms
  | _, _ => []
theorem ckKey_pe {k : Key} {o : Option Expr} (e : ckKey k o = true) : ∃ x, o = some x ∧ PE X x (tC (kV k)) ∧ kOk k := by
  unfold ckKey at e
  split at e
  · rename_i s t _ _
    have e := Bool.and_eq_true_iff.mp e
    have q := of_decide_eq_true e.1
    subst q
    exact ⟨_, rfl, pe_str, sOkB_ok e.2⟩
  · rename_i i j _ _
    have q := of_decide_eq_true e
    subst q
    exact ⟨_, rfl, pe_int, trivial⟩
  · cases e
theorem ckKeys_ok (X : Cx) : ∀ {ks : List Key} {os : List (Option Expr)}, ckKeys ks os = true → ks.length = os.length ∧ os.all (·.isSome) = true ∧ ∀ k ∈ ks, kOk k
  | [], [], _ => ⟨rfl, rfl, fun _ z => nomatch z⟩
  | k :: ks, o :: os, e => by
    have e := Bool.and_eq_true_iff.mp (show (ckKey k o && ckKeys ks os) = true from e)
    obtain ⟨h1, h2, h3⟩ := ckKeys_ok X e.2
    obtain ⟨x, rfl, _, kk⟩ := ckKey_pe (X := X) e.1
    refine ⟨by simp [h1], ?_, fun q hq => ?_⟩
    · rw [List.all_cons, h2]
      rfl
    · rcases List.mem_cons.mp hq with z | z
      · rw [z]; exact kk
      · exact h3 q z
  | [], _ :: _, e => by cases e
  | _ :: _, [], e => by cases e
theorem SdL.pps {cx : Cxt} {pos : Pos} {ms : Es} {es : List Expr} (d : SdL xr X lo U cx ms es) : ∀ {ks : List Key} {os : List (Option Expr)}, ckKeys ks os = true → os.length = es.length → PPs X pos os es (trsOf xr X lo U cx ks ms) := by
  induction d with
  | nil =>
    intro ks os e hl
    cases os with
    | nil =>
      cases ks with
      | nil => exact pps_nil
      | cons => cases e
    | cons => cases hl
  | cons a p _ ih =>
    intro ks os e hl
    cases os with
    | nil => cases hl
    | cons o os =>
      cases ks with
      | nil => cases e
      | cons k ks =>
        have e := Bool.and_eq_true_iff.mp (show (ckKey k o && ckKeys ks os) = true from e)
        obtain ⟨x, rfl, pk, _⟩ := ckKey_pe (X := X) e.1
        exact pps_cons pk a.pe (ih e.2 (by simpa using hl))
theorem pairs_read {cx : Cxt} {ms : Es} {es : List Expr} (d : SdL xr X lo U cx ms es) : ∀ {ks : List Key} {σ : L2.St} {H : Hp} {ι : Own} {v : Env} {h : Hpa} {Q : List V → Hp → Prop} {Q' : List (V × V) → Hp → Prop}, ks.length = es.length → Hr (bgX X) H ι h → Lo lo h → Er (bgX X) H ι v σ →
    post (bgX X) lo (rWs (bgX X)) (xW xr (WE U σ)) H ι (evEs cx ms v h) Q → (∀ us H', us.length = ks.length → Q us H' → Q' ((ks.zip us).map fun kv => (kV kv.1, kv.2)) H') → tPairs (trsOf xr X lo U cx ks ms) σ H Q' := by
  induction d with
  | nil =>
    intro ks σ H ι v h Q Q' hk hr l er p k
    cases ks with
    | nil => exact k [] H rfl (p.ok hr l .nil)
    | cons => cases hk
  | @cons m e ms es a pl _ ih =>
    intro ks σ H ι v h Q Q' hk hr l er p k
    cases ks with
    | nil => cases hk
    | cons q ks =>
      show tE xr X lo U (evE cx m) σ H fun y H2 => tPairs (trsOf xr X lo U cx ks ms) σ H2 fun ps H3 => Q' ((kV q, y) :: ps) H3
      have p : post (bgX X) lo (rWs (bgX X)) (xW xr (WE U σ)) H ι ((evE cx m v h).bind fun x h1 => (evEs cx ms v h1).bind fun xs h2 => .ok (x :: xs) h2) Q := p
      refine (seqE hr l er p).mono fun u H1 ⟨x, ι1, h1, s1, r1, p1⟩ => ?_
      refine ih (Q := fun us H' => Q (u :: us) H') (by simpa using hk) s1.hr s1.lo s1.er ((post.bind p1).mono fun us H2 ⟨xs, ι2, h2, xt, hr2, l2, r2, p2⟩ => p2.ok hr2 l2 (.cons (r1.mono xt) r2)) fun us H' hl q' => ?_
      exact k (u :: us) H' (by simp [hl]) q'
theorem mergeK_nodup : ∀ (more : List (Key × V)) (kvs : List (Key × V)), ((kvs ++ more).map Prod.fst).Nodup → mergeK kvs more = kvs ++ more
  | [], kvs, _ => (List.append_nil kvs).symm
  | p :: more, kvs, nd => by
    show mergeK (putK kvs p.1 p.2) more = _
    have e : putK kvs p.1 p.2 = kvs ++ [p] := by
      have nd1 : p.1 ∉ kvs.map Prod.fst := by
        rw [List.map_append, List.nodup_append] at nd
        intro z
        exact nd.2.2 _ z _ (by simp) rfl
      unfold putK
      rw [if_neg]
      intro z
      obtain ⟨kv, h1, h2⟩ := List.any_eq_true.mp z
      exact nd1 (of_decide_eq_true h2 ▸ List.mem_map_of_mem h1)
    rw [e, mergeK_nodup more (kvs ++ [p]) (by simpa using nd)]
    simp
theorem zip_fst (ks : List Key) (us : List V) (e : us.length = ks.length) : (ks.zip us).map Prod.fst = ks := by
  rw [List.map_fst_zip]
  omega
theorem sd_dsp {cx : Cxt} {b : Bool} {ks : List Key} {ms : Es} {os : List (Option Expr)} {es : List Expr} {pos : Pos} (d : SdL xr X lo U cx ms es) (hk : ckKeys ks os = true) (ne : ks.isEmpty = false) (hl : os.length = es.length) (h15 : os.length ≤ 15) :
    SdE xr X lo U (.Dict os es pos) (fun v h => (evEs cx ms v h).bind fun ws h1 =>
      if ws.length = ks.length ∧ ks.length ≤ 15 ∧ ks.Nodup then (if b then .ok (.ref h1.length) (h1 ++ [.dk ks ws]) else .ok (.dk ks ws) h1) else .bad) := by
  obtain ⟨e1, e2, e3⟩ := ckKeys_ok X hk
  have ne' : ks ≠ [] := fun z => by rw [z] at ne; cases ne
  refine .plain ((pe_disp (d.pps (pos := pos) hk hl) e2 hl (fun z => by rw [z] at e1; exact ne' (List.length_eq_zero_iff.mp e1)) h15).imp fun σ H Q ⟨ι, v, h, hr, l, er, q⟩ => ?_) (fun _ => rfl) rfl
  intro p hp
  dsimp only at q
  have hr1 := hr.hold (o := .dK []) hp
  have er1 := er.monoK (Xk.hold (o := .dK []) hp)
  -- the values, the dict in the making
  have q1 : post (bgX X) lo (rWs (bgX X)) (xW xr (WE U σ)) (upd H p (.dK [])) (ι.hold p) (evEs cx ms v h) fun us H2 => us.length = ks.length → H2 p = some (.dK []) ∧ Q (.ref p) (upd H2 p (.dK (ks.zip us))) := by
    cases hm : evEs cx ms v h with
    | bad => rw [hm] at q; exact q
    | ex x h' =>
      rw [hm] at q
      intro H2 ι2 xt hr2 l2
      obtain ⟨ι', rfl, xt2⟩ := Xt.under (Xt.filled .refl hr hp) hp xt
      exact q H2 ι' xt2 hr2.free l2
    | ok ws h1 =>
      rw [hm] at q
      intro H2 ι2 us xt hr2 l2 rs hu
      obtain ⟨ι', rfl, xt2⟩ := Xt.under (Xt.filled .refl hr hp) hp xt
      have hH : H2 p = some (.dK []) := by
        rw [xt.res p List.mem_cons_self]
        exact upd_same
      refine ⟨hH, ?_⟩
      have q : post (bgX X) lo (rW (bgX X)) (xW xr (WE U σ)) H ι (if ws.length = ks.length ∧ ks.length ≤ 15 ∧ ks.Nodup then (if b then .ok (.ref h1.length) (h1 ++ [.dk ks ws]) else .ok (.dk ks ws) h1) else .bad) Q := q
      split at q
      · rename_i hc
        have hx := xt2.filled hr hp (o := .dK (ks.zip us))
        have hr3 : Hr (bgX X) (upd H2 p (.dK (ks.zip us))) (ι'.hold p) h1 := hr2.fill
        have rs3 : Rws (bgX X) (upd H2 p (.dK (ks.zip us))) (ι'.hold p) ws us := rs.monoK Xk.fill
        cases b with
        | true =>
          refine q _ (ι'.push p) _ (hx.taken hp) (hr3.take ⟨us, upd_same, hu.symm, e3, rs3.monoK Xk.take⟩) l2.new (.ref ?_)
          show (ι'.ix ++ [p])[h1.length]? = some p
          rw [← hr3.len]
          simp [Own.hold]
        | false => exact q _ ι' _ hx hr3.free l2 (.dk ⟨.inl upd_same, hr3.held⟩ hu.symm e3 (rs3.monoK Xk.free))
      · exact q.elim
  have len : ∀ {us : List V} {H2 : Hp}, us.length = ks.length → (H2 p = some (.dK []) ∧ Q (.ref p) (upd H2 p (.dK (ks.zip us)))) → ks.Nodup → H2 p = some (.dK []) ∧ ∃ kvs : List (Key × V), ((ks.zip us).map fun kv => (kV kv.1, kv.2)) = kvs.map (fun kv => (kV kv.1, kv.2)) ∧ kvs.length ≤ 15 ∧ Q (.ref p) (upd H2 p (.dK (mergeK [] kvs))) := by
    intro us H2 hu q nd
    refine ⟨q.1, ks.zip us, rfl, by rw [List.length_zip]; omega, ?_⟩
    rw [mergeK_nodup _ _ (by rw [List.nil_append, zip_fst ks us hu]; exact nd)]
    exact q.2
  by_cases nd : ks.Nodup
  · exact pairs_read d (by omega) hr1 l er1 q1 fun us H' hu q => len hu (q hu) nd
  · -- never a value: the post can't hold
    refine pairs_read (Q := fun _ _ => False) d (by omega) hr1 l er1 ?_ fun us H' hu q => q.elim
    cases hm : evEs cx ms v h with
    | bad => rw [hm] at q; exact q
    | ex x h' =>
      rw [hm] at q1
      exact q1
    | ok ws h1 =>
      rw [hm] at q
      have q : post (bgX X) lo (rW (bgX X)) (xW xr (WE U σ)) H ι (if ws.length = ks.length ∧ ks.length ≤ 15 ∧ ks.Nodup then (if b then .ok (.ref h1.length) (h1 ++ [.dk ks ws]) else .ok (.dk ks ws) h1) else .bad) Q := q
      rw [if_neg fun z => nd z.2.2] at q
      exact q.elim
/-! ### d.get(k, x) -/
theorem Rw.ofKey {B : Bg} {w : W} {u : V} {q : Key} (r : Rw B H ι w u) (e : keyOf w = some q) : u = kV q := by
  cases r <;> first | (cases e; rfl) | cases e
theorem sd_get2 {o a b : Expr} {ap cp : Pos} {mo ma mb : Env → Hpa → R W} (hu : X.A.units + 65 < cLine) (ho : PE X o (tE xr X lo U mo)) (ha : PE X a (tE xr X lo U ma)) (hb : PE X b (tE xr X lo U mb)) (pa : plainX a = true) (pb : plainX b = true) (hbase : baseB o = true) (line : (ap.endLine == cp.line) = true) :
    SdE xr X lo U (.Call (.Attribute o "get" ap) [a, b] [] cp) (fun v h => (mo v h).bind fun x h1 => if mPre h1 .get2 x then ((ma v h1).bind fun y h2 => ((mb v h2).bind fun z h3 => .ok [z] h3).bind fun ys h3 => .ok (y :: ys) h3).bind fun ws h2 => mthW lo h2 .get2 x ws else .bad) := by
  have pl : [a, b].all plainX = true := by rw [List.all_cons, List.all_cons, pa, pb]; rfl
  have m : M2 X o "get" ap a b cp := ⟨base_plain hbase, few1 (o := o) pl (show 2 < 20 by decide), line, by rw [star_cons pa, star_cons pb]; rfl⟩
  refine .plain ((pe_dget2 (by omega) ho ha hb m).imp fun σ H Q ⟨ι, v, h, hr, l, er, q⟩ => (seqE hr l er q).mono fun u H1 ⟨x, ι1, h1, s1, r1, p1⟩ => ?_) (fun _ => rfl) rfl
  by_cases hp : mPre h1 .get2 x = true
  · rw [if_pos hp] at p1
    have p1 : post (bgX X) lo (rW (bgX X)) (xW xr (WE U σ)) H1 ι1 ((ma v h1).bind fun y h2 => (mb v h2).bind fun z h3 => mthW lo h3 .get2 x [y, z]) Q := by
      have e : ((ma v h1).bind fun y h2 => (mb v h2).bind fun z h3 => mthW lo h3 .get2 x [y, z]) = ((ma v h1).bind fun y h2 => ((mb v h2).bind fun z h3 => .ok [z] h3).bind fun ys h3 => .ok (y :: ys) h3).bind fun ws h2 => mthW lo h2 .get2 x ws := by
        cases ma v h1 with
        | ok y h2 =>
          show ((mb v h2).bind fun z h3 => mthW lo h3 .get2 x [y, z]) = (((mb v h2).bind fun z h3 => R.ok [z] h3).bind fun ys h3 => R.ok (y :: ys) h3).bind fun ws h2 => mthW lo h2 .get2 x ws
          cases mb v h2 <;> rfl
        | ex _ _ => rfl
        | bad => rfl
      rw [e]
      exact p1
    have hs : (asDk h1 x).isSome = true ∧ ¬ ∃ a b, x = .dkw a b := by
      cases x <;> first | exact ⟨hp, by rintro ⟨_, _, z⟩; cases z⟩ | cases hp
    obtain ⟨hs, nw⟩ := hs
    obtain ⟨⟨ks, ws⟩, ed⟩ := Option.isSome_iff_exists.mp hs
    obtain ⟨p, vs, eu, rd, hl, hk, rs⟩ := asDk_ok s1.hr r1 ed
    subst eu
    refine ⟨p, rfl, .inl ⟨_, rd.resolve_right fun z => nw z.2⟩, (seqE s1.hr s1.lo s1.er p1).mono fun u2 H2 ⟨y, ι2, h2, s2, r2, p2⟩ => (seqE s2.hr s2.lo s2.er p2).mono fun u3 H3 ⟨z, ι3, h3, s3, r3, p3⟩ => ?_⟩
    have rx := r1.mono (s2.xt.trans s3.xt)
    have ry := r2.mono s3.xt
    simp only [mthW] at p3
    cases ed3 : asDk h3 x with
    | none => rw [ed3] at p3; exact p3.elim
    | some pr =>
      obtain ⟨ks', ws'⟩ := pr
      rw [ed3] at p3
      cases ek : keyIn x y with
      | none => rw [ek] at p3; exact p3.elim
      | some k =>
        rw [ek] at p3
        dsimp only at p3
        obtain ⟨p', vs', eu', rd', hl', hk', rs'⟩ := asDk_ok s3.hr rx ed3
        cases eu'
        obtain ⟨ey, kk, _⟩ := keyIn_V ry ek
        refine ⟨_, .inl ⟨_, k, rd'.resolve_right fun z => nw z.2, ey, rfl⟩, p3.ok s3.hr s3.lo ?_⟩
        have lk := lookK_val (q := k) hl' rs'
        cases el : lookK ks' ws' k with
        | none =>
          rw [lk.2 el]
          exact r3
        | some w =>
          obtain ⟨u, e1, e2⟩ := lk.1 w el
          rw [e1]
          exact e2
  · rw [if_neg hp] at p1
    exact p1.elim
/-! ### is True, xs[::-1] -/
def rIsX : R2 := fun x y H Q => ∃ b : Bool, y = .bl b ∧ Q (.bl (decide (x = .bl b))) H
theorem op_isX : OpR X (compareOp .Is) rIsX := by
  intro pins s σ H x y v u Q I rx ry h
  obtain ⟨b, rfl, q⟩ := h
  cases (show u = Value.bool b from ry)
  by_cases e : x = .bl b
  · subst e
    cases (show v = Value.bool b from rx)
    exact wpAny_is_self rfl ⟨.bl true, H, I, rfl, by simpa using q⟩
  · have ne : v ≠ Value.bool b := fun z => by
      subst z
      cases x with
      | bl c => exact e (by cases (show Value.bool b = Value.bool c from rx); rfl)
      | non => exact nomatch (show Value.bool b = Value.none from rx)
      | int i => obtain ⟨t, z⟩ := (show ∃ t, Value.bool b = Value.int i t from rx); cases z
      | str i => obtain ⟨t, z⟩ := (show ∃ t, Value.bool b = Value.str i t from rx); cases z
      | byt i => obtain ⟨t, z⟩ := (show ∃ t, Value.bool b = Value.bytes i t from rx); cases z
      | flt i => obtain ⟨t, z⟩ := (show ∃ t, Value.bool b = Value.float i t from rx); cases z
      | ref a => exact nomatch (show Value.bool b = Value.ref a from rx)
      | ty n => exact nomatch (show Value.bool b = Value.type n from rx)
    have pl : plainIs v (Value.bool b) = true := by
      cases x with
      | non => cases (show v = Value.none from rx); rfl
      | bl c => cases (show v = Value.bool c from rx); rfl
      | int i => obtain ⟨t, rfl⟩ := (show ∃ t, v = Value.int i t from rx); rfl
      | str i => obtain ⟨t, rfl⟩ := (show ∃ t, v = Value.str i t from rx); rfl
      | byt i => obtain ⟨t, rfl⟩ := (show ∃ t, v = Value.bytes i t from rx); rfl
      | flt i => obtain ⟨t, rfl⟩ := (show ∃ t, v = Value.float i t from rx); rfl
      | ref a => cases (show v = Value.ref a from rx); rfl
      | ty n => cases (show v = Value.type n from rx); rfl
    exact wpAny_is_other pl ne ⟨.bl false, H, I, rfl, by simpa [e] using q⟩
theorem isbW_eq {B : Bg} {w : W} {u : V} {b : Bool} (r : Rw B H ι w u) : isbW b w = decide (u = .bl b) := by
  cases r with
  | bl c => cases b <;> cases c <;> rfl
  | _ => simp [isbW]
theorem sd_isB {a : Expr} {pos p2 : Pos} {k2} {b : Bool} {ma : Env → Hpa → R W} (ha : PE X a (tE xr X lo U ma)) :
    SdE xr X lo U (.Compare a [.Is] [.Constant (.bool b) k2 p2] pos) (fun v h => (ma v h).bind fun x h1 => .ok (.bl (isbW b x)) h1) := by
  have k : ∀ σ H Q, tE xr X lo U (fun v h => (ma v h).bind fun x h1 => .ok (.bl (isbW b x)) h1) σ H Q → tOp rIsX (tE xr X lo U ma) (tC (.bl b)) σ H Q := fun σ H Q ⟨ι, v, h, hr, l, er, p⟩ => (seqE hr l er p).mono fun u H1 ⟨x, ι1, h1, s1, r1, p1⟩ =>
    ⟨b, rfl, by rw [isbW_eq r1] at p1; exact p1.ok s1.hr s1.lo (.bl _)⟩
  exact .mk2 ((pe_cmpR op_isX ha pe_bl rfl).imp k) (tTest_of (pt_cmpR op_isX ha pe_bl rfl) k) rfl
theorem Rws.rev {B : Bg} : ∀ {ws : List W} {us : List V}, Rws B H ι ws us → Rws B H ι ws.reverse us.reverse
  | _, _, .nil => .nil
  | _, _, .cons a r => by
    rw [List.reverse_cons, List.reverse_cons]
    exact (Rws.rev r).append (.cons a .nil)
theorem sd_rev {e : Expr} {k : Nat} {p1 p2 p3 pos : Pos} {ma : Env → Hpa → R W} (ha : PE X e (tE xr X lo U ma)) :
    SdE xr X lo U (.Subscript e (.Slice none none (some (.UnaryOp .USub (.Constant (.int 1) k p1) p2)) p3) pos) (fun v h => (ma v h).bind fun x h1 => ofO ((asL h1 x).map fun xs => .lst xs.reverse) h1) := by
  refine .plain ((pe_revL ha).imp fun σ H Q ⟨ι, v, h, hr, l, er, p⟩ => (seqE hr l er p).mono fun u H1 ⟨x, ι1, h1, s1, r1, p1⟩ => ?_) (fun _ => rfl) rfl
  cases hx : asL h1 x with
  | none => rw [hx] at p1; exact p1.elim
  | some xs =>
    rw [hx] at p1
    obtain ⟨a, vs, eu, sq, rs⟩ := asL_ok s1.hr r1 hx
    refine ⟨a, vs, eu, sq, fun q hq => ?_⟩
    exact p1 _ ι1 _ (Xt.new hq s1.hr) (s1.hr.new hq) s1.lo (.lst ⟨upd_same, s1.hr.fresh hq⟩ ((rs.rev).mono (Xt.new hq s1.hr)))
end
end Mi

/-! Mi12: targets, what is walked, comprehensions. -/
namespace Mi
open PySem PySem.Spec PyProof.Rows L2
/-! ### targets -/
theorem wipe_get (σ : L2.St) : ∀ (is : List Nat) (j : Nat), (wipe σ is)[j]? = if j ∈ is ∧ j < σ.length then some none else σ[j]?
  | [], j => by simp [wipe]
  | i :: is, j => by
    have ih := wipe_get σ is j
    show ((wipe σ is).set i none)[j]? = _
    by_cases hj : i = j
    · subst hj
      by_cases hl : i < σ.length
      · rw [List.getElem?_set_self (by rw [wipe_length]; exact hl), if_pos ⟨List.mem_cons_self, hl⟩]
      · rw [List.getElem?_eq_none (by rw [List.length_set, wipe_length]; omega), if_neg (fun z => hl z.2), List.getElem?_eq_none (by omega)]
    · rw [List.getElem?_set_ne hj, ih]
      by_cases hm : j ∈ is ∧ j < σ.length
      · rw [if_pos hm, if_pos ⟨List.mem_cons_of_mem _ hm.1, hm.2⟩]
      · rw [if_neg hm, if_neg (fun z => hm ⟨(List.mem_cons.mp z.1).resolve_left (fun q => hj q.symm), z.2⟩)]
theorem wipe_wipe (σ : L2.St) (is : List Nat) : wipe (wipe σ is) is = wipe σ is := by
  apply List.ext_getElem?
  intro j
  rw [wipe_get, wipe_get]
  by_cases hm : j ∈ is ∧ j < σ.length
  · rw [if_pos hm, if_pos ⟨hm.1, by rw [wipe_length]; exact hm.2⟩]
  · rw [if_neg (fun z => hm ⟨z.1, by rw [wipe_length] at z; exact z.2⟩), if_neg hm]
theorem wipe_set (σ : L2.St) {is : List Nat} {i : Nat} (x : Option V) (hi : i ∈ is) : wipe (σ.set i x) is = wipe σ is := by
  apply List.ext_getElem?
  intro j
  rw [wipe_get, wipe_get]
  by_cases hm : j ∈ is ∧ j < σ.length
  · rw [if_pos hm, if_pos ⟨hm.1, by rw [List.length_set]; exact hm.2⟩]
  · rw [if_neg (fun z => hm ⟨z.1, by rw [List.length_set] at z; exact z.2⟩), if_neg hm]
    by_cases hj : i = j
    · subst hj
      have hl : ¬ i < σ.length := fun z => hm ⟨hi, z⟩
      rw [List.getElem?_eq_none (by rw [List.length_set]; omega), List.getElem?_eq_none (by omega)]
    · rw [List.getElem?_set_ne hj]
section
variable {xr : Exn → Hp → Value → Option Addr → Prop} {X : Cx} {lo : Lv} {U : WX} {σ : L2.St} {H : Hp} {ι : Own} {v : Env} {h : Hpa} {γ δ : Type}
/-- the slots behind a store -/
def tG (B : Bg) (t : Tg) : TG := fun u σ H Q => ∃ ι w v v', Er B H ι v σ ∧ Rw B H ι w u ∧ setTg t w v = some v' ∧ ∀ σ', Er B H ι v' σ' → wipe σ' (tgs t) = wipe σ (tgs t) → Q σ' H
def setAll : List Nat → List W → Env → Env
  | i :: is, w :: ws, v => setAll is ws (v.set i (some w))
  | _, _, v => v
theorem setAll_eq : ∀ (is : List Nat) (ws : List W) (v : Env), (is.zip ws).foldl (fun v p => v.set p.1 (some p.2)) v = setAll is ws v
  | [], _, _ => rfl
  | _ :: _, [], _ => rfl
  | _ :: is, _ :: ws, v => setAll_eq is ws _
def gsOf : List Nat → TGs
  | [] => gNil
  | i :: is => gCons (gName i) (gsOf is)
theorem locB_ok {blk : Bool} {x : Str} (e : locB blk X.env.scope x = true) : Loc X.env.scope x ∧ (blk = true → X.env.scope.names.lookup x = some .local) := by
  unfold locB at e
  split at e
  · exact ⟨.inl (by assumption), fun _ => by assumption⟩
  · refine ⟨.inr (by assumption), fun z => ?_⟩
    rw [z] at e
    cases e
  · cases e
theorem pg_nm {i : Nat} {x : Str} {pos : Pos} {blk : Bool} (hN : X.N.Nodup) (hi : X.N[i]? = some x) (e : locB blk X.env.scope x = true) (hf : blk = false → ∀ x, X.fn x = true) : PG X (.Name x pos) (gName i) := by
  obtain ⟨h1, h2⟩ := locB_ok e
  cases blk with
  | true => exact pg_name hN hi h1 (.inr (h2 rfl))
  | false => exact pg_name hN hi h1 (.inl (hf rfl x))
theorem pgs_names {blk : Bool} (hN : X.N.Nodup) (hf : blk = false → ∀ x, X.fn x = true) : ∀ {is : List Nat} {es : List Expr}, ckNames X.N X.env.scope blk is es = true →
    PGs X es (gsOf is) ∧ (assignEach es X.env).length = is.length ∧ (assignEach es X.env).findIdx? (·.1) = none
  | [], [], _ => ⟨pgs_nil, rfl, rfl⟩
  | i :: is, e :: es, c => by
    cases e with
    | Name x pos =>
      have c1 := Bool.and_eq_true_iff.mp (show ((decide (X.N[i]? = some x) && locB blk X.env.scope x) && ckNames X.N X.env.scope blk is es) = true from c)
      have c2 := Bool.and_eq_true_iff.mp c1.1
      obtain ⟨h1, h2, h3⟩ := pgs_names hN hf c1.2
      refine ⟨pgs_cons (pg_nm hN (of_decide_eq_true c2.1) c2.2 hf) h1 rfl, ?_, ?_⟩
      · show (assignEach es X.env).length + 1 = is.length + 1
        rw [h2]
      · show List.findIdx? (·.1) ((false, assign (.Name x pos) X.env) :: assignEach es X.env) = none
        rw [List.findIdx?_cons, h3]
        rfl
    | _ => cases c
  | [], _ :: _, c => by cases c
  | _ :: _, [], c => by cases c
theorem gs_read {B : Bg} {j : List Nat} : ∀ {is : List Nat} {ws : List W} {us : List V} {v : Env} {σ : L2.St} {Q : L2.St → Hp → Prop}, is.length = ws.length → Rws B H ι ws us → Er B H ι v σ → (∀ i ∈ is, i ∈ j) →
    (∀ σ', Er B H ι (setAll is ws v) σ' → wipe σ' j = wipe σ j → Q σ' H) → gsOf is us σ H Q
  | [], [], _, _, _, _, _, .nil, er, _, k => ⟨rfl, k _ er rfl⟩
  | i :: is, w :: ws, _, v, σ, Q, hl, .cons (u := u) (us := us) r rs, er, hj, k =>
    ⟨u, us, rfl, gs_read (j := j) (by simpa using hl) rs (er.set r) (fun i hi => hj i (List.mem_cons_of_mem _ hi)) fun σ' er' e => k σ' er' (e.trans (wipe_set σ _ (hj i List.mem_cons_self)))⟩
  | [], _ :: _, _, _, _, _, hl, _, _, _, _ => by cases hl
  | _ :: _, [], _, _, _, _, hl, _, _, _, _ => by cases hl
theorem PG.imp' {e : Expr} {t t' : TG} (p : PG X e t) (k : ∀ u σ H Q, t' u σ H Q → t u σ H Q) : PG X e t' := ⟨fun pins s σ H v u Q I r q => p.run pins s σ H v u Q I r (k v σ H Q q)⟩
theorem sd_tg {t : Tg} {e : Expr} {blk : Bool} (calm : X.calm = true) (hN : X.N.Nodup) (hf : blk = false → ∀ x, X.fn x = true) (c : ckTg X.N X.env.scope blk t e = true) : PG X e (tG (bgX X) t) := by
  cases t with
  | nm i =>
    cases e with
    | Name x pos =>
      have c1 := Bool.and_eq_true_iff.mp (show (decide (X.N[i]? = some x) && locB blk X.env.scope x) = true from c)
      refine PG.imp' (pg_nm hN (of_decide_eq_true c1.1) c1.2 hf) fun u σ H Q ⟨ι, w, v, v', er, r, e, k⟩ => ?_
      cases e
      exact k _ (er.set r) (wipe_set σ _ (by simp [tgs]))
    | _ => cases c
  | tp is =>
    cases e with
    | Tuple es kk pos =>
      obtain ⟨h1, h2, h3⟩ := pgs_names hN hf (show ckNames X.N X.env.scope blk is es = true from c)
      refine PG.imp' (pg_tup (n := is.length) calm h1 h2 h3) fun u σ H Q ⟨ι, w, v, v', er, r, e, k⟩ => ?_
      cases r with
      | @tup ws vs a f rs =>
        have e : (if is.length = ws.length then some ((is.zip ws).foldl (fun v p => v.set p.1 (some p.2)) v) else none) = some v' := e
        split at e
        · rename_i hl
          cases e
          rw [setAll_eq] at k
          exact ⟨a, vs, rfl, f.sq, by rw [← rs.length, hl], gs_read hl rs er (fun i hi => hi) k⟩
        · cases e
      | _ => cases e
    | _ => cases c
/-! ### what is walked -/
structure Wkr (B : Bg) (H0 : Hp) (ι0 : Own) (J : L2.It) (wk : Wk) : Prop where
  goes : ∀ i H ι h, Xk H0 ι0 H ι → Hr B H ι h → okGs wk.g h = true → i < wk.xs.length → J.go i H
  stops : ∀ H ι h, Xk H0 ι0 H ι → Hr B H ι h → okGs wk.g h = true → J.stop wk.xs.length H
  yields : ∀ i H ι h x H', Xk H0 ι0 H ι → Hr B H ι h → okGs wk.g h = true → J.yld i H x H' → ∀ w, wk.xs[i]? = some w → Xt H ι H' ι ∧ Hr B H' ι h ∧ Rw B H' ι w x
def tI (xr : Exn → Hp → Value → Option Addr → Prop) (X : Cx) (lo : Lv) (U : WX) (m : Env → Hpa → R Wk) : TI := fun σ H Q => ∃ ι v h, Hr (bgX X) H ι h ∧ Lo lo h ∧ Er (bgX X) H ι v σ ∧ post (bgX X) lo (fun H ι wk J => Wkr (bgX X) H ι J wk) (xW xr (WE U σ)) H ι (m v h) Q
theorem PI.imp' {tg e : Expr} {t t' : TI} (p : PI X tg e t) (k : ∀ σ H Q, t' σ H Q → t σ H Q) : PI X tg e t' := ⟨fun pins s σ H Q I q => p.run pins s σ H Q I (k σ H Q q)⟩
theorem okG_lst {n : Nat} {xs : List W} (e : okG (some n) xs h = true) : h[n]? = some (.lst xs) := by
  unfold okG at e
  dsimp only at e
  split at e
  · rename_i ys he
    rw [he, W.sames_eq ys xs e]
  · cases e
theorem stayL {h0 : Hpa} {x : W} {xs : List W} (e : asL h0 x = some xs) (g : okGs (gOn x xs) h = true) : asL h x = some xs := by
  cases x with
  | ref n =>
    have g : (okG (some n) xs h && true) = true := g
    have g1 := okG_lst (Bool.and_eq_true_iff.mp g).1
    simp [asL, g1]
  | lst ys => exact e
  | lsk ys => exact e
  | _ => cases e
theorem okGs_append {a b : List (Nat × List W)} (g : okGs (a ++ b) h = true) : okGs a h = true ∧ okGs b h = true := by
  unfold okGs at g ⊢
  rw [List.all_append] at g
  exact Bool.and_eq_true_iff.mp g
theorem ref_inj {a b : Addr} (e : V.ref a = V.ref b) : a = b := by cases e; rfl
theorem list_stays {B : Bg} {H0 : Hp} {ι0 : Own} {h0 : Hpa} {x : W} {a : Addr} {xs : List W} (rx : Rw B H0 ι0 x (.ref a)) (e : asL h0 x = some xs) {H : Hp} {ι : Own} (xk : Xk H0 ι0 H ι) (hr : Hr B H ι h) (g : okGs (gOn x xs) h = true) :
    ∃ vs, SqL B.K H a vs ∧ Rws B H ι xs vs := by
  obtain ⟨b, vs, eu, sq, rs⟩ := asL_ok hr (rx.monoK xk) (stayL e g)
  cases eu
  exact ⟨vs, sq, rs⟩
theorem wk_list {B : Bg} {H0 : Hp} {ι0 : Own} {h0 : Hpa} {x : W} {a : Addr} {xs : List W} (rx : Rw B H0 ι0 x (.ref a)) (e : asL h0 x = some xs) : Wkr B H0 ι0 (Itl B.K a) ⟨xs, gOn x xs⟩ where
  goes := fun i H ι h xk hr g hi => by
    obtain ⟨vs, sq, rs⟩ := list_stays rx e xk hr g
    have hl := rs.length
    have hi : i < xs.length := hi
    exact ⟨vs, vs[i]'(by omega), sq, by simp⟩
  stops := fun H ι h xk hr g => by
    obtain ⟨vs, sq, rs⟩ := list_stays rx e xk hr g
    exact ⟨vs, sq, Nat.le_of_eq rs.length.symm⟩
  yields := fun i H ι h x' H' xk hr g y w hw => by
    obtain ⟨vs, sq, rs⟩ := list_stays rx e xk hr g
    obtain ⟨rfl, y⟩ := y
    obtain ⟨u, e1, e2⟩ := rs.get hw
    rw [y vs sq] at e1
    cases e1
    exact ⟨.refl, hr, e2⟩
theorem wk_tup {B : Bg} {H0 : Hp} {ι0 : Own} {a : Addr} {xs : List W} (rx : Rw B H0 ι0 (.tup xs) (.ref a)) : Wkr B H0 ι0 (Itt B.K a) ⟨xs, []⟩ := by
  have st : ∀ {H : Hp} {ι : Own}, Xk H0 ι0 H ι → ∃ vs, SqT B.K H a vs ∧ Rws B H ι xs vs := fun {H ι} xk => by
    cases rx.monoK xk with
    | tup f rs => exact ⟨_, f.sq, rs⟩
  refine ⟨fun i H ι h xk hr g hi => ?_, fun H ι h xk hr g => ?_, fun i H ι h x' H' xk hr g y w hw => ?_⟩
  · obtain ⟨vs, sq, rs⟩ := st xk
    have hl := rs.length
    have hi : i < xs.length := hi
    exact ⟨vs, vs[i]'(by omega), sq, by simp⟩
  · obtain ⟨vs, sq, rs⟩ := st xk
    exact ⟨vs, sq, Nat.le_of_eq rs.length.symm⟩
  · obtain ⟨vs, sq, rs⟩ := st xk
    obtain ⟨rfl, y⟩ := y
    obtain ⟨u, e1, e2⟩ := rs.get hw
    rw [y vs sq] at e1
    cases e1
    exact ⟨.refl, hr, e2⟩
theorem strSigns_get {s : Str} {i : Nat} {w : W} (e : (strSigns s)[i]? = some w) : ∃ c, s.cps[i]? = some c ∧ w = .str ⟨#[c]⟩ := by
  unfold strSigns at e
  rw [List.getElem?_map] at e
  cases q : s.cps.toList[i]? with
  | none => rw [q] at e; cases e
  | some c =>
    rw [q] at e
    cases e
    exact ⟨c, by simpa using q, rfl⟩
theorem wk_str {B : Bg} {H0 : Hp} {ι0 : Own} {s : Str} (so : sOk s) : Wkr B H0 ι0 (Its s) ⟨strSigns s, []⟩ := by
  have hl : (strSigns s).length = s.cps.size := by simp [strSigns]
  refine ⟨fun i H ι h xk hr g hi => ?_, fun H ι h xk hr g => ?_, fun i H ι h x' H' xk hr g y w hw => ?_⟩
  · have hi : i < (strSigns s).length := hi
    show i < s.cps.size
    omega
  · show s.cps.size ≤ (strSigns s).length
    omega
  · obtain ⟨rfl, c, e1, rfl⟩ := y
    obtain ⟨c', e2, rfl⟩ := strSigns_get hw
    rw [e1] at e2
    cases e2
    refine ⟨.refl, hr, .str _ (so.one ?_)⟩
    have q : s.cps.toList[i]? = some c := by simpa using e1
    exact List.mem_of_getElem? q
theorem rngW_get {a b : Int} {i : Nat} {w : W} (e : (rngW a b)[i]? = some w) : w = .int (a + (i : Int)) := by
  unfold rngW at e
  rw [List.getElem?_map] at e
  cases q : (List.range (b - a).toNat)[i]? with
  | none => rw [q] at e; cases e
  | some c =>
    rw [q] at e
    cases e
    rw [List.getElem?_range (by have := (List.getElem?_eq_some_iff.mp q).1; simpa using this)] at q
    cases q
    rfl
theorem wk_rng {B : Bg} {H0 : Hp} {ι0 : Own} {a b : Int} : Wkr B H0 ι0 (Itr a (b - a).toNat) ⟨rngW a b, []⟩ := by
  have hl : (rngW a b).length = (b - a).toNat := by simp [rngW]
  refine ⟨fun i H ι h xk hr g hi => ?_, fun H ι h xk hr g => ?_, fun i H ι h x' H' xk hr g y w hw => ?_⟩
  · have hi : i < (rngW a b).length := hi
    show i < (b - a).toNat
    omega
  · show (b - a).toNat ≤ (rngW a b).length
    omega
  · obtain ⟨rfl, rfl⟩ := y
    rw [rngW_get hw]
    exact ⟨.refl, hr, .int _⟩
theorem pairs_get {xs ys : List W} {i : Nat} {w : W} (e : (pairs xs ys)[i]? = some w) : ∃ x y, xs[i]? = some x ∧ ys[i]? = some y ∧ w = .tup [x, y] := by
  unfold pairs at e
  rw [List.getElem?_map] at e
  cases q : (xs.zip ys)[i]? with
  | none => rw [q] at e; cases e
  | some p =>
    rw [q] at e
    cases e
    have z := List.getElem?_zip_eq_some.mp q
    exact ⟨_, _, z.1, z.2, rfl⟩
theorem pair_new {B : Bg} {x y : W} {u v : V} {T : Addr} (hr : Hr B H ι h) (hT : H T = none) (rx : Rw B H ι x u) (ry : Rw B H ι y v) : Xt H ι (upd H T (.tup [u, v])) ι ∧ Hr B (upd H T (.tup [u, v])) ι h ∧ Rw B (upd H T (.tup [u, v])) ι (.tup [x, y]) (.ref T) :=
  ⟨Xt.new hT hr, hr.new hT, .tup (.inl ⟨.inl upd_same, hr.fresh hT⟩) (.cons (rx.mono (Xt.new hT hr)) (.cons (ry.mono (Xt.new hT hr)) .nil))⟩
theorem pairs_length (xs ys : List W) : (pairs xs ys).length = min xs.length ys.length := by simp [pairs]
theorem wk_enum {B : Bg} {H0 : Hp} {ι0 : Own} {h0 : Hpa} {x : W} {a : Addr} {xs : List W} (rx : Rw B H0 ι0 x (.ref a)) (e : asL h0 x = some xs) : Wkr B H0 ι0 (Ite B.K a) ⟨enumW xs, gOn x xs⟩ := by
  have hn : (enumW xs).length = xs.length := by unfold enumW; rw [pairs_length]; simp [rngW]
  refine ⟨fun i H ι h xk hr g hi => ?_, fun H ι h xk hr g => ?_, fun i H ι h x' H' xk hr g y w hw => ?_⟩
  · obtain ⟨vs, sq, rs⟩ := list_stays rx e xk hr g
    have hl := rs.length
    have hi : i < (enumW xs).length := hi
    exact ⟨vs, vs[i]'(by omega), sq, by simp⟩
  · obtain ⟨vs, sq, rs⟩ := list_stays rx e xk hr g
    have hl := rs.length
    exact ⟨vs, sq, show vs.length ≤ (enumW xs).length by omega⟩
  · obtain ⟨vs, sq, rs⟩ := list_stays rx e xk hr g
    obtain ⟨T, z, rfl, hT, rfl, y⟩ := y
    obtain ⟨p, q, e1, e2, rfl⟩ := pairs_get hw
    have e1 := rngW_get e1
    subst e1
    obtain ⟨u, e3, e4⟩ := rs.get e2
    rw [y vs sq] at e3
    cases e3
    have := pair_new hr hT (.int (i : Nat)) e4
    rwa [show ((0 : Int) + (i : Int)) = ((i : Nat) : Int) by simp]
theorem wk_zip {B : Bg} {H0 : Hp} {ι0 : Own} {h0 : Hpa} {x y : W} {a b : Addr} {xs ys : List W} (rx : Rw B H0 ι0 x (.ref a)) (ry : Rw B H0 ι0 y (.ref b)) (ex : asL h0 x = some xs) (ey : asL h0 y = some ys) : Wkr B H0 ι0 (Itz B.K a b) ⟨pairs xs ys, gOn x xs ++ gOn y ys⟩ := by
  refine ⟨fun i H ι h xk hr g hi => ?_, fun H ι h xk hr g => ?_, fun i H ι h x' H' xk hr g y w hw => ?_⟩
  · obtain ⟨g1, g2⟩ := okGs_append g
    obtain ⟨vs, sq, rs⟩ := list_stays rx ex xk hr g1
    obtain ⟨vt, st, rt⟩ := list_stays ry ey xk hr g2
    have hl := rs.length
    have hl2 := rt.length
    have hi : i < (pairs xs ys).length := hi
    rw [pairs_length] at hi
    exact ⟨vs, vt, vs[i]'(by omega), vt[i]'(by omega), sq, st, by simp, by simp⟩
  · obtain ⟨g1, g2⟩ := okGs_append g
    obtain ⟨vs, sq, rs⟩ := list_stays rx ex xk hr g1
    obtain ⟨vt, st, rt⟩ := list_stays ry ey xk hr g2
    have hl := rs.length
    have hl2 := rt.length
    refine ⟨vs, vt, sq, st, ?_⟩
    have : (pairs xs ys).length = min xs.length ys.length := pairs_length xs ys
    show vs.length ≤ (pairs xs ys).length ∨ vt.length ≤ (pairs xs ys).length
    omega
  · obtain ⟨g1, g2⟩ := okGs_append g
    obtain ⟨vs, sq, rs⟩ := list_stays rx ex xk hr g1
    obtain ⟨vt, st, rt⟩ := list_stays ry ey xk hr g2
    obtain ⟨T, z, z', rfl, hT, rfl, y1, y2⟩ := y
    obtain ⟨p, q, e1, e2, rfl⟩ := pairs_get hw
    obtain ⟨u, e3, e4⟩ := rs.get e1
    obtain ⟨u', e5, e6⟩ := rt.get e2
    rw [y1 vs sq] at e3
    cases e3
    rw [y2 vt st] at e5
    cases e5
    exact pair_new hr hT e4 e6
theorem tup_stays {B : Bg} {H0 : Hp} {ι0 : Own} {a : Addr} {xs : List W} (rx : Rw B H0 ι0 (.tup xs) (.ref a)) {H : Hp} {ι : Own} (xk : Xk H0 ι0 H ι) : ∃ vs, SqT B.K H a vs ∧ Rws B H ι xs vs := by
  cases rx.monoK xk with
  | tup f rs => exact ⟨_, f.sq, rs⟩
theorem wk_zipT {B : Bg} {H0 : Hp} {ι0 : Own} {a b : Addr} {xs ys : List W} (rx : Rw B H0 ι0 (.tup xs) (.ref a)) (ry : Rw B H0 ι0 (.tup ys) (.ref b)) : Wkr B H0 ι0 (RZ.ItzT B.K a b) ⟨pairs xs ys, []⟩ := by
  refine ⟨fun i H ι h xk hr g hi => ?_, fun H ι h xk hr g => ?_, fun i H ι h x' H' xk hr g y w hw => ?_⟩
  · obtain ⟨vs, sq, rs⟩ := tup_stays rx xk
    obtain ⟨vt, st, rt⟩ := tup_stays ry xk
    have hl := rs.length
    have hl2 := rt.length
    have hi : i < (pairs xs ys).length := hi
    rw [pairs_length] at hi
    exact ⟨vs, vt, vs[i]'(by omega), vt[i]'(by omega), sq, st, by simp, by simp⟩
  · obtain ⟨vs, sq, rs⟩ := tup_stays rx xk
    obtain ⟨vt, st, rt⟩ := tup_stays ry xk
    have hl := rs.length
    have hl2 := rt.length
    refine ⟨vs, vt, sq, st, ?_⟩
    have : (pairs xs ys).length = min xs.length ys.length := pairs_length xs ys
    show vs.length ≤ (pairs xs ys).length ∨ vt.length ≤ (pairs xs ys).length
    omega
  · obtain ⟨vs, sq, rs⟩ := tup_stays rx xk
    obtain ⟨vt, st, rt⟩ := tup_stays ry xk
    obtain ⟨T, z, z', rfl, hT, rfl, y1, y2⟩ := y
    obtain ⟨p, q, e1, e2, rfl⟩ := pairs_get hw
    obtain ⟨u, e3, e4⟩ := rs.get e1
    obtain ⟨u', e5, e6⟩ := rt.get e2
    rw [y1 vs sq] at e3
    cases e3
    rw [y2 vt st] at e5
    cases e5
    exact pair_new hr hT e4 e6
/-! ### the iterated expressions -/
theorem si_of {tg e : Expr} {m : Env → Hpa → R W} (he : PE X e (tE xr X lo U m)) : PI X tg e (tI xr X lo U (fun v h => (m v h).bind fun x h1 => ofO (wkOf h1 x) h1)) := by
  refine ⟨fun pins s σ H Q I ⟨ι, v, h, hr, l, er, p⟩ => ?_⟩
  cases hm : m v h with
  | bad =>
    dsimp only at p
    rw [hm] at p
    exact p.elim
  | ex x h' =>
    dsimp only at p
    rw [hm] at p
    exact (pi_list (tg := tg) he).run pins s σ H Q I ⟨ι, v, h, hr, l, er, by rw [hm]; exact p⟩
  | ok x h1 =>
    dsimp only at p
    rw [hm] at p
    have p : post (bgX X) lo (fun H ι wk J => Wkr (bgX X) H ι J wk) (xW xr (WE U σ)) H ι (ofO (wkOf h1 x) h1) Q := p
    have lst : ∀ xs, asL h1 x = some xs → wkOf h1 x = some ⟨xs, gOn x xs⟩ → wpAny (model X.prog X.w) X.A (eval e X.env) (fun v s1 => wpAny (model X.prog X.w) X.A (pyIter v) (PIE X pins σ tg Q) X.xe s1) X.xe s := fun xs ex ew => by
      rw [ew] at p
      refine (pi_list (tg := tg) he).run pins s σ H Q I ⟨ι, v, h, hr, l, er, ?_⟩
      rw [hm]
      intro H' ι' u xt hr' l' ru
      obtain ⟨a, vs, eu, sq, rs⟩ := asL_ok hr' ru ex
      subst eu
      exact ⟨a, rfl, ⟨vs, sq⟩, p H' ι' _ xt hr' l' (wk_list ru ex)⟩
    cases x with
    | str t =>
      refine (pi_str (tg := tg) he).run pins s σ H Q I ⟨ι, v, h, hr, l, er, ?_⟩
      rw [hm]
      intro H' ι' u xt hr' l' ru
      cases ru with
      | str _ so => exact ⟨t, rfl, p H' ι' _ xt hr' l' (wk_str so)⟩
    | tup xs =>
      refine (pi_tup (tg := tg) he).run pins s σ H Q I ⟨ι, v, h, hr, l, er, ?_⟩
      rw [hm]
      intro H' ι' u xt hr' l' ru
      cases ru with
      | @tup _ vs a f rs => exact ⟨a, rfl, ⟨vs, f.sq⟩, p H' ι' _ xt hr' l' (wk_tup (.tup f rs))⟩
    | lst xs => exact lst xs rfl rfl
    | lsk xs => exact lst xs rfl rfl
    | ref n =>
      cases hx : asL h1 (.ref n) with
      | none =>
        have e : wkOf h1 (.ref n) = none := by simp [wkOf, hx]
        rw [e] at p
        exact p.elim
      | some xs => exact lst xs hx (by simp [wkOf, hx])
    | _ => exact (show False from p).elim
theorem small62_ok {i : Int} (e : small62 i = true) : -(2 ^ 62) ≤ i ∧ i < 2 ^ 62 := by
  unfold small62 at e
  have e := Bool.and_eq_true_iff.mp e
  exact ⟨of_decide_eq_true e.1, of_decide_eq_true e.2⟩
theorem si_rng1 {tg a : Expr} {p pos : Pos} {m : Env → Hpa → R W} (hm : ∀ x ∈ bNames, X.mg x = none) (hg : glB X.env.scope "range" = true) (pl : plainX a = true) (ha : PE X a (tE xr X lo U m)) :
    PI X tg (.Call (.Name "range" p) [a] [] pos) (tI xr X lo U (fun v h => (m v h).bind fun x h1 => (match x with
    | .int i => if small62 i then .ok ⟨rngW 0 i, []⟩ h1 else .bad
    | _ => .bad))) := by
  refine PI.imp' (pi_range1 (glB_ok hg) (hm _ (by decide)) (pa_cons ha pa_nil (star_cons pl [] X.env)) (star_cons pl [] X.env)) fun σ H Q ⟨ι, v, h, hr, l, er, q⟩ => (seqE hr l er q).mono fun u H1 ⟨x, ι1, h1, s1, r1, p1⟩ => ?_
  cases x with
  | int i =>
    cases r1
    dsimp only at p1
    split at p1
    · rename_i hs
      obtain ⟨z1, z2⟩ := small62_ok hs
      refine ⟨i, rfl, z1, z2, p1.ok s1.hr s1.lo ?_⟩
      have := wk_rng (B := bgX X) (H0 := H1) (ι0 := ι1) (a := 0) (b := i)
      rwa [Int.sub_zero] at this
    · exact p1.elim
  | _ => exact (show False from p1).elim
theorem si_rng2 {tg a b : Expr} {p pos : Pos} {ma mb : Env → Hpa → R W} (hm : ∀ x ∈ bNames, X.mg x = none) (hg : glB X.env.scope "range" = true) (pa : plainX a = true) (pb : plainX b = true) (ha : PE X a (tE xr X lo U ma)) (hb : PE X b (tE xr X lo U mb)) :
    PI X tg (.Call (.Name "range" p) [a, b] [] pos) (tI xr X lo U (fun v h => (ma v h).bind fun x h1 => (mb v h1).bind fun y h2 => (match x, y with
    | .int i, .int j => if small62 i && small62 j then .ok ⟨rngW i j, []⟩ h2 else .bad
    | _, _ => .bad))) := by
  refine PI.imp' (pi_range2 (glB_ok hg) (hm _ (by decide)) (pa_cons ha (pa_cons hb pa_nil (star_cons pb [] X.env)) (star_cons pa [b] X.env)) (by rw [star_cons pa, star_cons pb]; rfl) (star_cons pb [] X.env)) fun σ H Q ⟨ι, v, h, hr, l, er, q⟩ =>
    (seqE hr l er q).mono fun u H1 ⟨x, ι1, h1, s1, r1, p1⟩ => (seqE s1.hr s1.lo s1.er p1).mono fun u2 H2 ⟨y, ι2, h2, s2, r2, p2⟩ => ?_
  cases x with
  | int i =>
    cases y with
    | int j =>
      cases r1
      cases r2
      dsimp only at p2
      split at p2
      · rename_i hs
        have hs := Bool.and_eq_true_iff.mp hs
        obtain ⟨z1, z2⟩ := small62_ok hs.1
        obtain ⟨z3, z4⟩ := small62_ok hs.2
        exact ⟨i, j, rfl, ⟨z1, z2, z3, z4⟩, p2.ok s2.hr s2.lo wk_rng⟩
      · exact p2.elim
    | _ => exact (show False from p2).elim
  | _ => exact (show False from p2).elim
theorem si_enum {es : List Expr} {kk : Nat} {tp : Pos} {a : Expr} {p pos : Pos} {m : Env → Hpa → R W} (hm : ∀ x ∈ bNames, X.mg x = none) (hg : glB X.env.scope "enumerate" = true) (pl : plainX a = true) (ha : PE X a (tE xr X lo U m)) :
    PI X (.Tuple es kk tp) (.Call (.Name "enumerate" p) [a] [] pos) (tI xr X lo U (fun v h => (m v h).bind fun x h1 => (match asL h1 x with
    | some xs => .ok ⟨enumW xs, gOn x xs⟩ h1
    | none => .bad))) := by
  refine PI.imp' (pi_enum (glB_ok hg) (hm _ (by decide)) (pa_cons ha pa_nil (star_cons pl [] X.env)) (star_cons pl [] X.env)) fun σ H Q ⟨ι, v, h, hr, l, er, q⟩ => (seqE hr l er q).mono fun u H1 ⟨x, ι1, h1, s1, r1, p1⟩ => ?_
  cases hx : asL h1 x with
  | none => rw [hx] at p1; exact p1.elim
  | some xs =>
    rw [hx] at p1
    obtain ⟨a, vs, eu, sq, rs⟩ := asL_ok s1.hr r1 hx
    subst eu
    exact ⟨a, vs, rfl, sq, p1.ok s1.hr s1.lo (wk_enum r1 hx)⟩
theorem si_zip {es : List Expr} {kk : Nat} {tp : Pos} {a b : Expr} {p pos : Pos} {ma mb : Env → Hpa → R W} (hm : ∀ x ∈ bNames, X.mg x = none) (hg : glB X.env.scope "zip" = true) (pa : plainX a = true) (pb : plainX b = true) (ha : PE X a (tE xr X lo U ma)) (hb : PE X b (tE xr X lo U mb)) :
    PI X (.Tuple es kk tp) (.Call (.Name "zip" p) [a, b] [] pos) (tI xr X lo U (fun v h => (ma v h).bind fun x h1 => (mb v h1).bind fun y h2 => ofO (zipW h2 x y) h2)) := by
  refine PI.imp' (RZ.pi_zipA (glB_ok hg) (hm _ (by decide)) (pa_cons ha (pa_cons hb pa_nil (star_cons pb [] X.env)) (star_cons pa [b] X.env)) (star_cons pa [b] X.env) (star_any (by rw [List.all_cons, pb]; rfl))) fun σ H Q ⟨ι, v, h, hr, l, er, q⟩ =>
    (seqE hr l er q).mono fun u H1 ⟨x, ι1, h1, s1, r1, p1⟩ => (seqE s1.hr s1.lo s1.er p1).mono fun u2 H2 ⟨y, ι2, h2, s2, r2, p2⟩ => ?_
  have r1 := r1.mono s2.xt
  have lst : ∀ xs ys, asL h2 x = some xs → asL h2 y = some ys → zipW h2 x y = some ⟨pairs xs ys, gOn x xs ++ gOn y ys⟩ → ∃ a b xs ys, [u, u2] = [V.ref a, V.ref b] ∧ ((SqL X.K H2 a xs ∧ SqL X.K H2 b ys ∧ Q (Itz X.K a b) H2) ∨ (SqT X.K H2 a xs ∧ SqT X.K H2 b ys ∧ Q (RZ.ItzT X.K a b) H2)) := fun xs ys ex ey ez => by
    rw [ez] at p2
    obtain ⟨a, vs, eu, sq, rs⟩ := asL_ok s2.hr r1 ex
    obtain ⟨b, vt, eu2, st, rt⟩ := asL_ok s2.hr r2 ey
    subst eu eu2
    exact ⟨a, b, vs, vt, rfl, .inl ⟨sq, st, p2.ok s2.hr s2.lo (wk_zip r1 r2 ex ey)⟩⟩
  by_cases ht : (∃ xs, x = .tup xs) ∧ ∃ ys, y = .tup ys
  · obtain ⟨⟨xs, rfl⟩, ys, rfl⟩ := ht
    cases id r1 with
    | @tup _ vs a f rs =>
      cases id r2 with
      | @tup _ vt b g rt => exact ⟨a, b, vs, vt, rfl, .inr ⟨f.sq, g.sq, p2.ok s2.hr s2.lo (wk_zipT r1 r2)⟩⟩
  · have ez : zipW h2 x y = (match asL h2 x, asL h2 y with
      | some xs, some ys => some ⟨pairs xs ys, gOn x xs ++ gOn y ys⟩
      | _, _ => none) := by
      cases x <;> first
        | rfl
        | (cases y <;> first
            | rfl
            | exact absurd ⟨⟨_, rfl⟩, _, rfl⟩ ht)
    cases ex : asL h2 x with
    | none => rw [ez, ex] at p2; exact p2.elim
    | some xs =>
      cases ey : asL h2 y with
      | none => rw [ez, ex, ey] at p2; exact p2.elim
      | some ys => exact lst xs ys ex ey (by rw [ez, ex, ey])
end
end Mi

/-! Mi13: comprehensions; every expression that the checker knows. -/
namespace Mi
open PySem PySem.Spec PyProof.Rows L2
section
variable {xr : Exn → Hp → Value → Option Addr → Prop} {X : Cx} {lo : Lv} {U : WX} {σ : L2.St} {H : Hp} {ι : Own} {v : Env} {h : Hpa} {γ δ : Type}
abbrev U0 : WX := fun _ _ _ _ => False
def bodyL (t : Tg) (mc me : Env → Hpa → R W) (v : Env) : W → Hpa → R (Option W) := fun x h2 => match setTg t x (wipeE v (tgs t)) with
  | some v2 => (mc v2 h2).bind fun b h3 => (match b with
    | .bl true => (me v2 h3).bind fun y h4 => .ok (some y) h4
    | .bl false => .ok none h3
    | _ => .bad)
  | none => .bad
/-- what is still to come: ws are there -/
def toCome (b : Bool) (ws : List W) (r : R (List W)) : R W := (noEx (r.bind fun ys h2 => .ok (ws ++ ys) h2)).bind (mkL b)
theorem toCome_none {b : Bool} {ws : List W} {body : W → Hpa → R (Option W)} {g : List (Nat × List W)} {x : W} {xs : List W} {h h1 : Hpa} (ok : okGs g h = true) (e : body x h = .ok none h1) : toCome b ws (compL body g (x :: xs) h) = toCome b ws (compL body g xs h1) := by
  show toCome b ws (if okGs g h = true then (body x h).bind fun o h1 => (compL body g xs h1).bind fun ys h2 => .ok (match o with
    | some y => y :: ys
    | none => ys) h2 else .bad) = _
  rw [if_pos ok, e]
  show toCome b ws ((compL body g xs h1).bind fun ys h2 => .ok ys h2) = _
  cases compL body g xs h1 <;> rfl
theorem toCome_some {b : Bool} {ws : List W} {body : W → Hpa → R (Option W)} {g : List (Nat × List W)} {x y : W} {xs : List W} {h h1 : Hpa} (ok : okGs g h = true) (e : body x h = .ok (some y) h1) : toCome b ws (compL body g (x :: xs) h) = toCome b (ws ++ [y]) (compL body g xs h1) := by
  show toCome b ws (if okGs g h = true then (body x h).bind fun o h1 => (compL body g xs h1).bind fun ys h2 => .ok (match o with
    | some y => y :: ys
    | none => ys) h2 else .bad) = _
  rw [if_pos ok, e]
  show toCome b ws ((compL body g xs h1).bind fun ys h2 => .ok (y :: ys) h2) = _
  cases compL body g xs h1 with
  | ok ys h2 =>
    show mkL b (ws ++ y :: ys) h2 = mkL b ((ws ++ [y]) ++ ys) h2
    rw [List.append_assoc]
    rfl
  | ex _ _ => rfl
  | bad => rfl
theorem toCome_bad {b : Bool} {ws : List W} {body : W → Hpa → R (Option W)} {g : List (Nat × List W)} {x : W} {xs : List W} {h : Hpa} (e : body x h = .bad ∨ ∃ q h', body x h = .ex q h') : toCome b ws (compL body g (x :: xs) h) = .bad := by
  show toCome b ws (if okGs g h = true then (body x h).bind fun o h1 => (compL body g xs h1).bind fun ys h2 => .ok (match o with
    | some y => y :: ys
    | none => ys) h2 else .bad) = _
  split
  · rcases e with e | ⟨q, h', e⟩ <;> rw [e] <;> rfl
  · rfl
theorem toCome_ok {b : Bool} {ws : List W} {body : W → Hpa → R (Option W)} {g : List (Nat × List W)} {xs : List W} {h : Hpa} (ng : okGs g h ≠ true) : toCome b ws (compL body g xs h) = .bad := by
  have e : compL body g xs h = .bad := by
    cases xs
    · show (if okGs g h = true then _ else _) = _
      rw [if_neg ng]
    · show (if okGs g h = true then _ else _) = _
      rw [if_neg ng]
  rw [e]
  rfl
theorem toCome_le {β : Type} {B : Bg} {b : Bool} {ws : List W} {r : R (List W)} {rel : Hp → Own → W → β → Prop} {E : XP} {Q : β → Hp → Prop} (p : post B lo rel E H ι (toCome b ws r) Q) : ws.length ≤ LIM := by
  cases r with
  | ok ys h2 =>
    have z := mkL_le (show post B lo rel E H ι (mkL b (ws ++ ys) h2) Q from p)
    rw [List.length_append] at z
    omega
  | ex _ _ => exact p.elim
  | bad => exact p.elim
theorem sd_comp {tg iter : Expr} {own : List (Str × Nat)} {t : Tg} {b : Bool} {mi : Env → Hpa → R Wk} {mc me : Env → Hpa → R W} (hi : PI X tg iter (tI xr X lo U mi)) (hown : own.map (·.2) = tgs t) :
    ∀ σ H Q, tE xr X lo U (fun v h => (mi v h).bind fun wk h1 => (noEx (compL (bodyL t mc me v) wk.g wk.xs h1)).bind (mkL b)) σ H Q → tLc (tI xr X lo U mi) (tG (bgX X) t) (tT xr X lo U0 mc) (tE xr X lo U0 me) (own.map (·.2)) σ H Q := by
  rintro σ H Q ⟨ι, v, h, hr, l, er, p⟩
  rw [hown]
  refine ⟨ι, v, h, hr, l, er, (post.bind p).mono fun J H1 ⟨wk, ι1, h1, xt, hr1, l1, wkr, p1⟩ => ?_⟩
  intro D hD
  have er1 := er.mono xt
  have p1 : post (bgX X) lo (rW (bgX X)) (xW xr (WE U σ)) H1 ι1 (toCome b [] (compL (bodyL t mc me v) wk.g wk.xs h1)) Q := by
    have e : toCome b [] (compL (bodyL t mc me v) wk.g wk.xs h1) = (noEx (compL (bodyL t mc me v) wk.g wk.xs h1)).bind (mkL b) := by
      unfold toCome
      cases compL (bodyL t mc me v) wk.g wk.xs h1 <;> rfl
    rw [e]
    exact p1
  let Pv : Nat → Hp → Prop := fun i H' => ∃ ι' h' acc ws, Xt H1 ι1 H' ι' ∧ Hr (bgX X) H' (ι'.hold D) h' ∧ Lo lo h' ∧ H' D = some (.lst acc) ∧ Rws (bgX X) H' (ι'.hold D) ws acc ∧
    post (bgX X) lo (rW (bgX X)) (xW xr (WE U σ)) H1 ι1 (toCome b ws (compL (bodyL t mc me v) wk.g (wk.xs.drop i) h')) Q
  refine ⟨fun i m H' => m = wk.xs.length - i ∧ i ≤ wk.xs.length ∧ Pv i H', ⟨wk.xs.length, by simp, Nat.zero_le _, ι1, h1, [], [], Xt.filled .refl hr1 hD, hr1.hold hD, l1, upd_same, .nil, p1⟩, ?_⟩
  rintro i m H' ⟨rfl, hi, ι', h', acc, ws, xt1, hr2, l2, hDv, rs, q⟩
  by_cases ok : okGs wk.g h' = true
  case neg => rw [toCome_ok ok] at q; exact q.elim
  have xk : Xk H1 ι1 H' (ι'.hold D) := Xk.held xt1 hD
  by_cases hlt : i < wk.xs.length
  case neg =>
    have e : i = wk.xs.length := by omega
    subst e
    refine .inl ⟨wkr.stops H' _ h' xk hr2 ok, ?_⟩
    rw [List.drop_length] at q
    have q : post (bgX X) lo (rW (bgX X)) (xW xr (WE U σ)) H1 ι1 (toCome b ws (if okGs wk.g h' = true then .ok [] h' else .bad)) Q := q
    rw [if_pos ok] at q
    have q : post (bgX X) lo (rW (bgX X)) (xW xr (WE U σ)) H1 ι1 (mkL b (ws ++ []) h') Q := q
    rw [List.append_nil] at q
    have hz := mkL_le q
    unfold mkL at q
    rw [if_pos hz] at q
    cases b with
    | true =>
      refine q H' (ι'.push D) _ (xt1.taken hD) (hr2.take ⟨acc, hDv, rs.monoK Xk.take⟩) l2.new (.ref ?_)
      show (ι'.ix ++ [D])[h'.length]? = some D
      rw [← hr2.len]
      simp [Own.hold]
    | false => exact q H' ι' _ xt1 hr2.free l2 (.lst ⟨hDv, hr2.held⟩ (rs.monoK Xk.free))
  refine .inr ⟨wkr.goes i H' _ h' xk hr2 ok hlt, Pv (i + 1), fun H2 p2 => ⟨wk.xs.length - (i + 1), by omega, rfl, hlt, p2⟩, fun x H2 y => ?_⟩
  have hw : wk.xs[i]? = some wk.xs[i] := by simp [hlt]
  obtain ⟨xt2, hr3, rx⟩ := wkr.yields i H' _ h' x H2 xk hr2 ok y _ hw
  rw [List.drop_eq_getElem_cons hlt] at q
  generalize wk.xs[i] = w at q rx
  obtain ⟨ι2', eι, xt3⟩ := Xt.under xt1 hD xt2
  have er2 : Er (bgX X) H2 (ι'.hold D) v σ := (er1.monoK xk).mono xt2
  cases hs : setTg t w (wipeE v (tgs t)) with
  | none =>
    rw [toCome_bad (.inl (by unfold bodyL; rw [hs]))] at q
    exact q.elim
  | some v2 =>
    refine ⟨_, w, wipeE v (tgs t), v2, er2.wipe (tgs t), rx, hs, fun σ2 er3 ew => ⟨by rw [ew, wipe_wipe], ?_⟩⟩
    refine ⟨_, v2, h', hr3, l2, er3, ?_⟩
    have eb : bodyL t mc me v w h' = (mc v2 h').bind fun b h3 => (match b with
      | .bl true => (me v2 h3).bind fun y h4 => .ok (some y) h4
      | .bl false => .ok none h3
      | _ => .bad) := by unfold bodyL; rw [hs]
    cases hc : mc v2 h' with
    | bad =>
      rw [hc] at eb
      rw [toCome_bad (.inl eb)] at q
      exact q.elim
    | ex qx hx =>
      rw [hc] at eb
      rw [toCome_bad (.inr ⟨_, _, eb⟩)] at q
      exact q.elim
    | ok xb h3 =>
      rw [hc] at eb
      show post (bgX X) lo rBo _ H2 _ (ofO (asB xb) h3) _
      cases hb : asB xb with
      | none =>
        rw [toCome_bad (.inl (by rw [eb]; cases xb <;> first | rfl | cases hb))] at q
        exact q.elim
      | some kb =>
        have ex := asB_some hb
        subst ex
        intro H3 ι3 u xt4 hr4 l4 eu
        have eu : kb = u := eu
        subst eu
        obtain ⟨ι3', e3, xt5⟩ := Xt.under xt1 hD (xt2.trans xt4)
        subst e3
        have hD3 : H3 D = some (.lst acc) := by rw [xt4.res D List.mem_cons_self, xt2.res D List.mem_cons_self, hDv]
        have rs3 := (rs.mono xt2).mono xt4
        cases kb with
        | false =>
          rw [toCome_none ok eb] at q
          exact ⟨ι3', h3, acc, ws, xt5, hr4, l4, hD3, rs3, q⟩
        | true =>
          rw [if_pos rfl]
          refine ⟨_, v2, h3, hr4, l4, er3.mono xt4, ?_⟩
          have eb : bodyL t mc me v w h' = (me v2 h3).bind fun y h4 => .ok (some y) h4 := eb
          cases hm : me v2 h3 with
          | bad =>
            rw [hm] at eb
            rw [toCome_bad (.inl eb)] at q
            exact q.elim
          | ex qx hx =>
            rw [hm] at eb
            rw [toCome_bad (.inr ⟨_, _, eb⟩)] at q
            exact q.elim
          | ok yv h4 =>
            rw [hm] at eb
            rw [toCome_some ok eb] at q
            intro H4 ι4 u xt6 hr6 l6 ru
            obtain ⟨ι4', e4, xt7⟩ := Xt.under xt5 hD xt6
            subst e4
            have hD4 : H4 D = some (.lst acc) := by rw [xt6.res D List.mem_cons_self, hD3]
            have hz := toCome_le q
            have rs4 := rs3.mono xt6
            have hl := rs4.length
            rw [List.length_append, List.length_singleton] at hz
            refine ⟨acc, hD4, by rw [lim_eq]; omega, ι4', h4, acc ++ [u], ws ++ [yv], xt7.filled hr1 hD, hr6.fill, l6, upd_same, ?_, q⟩
            exact (rs4.append (.cons ru .nil)).monoK Xk.fill
end
end Mi

/-! Mi14: every expression that the checker knows is read by the evaluator. -/
namespace Mi
open PySem PySem.Spec PyProof.Rows L2
theorem isNo_ne {m : E} (h : (!isNo m) = true) : isNo m = false := by
  cases e : isNo m
  · rfl
  · rw [e] at h; cases h
theorem and2 {a b : Bool} (h : (a && b) = true) : a = true ∧ b = true := Bool.and_eq_true_iff.mp h
section
variable {xr : Exn → Hp → Value → Option Addr → Prop} {G : Gm} {P : Pg} {N : List Str} {n : Nat} {lo : Lv}
theorem Ok.nm_nd {sc : Scope} {blk : Bool} {X : Cx} (o : Ok xr G P N sc blk n X) : X.N.Nodup := by
  rw [o.nm]
  exact o.nd
theorem Ok.blk {sc : Scope} {blk : Bool} {X : Cx} (o : Ok xr G P N sc blk n X) (s : Shared) (H : Hp) (scope : Scope) (C : Addr) (cl : List (Str × Addr)) (fp : List Addr) : Ok xr G P N (relS scope sc) true n (X.blk s H scope (compEnvC scope cl C X.env) fp) := by
  refine ⟨o.nm, o.nd, ?_, (fun z => by cases z), o.calm, o.room, o.gd, o.blt, o.fns, o.cst⟩
  show relS scope X.env.scope = _
  rw [o.sc]
mutual
theorem sdE : ∀ (m : E) (e : Expr) (X : Cx) (sc : Scope) (blk : Bool) (U : WX), Ok xr G P N sc blk n X → Takes X U → ckE G N sc m e = true → SdE xr X lo U e (evE ⟨callF P n lo, lo, P.cst⟩ m)
  | .var i, e, X, sc, blk, U, o, tk, h => by
    cases e <;> try exact absurd h Bool.false_ne_true
    have h1 := and2 h
    have h2 := and2 h1.1
    exact sd_var (by rw [o.nm]; exact of_decide_eq_true h2.1) (by rw [o.sc]; exact h2.2) h1.2
  | .cst k, e, X, sc, blk, U, o, tk, h => by
    cases e <;> try exact absurd h Bool.false_ne_true
    have h1 := and2 h
    have h2 := and2 h1.1
    exact sd_glob (fun w hw => o.cst k _ w (of_decide_eq_true h2.1) hw) (by rw [o.sc]; exact h2.2) h1.2
  | .non, e, X, sc, blk, U, o, tk, h => by
    cases e <;> try exact absurd h Bool.false_ne_true
    rename_i c k p
    cases c <;> try exact absurd h Bool.false_ne_true
    exact .plain (sd_c pe_non fun _ _ => .non) (fun _ => rfl) rfl
  | .bl b, e, X, sc, blk, U, o, tk, h => by
    cases e <;> try exact absurd h Bool.false_ne_true
    rename_i c k p
    cases c <;> try exact absurd h Bool.false_ne_true
    rename_i c
    have e : b = c := by simpa using (show (b == c) = true from h)
    subst e
    exact .plain (sd_c pe_bl fun _ _ => .bl b) (fun _ => rfl) rfl
  | .int i, e, X, sc, blk, U, o, tk, h => by
    cases e <;> try exact absurd h Bool.false_ne_true
    rename_i c k p
    cases c <;> try exact absurd h Bool.false_ne_true
    rename_i c
    have e : i = c := of_decide_eq_true h
    subst e
    exact .plain (sd_c pe_int fun _ _ => .int i) (fun _ => rfl) rfl
  | .str s, e, X, sc, blk, U, o, tk, h => by
    cases e <;> try exact absurd h Bool.false_ne_true
    rename_i c k p
    cases c <;> try exact absurd h Bool.false_ne_true
    rename_i c
    have h1 := and2 h
    have e : s = c := of_decide_eq_true h1.1
    subst e
    exact .plain (sd_c pe_str fun _ _ => .str s (sOkB_ok h1.2)) (fun _ => rfl) rfl
  | .tup es, e, X, sc, blk, U, o, tk, h => by
    cases e <;> try exact absurd h Bool.false_ne_true
    exact sd_tup (sdEs es _ X sc blk U o tk h).pa
  | .lst b es, e, X, sc, blk, U, o, tk, h => by
    cases e <;> try exact absurd h Bool.false_ne_true
    exact sd_lst (sdEs es _ X sc blk U o tk h).pa
  | .dsp b ks es, e, X, sc, blk, U, o, tk, h => by
    cases e <;> try exact absurd h Bool.false_ne_true
    have h1 := and2 h
    have h2 := and2 h1.1
    have h3 := and2 h2.1
    have h4 := and2 h3.1
    exact sd_dsp (sdEs es _ X sc blk U o tk h4.2) h4.1 (by simpa using h3.2) (of_decide_eq_true h2.2) (of_decide_eq_true h1.2)
  | .op p a b, e, X, sc, blk, U, o, tk, h => by
    cases e <;> try exact absurd h Bool.false_ne_true
    have h1 := and2 h
    have h2 := and2 h1.1
    exact sd_op h2.1 (sdE a _ X sc blk U o tk h2.2).pe (sdE b _ X sc blk U o tk h1.2).pe
  | .neg a, e, X, sc, blk, U, o, tk, h => by
    cases e <;> try exact absurd h Bool.false_ne_true
    rename_i op x p
    cases op <;> try exact absurd h Bool.false_ne_true
    exact sd_neg (sdE a _ X sc blk U o tk h).pe
  | .not a, e, X, sc, blk, U, o, tk, h => by
    cases e <;> try exact absurd h Bool.false_ne_true
    rename_i op x p
    cases op <;> try exact absurd h Bool.false_ne_true
    exact sd_not (sdE a _ X sc blk U o tk h)
  | .one a, e, X, sc, blk, U, o, tk, h => by
    cases e <;> try exact absurd h Bool.false_ne_true
    rename_i op xs p
    match xs, h with
    | [x], h => exact sd_one (sdE a _ X sc blk U o tk h)
    | [], h => exact absurd h Bool.false_ne_true
    | _ :: _ :: _, h => exact absurd h Bool.false_ne_true
  | .and a b, e, X, sc, blk, U, o, tk, h => by
    cases e <;> try exact absurd h Bool.false_ne_true
    rename_i op xs p
    cases op <;> try exact absurd h Bool.false_ne_true
    match xs, h with
    | x :: y :: r, h =>
      have h1 := and2 h
      exact sd_and (sdE a _ X sc blk U o tk h1.1) (sdE b _ X sc blk U o tk h1.2)
    | [x], h => exact absurd h Bool.false_ne_true
    | [], h => exact absurd h Bool.false_ne_true
  | .or a b, e, X, sc, blk, U, o, tk, h => by
    cases e <;> try exact absurd h Bool.false_ne_true
    rename_i op xs p
    cases op <;> try exact absurd h Bool.false_ne_true
    match xs, h with
    | x :: y :: r, h =>
      have h1 := and2 h
      exact sd_or (sdE a _ X sc blk U o tk h1.1) (sdE b _ X sc blk U o tk h1.2)
    | [x], h => exact absurd h Bool.false_ne_true
    | [], h => exact absurd h Bool.false_ne_true
  | .cmp c a b, e, X, sc, blk, U, o, tk, h => by
    cases e <;> try exact absurd h Bool.false_ne_true
    rename_i x ops ys p
    match ops, ys, h with
    | [op], [y], h =>
      have h1 := and2 h
      have h2 := and2 h1.1
      exact sd_cmp o.hu h2.1 (ck_plain h1.2) (sdE a _ X sc blk U o tk h2.2).pe (sdE b _ X sc blk U o tk h1.2).pe
    | [], _, h => exact absurd h Bool.false_ne_true
    | [_], [], h => exact absurd h Bool.false_ne_true
    | [_], _ :: _ :: _, h => exact absurd h Bool.false_ne_true
    | _ :: _ :: _, _, h => exact absurd h Bool.false_ne_true
  | .chain c d a b z, e, X, sc, blk, U, o, tk, h => by
    cases e <;> try exact absurd h Bool.false_ne_true
    rename_i x ops ys p
    match ops, ys, h with
    | [op, oq], [y, w], h =>
      have h1 := and2 h
      have h2 := and2 h1.1
      have h3 := and2 h2.1
      have h4 := and2 h3.1
      exact sd_chain o.hu h4.1 h4.2 (ck_plain h2.2) (ck_plain h1.2) (sdE a _ X sc blk U o tk h3.2).pe (sdE b _ X sc blk U o tk h2.2).pe (sdE z _ X sc blk U o tk h1.2).pe
    | [], _, h => exact absurd h Bool.false_ne_true
    | [_], _, h => exact absurd h Bool.false_ne_true
    | [_, _], [], h => exact absurd h Bool.false_ne_true
    | [_, _], [_], h => exact absurd h Bool.false_ne_true
    | [_, _], _ :: _ :: _ :: _, h => exact absurd h Bool.false_ne_true
    | _ :: _ :: _ :: _, _, h => exact absurd h Bool.false_ne_true
  | .isN a, e, X, sc, blk, U, o, tk, h => by
    cases e <;> try exact absurd h Bool.false_ne_true
    rename_i x ops ys p
    match ops, ys, h with
    | [.Is], [.Constant .none _ _], h => exact sd_isN (sdE a _ X sc blk U o tk h).pe
  | .notN a, e, X, sc, blk, U, o, tk, h => by
    cases e <;> try exact absurd h Bool.false_ne_true
    rename_i x ops ys p
    match ops, ys, h with
    | [.IsNot], [.Constant .none _ _], h => exact sd_notN (sdE a _ X sc blk U o tk h).pe
  | .ite c a b, e, X, sc, blk, U, o, tk, h => by
    cases e <;> try exact absurd h Bool.false_ne_true
    have h1 := and2 h
    have h2 := and2 h1.1
    exact sd_ite (sdE c _ X sc blk U o tk h2.1) (sdE a _ X sc blk U o tk h2.2) (sdE b _ X sc blk U o tk h1.2)
  | .call f es, e, X, sc, blk, U, o, tk, h => by
    cases e <;> try exact absurd h Bool.false_ne_true
    rename_i fe xs ks p
    match fe, ks, h with
    | .Name x pp, [], h =>
      have h1 := and2 h
      have h2 := and2 h1.1
      have h3 := and2 h2.1
      obtain ⟨fa, np, e1, e2, F⟩ := o.fns f x (of_decide_eq_true h3.1)
      have d := sdEs es _ X sc blk U o tk h1.2
      exact sd_call F o.room o.gd (by rw [o.sc]; exact h3.2) e1 e2 h2.2 tk d.pa d.plain d.none
  | .blt f es, e, X, sc, blk, U, o, tk, h => by
    cases e <;> try exact absurd h Bool.false_ne_true
    rename_i fe xs ks p
    match fe, ks, h with
    | .Name x pp, [], h =>
      have h1 := and2 h
      have h2 := and2 h1.1
      have h3 := and2 h2.1
      have ex := of_decide_eq_true h3.1
      subst ex
      have d := sdEs es _ X sc blk U o tk h2.2
      exact sd_blt o.calm o.hu o.gd o.blt (by rw [o.sc]; exact h3.2) d.pa d.plain (by simpa using h1.2)
  | .mth f ob es, e, X, sc, blk, U, o, tk, h => by
    cases e <;> try exact absurd h Bool.false_ne_true
    rename_i fe xs ks p
    match fe, ks, h with
    | .Attribute ox nm ap, [], h =>
      have h1 := and2 h
      have h2 := and2 h1.1
      have h3 := and2 h2.1
      have h4 := and2 h3.1
      have h5 := and2 h4.1
      have h6 := and2 h5.1
      have ex := of_decide_eq_true h6.1
      subst ex
      have d := sdEs es _ X sc blk U o tk h4.2
      have po := (sdE ob _ X sc blk U o tk h5.2).pe
      have hl := of_decide_eq_true h2.2
      cases f with
      | append => exact sd_append po d.pa d.plain hl h1.2 h3.2
      | get2 =>
        cases d with
        | nil => cases hl
        | cons a1 p1 d =>
          cases d with
          | nil => cases hl
          | cons a2 p2 d =>
            cases d with
            | nil => exact sd_get2 o.hu po a1.pe a2.pe p1 p2 h1.2 h3.2
            | cons => cases hl
      | join =>
        cases d with
        | nil => cases hl
        | cons a1 p1 d =>
          cases d with
          | nil => exact sd_join po a1.pe p1 h1.2 h3.2
          | cons => cases hl
      | index => exact absurd h6.2 Bool.false_ne_true
      | split =>
        cases d with
        | nil => cases hl
        | cons a1 p1 d =>
          cases d with
          | nil => exact sd_strm F.slot_str_split F.type_str_split mt_split (fun h x e => by cases x <;> first | exact ⟨_, rfl⟩ | cases e) split_ok po a1.pe p1 h1.2 h3.2
          | cons => cases hl
      | startswith =>
        cases d with
        | nil => cases hl
        | cons a1 p1 d =>
          cases d with
          | nil => exact sd_strm F.slot_str_startswith F.type_str_startswith mt_startswith (fun h x e => by cases x <;> first | exact ⟨_, rfl⟩ | cases e) starts_ok po a1.pe p1 h1.2 h3.2
          | cons => cases hl
      | partition =>
        cases d with
        | nil => cases hl
        | cons a1 p1 d =>
          cases d with
          | nil => exact sd_strm F.slot_str_partition F.type_str_partition mt_partition (fun h x e => by cases x <;> first | exact ⟨_, rfl⟩ | cases e) part_ok po a1.pe p1 h1.2 h3.2
          | cons => cases hl
  | .idx a b, e, X, sc, blk, U, o, tk, h => by
    cases e <;> try exact absurd h Bool.false_ne_true
    have h1 := and2 h
    exact sd_idx o.hu (ck_plain h1.2) (sdE a _ X sc blk U o tk h1.1).pe (sdE b _ X sc blk U o tk h1.2).pe
  | .slc a l u, e, X, sc, blk, U, o, tk, h => by
    cases e <;> try exact absurd h Bool.false_ne_true
    rename_i x sl p
    cases sl <;> try exact absurd h Bool.false_ne_true
    rename_i el eu st p2
    cases st <;> try exact absurd h Bool.false_ne_true
    have h1 := and2 h
    have h2 := and2 h1.1
    have pl : PO X el (tO xr X lo U (fun v h1 => if isNo l then .ok none h1 else (evE ⟨callF P n lo, lo, P.cst⟩ l v h1).bind ixO)) := by
      cases el with
      | none =>
        have q : isNo l = true := h2.2
        rw [q]
        exact po_non
      | some z =>
        have q := and2 h2.2
        rw [isNo_ne q.1]
        exact po_of (sdE l _ X sc blk U o tk q.2).pe
    have pu : PO X eu (tO xr X lo U (fun v h1 => if isNo u then .ok none h1 else (evE ⟨callF P n lo, lo, P.cst⟩ u v h1).bind ixO)) := by
      cases eu with
      | none =>
        have q : isNo u = true := h1.2
        rw [q]
        exact po_non
      | some z =>
        have q := and2 h1.2
        rw [isNo_ne q.1]
        exact po_of (sdE u _ X sc blk U o tk q.2).pe
    exact sd_slc (sdE a _ X sc blk U o tk h2.1).pe pl pu
  | .no, e, X, sc, blk, U, o, tk, h => sd_never (fun _ _ => rfl)
  | .inst t a, e, X, sc, blk, U, o, tk, h => by
    cases e <;> try exact absurd h Bool.false_ne_true
    rename_i fe xs ks p
    match fe, xs, ks, h with
    | .Name x pp, [y, .Name z pz], [], h =>
      have h1 := and2 h
      have h2 := and2 h1.1
      have h3 := and2 h2.1
      have h4 := and2 h3.1
      have ex := of_decide_eq_true h4.1
      have ez := of_decide_eq_true h4.2
      subst ex ez
      exact sd_inst o.blt (by rw [o.sc]; exact h3.2) (by rw [o.sc]; exact h2.2) (ck_plain h1.2) (sdE a _ X sc blk U o tk h1.2).pe
  | .isB b a, e, X, sc, blk, U, o, tk, h => by
    cases e <;> try exact absurd h Bool.false_ne_true
    rename_i x ops ys p
    match ops, ys, h with
    | [.Is], [.Constant (.bool c) _ _], h =>
      have h1 := and2 h
      have e : b = c := by simpa using h1.1
      subst e
      exact sd_isB (sdE a _ X sc blk U o tk h1.2).pe
  | .rev a, e, X, sc, blk, U, o, tk, h => by
    cases e <;> try exact absurd h Bool.false_ne_true
    rename_i x sl p
    match sl, h with
    | .Slice none none (some (.UnaryOp .USub (.Constant (.int c) _ _) _)) _, h =>
      have h1 := and2 h
      have e : c = 1 := of_decide_eq_true h1.1
      subst e
      exact sd_rev (sdE a _ X sc blk U o tk h1.2).pe
  | .comp b elt t it c, e, X, sc, blk, U, o, tk, h => by
    cases e <;> try exact absurd h Bool.false_ne_true
    rename_i x gs scope p
    match gs, h with
    | [⟨tg, iter, ifs, asy⟩], h =>
      have h1 := and2 h
      have h2 := and2 h1.1
      have h3 := and2 h2.1
      have h4 := and2 h3.1
      have h5 := and2 h4.1
      have h6 := and2 h5.1
      have h7 := and2 h6.1
      have ea : asy = 0 := of_decide_eq_true h7.1
      subst ea
      have ok : BlkOk X.N X.env.scope scope (ownOf N (tgs t)) := by
        rw [o.nm, o.sc]
        exact blkOk_by h5.2
      have hi := (sdI it iter X sc blk U o tk h7.2).2 tg h6.2
      have pg : ∀ (s : Shared) (H : Hp) (C : Addr) (cl : List (Str × Addr)) (fp : List Addr), PG (X.blk s H scope (compEnvC scope cl C X.env) fp) tg (tG (bgX X) t) := fun s H C cl fp => by
        have ob := o.blk s H scope C cl fp
        exact sd_tg (blk := true) o.calm ob.nm_nd (fun z => by cases z) (by rw [ob.nm, ob.sc]; exact h3.2)
      have pt : ∀ (s : Shared) (H : Hp) (C : Addr) (cl : List (Str × Addr)) (fp : List Addr), PTs (X.blk s H scope (compEnvC scope cl C X.env) fp) ifs (tT xr X lo U0 (evE ⟨callF P n lo, lo, P.cst⟩ c)) := fun s H C cl fp => by
        have ob := o.blk s H scope C cl fp
        match ifs, h2.2 with
        | [], hc =>
          cases c with
          | bl bb =>
            cases bb with
            | true => exact ⟨fun pins s' σ H' Q I ⟨ι, v, h, hr, l, er, q⟩ => pts_nil.run pins s' σ H' Q I (q.ok hr l rfl)⟩
            | false => exact absurd hc Bool.false_ne_true
          | _ => exact absurd hc Bool.false_ne_true
        | [z], hc => exact pts_one (sdE c z _ _ true U0 ob takes0 hc).pt
      have pe : ∀ (s : Shared) (H : Hp) (C : Addr) (cl : List (Str × Addr)) (fp : List Addr), PE (X.blk s H scope (compEnvC scope cl C X.env) fp) x (tE xr X lo U0 (evE ⟨callF P n lo, lo, P.cst⟩ elt)) := fun s H C cl fp => by
        have ob := o.blk s H scope C cl fp
        exact (sdE elt x _ _ true U0 ob takes0 h1.2).pe
      refine .plain ((pe_lc o.calm o.nm_nd hi ok pg pt pe (fun y => plain_fold (sdI it iter X sc blk U o tk h7.2).1 _ y)).imp (sd_comp hi (of_decide_eq_true h4.2))) (fun _ => rfl) rfl
theorem sdEs : ∀ (ms : Es) (es : List Expr) (X : Cx) (sc : Scope) (blk : Bool) (U : WX), Ok xr G P N sc blk n X → Takes X U → ckEs G N sc ms es = true → SdL xr X lo U ⟨callF P n lo, lo, P.cst⟩ ms es
  | .nil, es, X, sc, blk, U, o, tk, h => by
    cases es with
    | nil => exact .nil
    | cons => exact absurd h Bool.false_ne_true
  | .cons m ms, es, X, sc, blk, U, o, tk, h => by
    cases es with
    | nil => exact absurd h Bool.false_ne_true
    | cons e es =>
      have h1 := and2 h
      exact .cons (sdE m e X sc blk U o tk h1.1) (ck_plain h1.1) (sdEs ms es X sc blk U o tk h1.2)
theorem sdI : ∀ (it : It) (e : Expr) (X : Cx) (sc : Scope) (blk : Bool) (U : WX), Ok xr G P N sc blk n X → Takes X U → ckI G N sc it e = true → plainX e = true ∧ ∀ tg, tgI it tg = true → PI X tg e (tI xr X lo U (evI ⟨callF P n lo, lo, P.cst⟩ it))
  | .of m, e, X, sc, blk, U, o, tk, h => ⟨ck_plain h, fun tg _ => si_of (sdE m e X sc blk U o tk h).pe⟩
  | .rng1 a, e, X, sc, blk, U, o, tk, h => by
    cases e <;> try exact absurd h Bool.false_ne_true
    rename_i fe xs ks p
    match fe, xs, ks, h with
    | .Name x pp, [y], [], h =>
      have h1 := and2 h
      have h2 := and2 h1.1
      have ex := of_decide_eq_true h2.1
      subst ex
      exact ⟨rfl, fun tg _ => si_rng1 o.blt (by rw [o.sc]; exact h2.2) (ck_plain h1.2) (sdE a y X sc blk U o tk h1.2).pe⟩
  | .rng2 a b, e, X, sc, blk, U, o, tk, h => by
    cases e <;> try exact absurd h Bool.false_ne_true
    rename_i fe xs ks p
    match fe, xs, ks, h with
    | .Name x pp, [y, z], [], h =>
      have h1 := and2 h
      have h2 := and2 h1.1
      have h3 := and2 h2.1
      have ex := of_decide_eq_true h3.1
      subst ex
      exact ⟨rfl, fun tg _ => si_rng2 o.blt (by rw [o.sc]; exact h3.2) (ck_plain h2.2) (ck_plain h1.2) (sdE a y X sc blk U o tk h2.2).pe (sdE b z X sc blk U o tk h1.2).pe⟩
  | .enm a, e, X, sc, blk, U, o, tk, h => by
    cases e <;> try exact absurd h Bool.false_ne_true
    rename_i fe xs ks p
    match fe, xs, ks, h with
    | .Name x pp, [y], [], h =>
      have h1 := and2 h
      have h2 := and2 h1.1
      have ex := of_decide_eq_true h2.1
      subst ex
      refine ⟨rfl, fun tg ht => ?_⟩
      cases tg <;> try exact absurd ht Bool.false_ne_true
      exact si_enum o.blt (by rw [o.sc]; exact h2.2) (ck_plain h1.2) (sdE a y X sc blk U o tk h1.2).pe
  | .zip a b, e, X, sc, blk, U, o, tk, h => by
    cases e <;> try exact absurd h Bool.false_ne_true
    rename_i fe xs ks p
    match fe, xs, ks, h with
    | .Name x pp, [y, z], [], h =>
      have h1 := and2 h
      have h2 := and2 h1.1
      have h3 := and2 h2.1
      have ex := of_decide_eq_true h3.1
      subst ex
      refine ⟨rfl, fun tg ht => ?_⟩
      cases tg <;> try exact absurd ht Bool.false_ne_true
      exact si_zip o.blt (by rw [o.sc]; exact h3.2) (ck_plain h2.2) (ck_plain h1.2) (sdE a y X sc blk U o tk h2.2).pe (sdE b z X sc blk U o tk h1.2).pe
end
end
end Mi

/-! Mi15: statements. -/
namespace Mi
open PySem PySem.Spec PyProof.Rows L2
/-! ### the checker -/
def isComp : Expr → Bool
  | .ListComp _ _ _ _ => true
  | _ => false
def isTup : Expr → Bool
  | .Tuple _ _ _ => true
  | _ => false
def isSl : Expr → Bool
  | .Slice _ _ _ _ => true
  | _ => false
/-- the local names of a line -/
def swN (sc : Scope) (line : Nat) (ts : List Expr) : List Str := ts.filterMap fun
    | .Name id pos => if sc.names.lookup id == some .local && pos.line == line then some id else none
    | _ => none
/-- stored as one comes to them -/
def noSwap (sc : Scope) (ts vs : List Expr) : Bool := (!(ts.length == 2 || ts.length == 3)) || ((swN sc ((ts.head?.map (·.pos.line)).getD 0) ts).length != ts.length) || vs.all (foldedForSure 8)
/-- two local names, stored from the right -/
def swap2 (sc : Scope) : List Expr → List Expr → Bool
  | [.Name x px, .Name y py], [a, b] => (sc.names.lookup x == some .local) && (sc.names.lookup y == some .local) && (px.line == py.line) && !(x == y) && !([a, b].all (foldedForSure 8)) && !([a, b].all (constantsAlone 8))
  | _, _ => false
/-- a comprehension that goes to a name -/
def compT (G : Gm) (N : List Str) (sc : Scope) : Tg → Expr → Expr → Bool
  | _, .Tuple ts _ _, .Tuple vs _ _ => noSwap sc ts vs || swap2 sc ts vs
  | _, _, _ => true
mutual
def ckS (G : Gm) (N : List Str) (sc : Scope) : S → Stmt → Bool
  | .asg t e, .Assign [tg] x _ => ckE G N sc e x && ckTg N sc false t tg && compT G N sc t tg x
  | .asgSub o i e, .Assign [.Subscript a b _] x _ => ckE G N sc e x && ckE G N sc o a && ckE G N sc i b
  | .expr e, .Expr x _ => ckE G N sc e x && !isComp x
  | .ret e, .Return (some x) _ => ckE G N sc e x
  | .retN, .Return none _ => true
  | .ite c a b, .If x p q _ => ckE G N sc c x && ckSs G N sc a p && ckSs G N sc b q
  | .loop t it b, .For tg x p [] _ => ckI G N sc it x && tgI it tg && ckTg N sc false t tg && ckSs G N sc b p
  | .wh c b, .While x p [] _ => ckE G N sc c x && ckSs G N sc b p
  | .pass, .Pass _ => true
  | .cont, .Continue _ => true
  | .brk, .Break _ => true
  | .nope, _ => true
  | _, _ => false
termination_by structural m => m
def ckSs (G : Gm) (N : List Str) (sc : Scope) : Ss → List Stmt → Bool
  | .nil, [] => true
  | .cons s ss, x :: xs => ckS G N sc s x && ckSs G N sc ss xs
  | _, _ => false
termination_by structural m => m
end
/-! ### readings -/
/-- the wish of an exception at slots -/
def sPost (xr : Exn → Hp → Value → Option Addr → Prop) (B : Bg) (lo : Lv) (U : WX) (D : Ends) (H : Hp) (ι : Own) (σ : L2.St) : SR → Prop
  | .nx v h' => ∀ H' ι' σ', Xt H ι H' ι' → Hr B H' ι' h' → Lo lo h' → Er B H' ι' v σ' → D.nx σ' H'
  | .rt w h' => ∀ H' ι' u, Xt H ι H' ι' → Hr B H' ι' h' → Lo lo h' → Rw B H' ι' w u → D.rt u H'
  | .bk v h' => ∀ H' ι' σ', Xt H ι H' ι' → Hr B H' ι' h' → Lo lo h' → Er B H' ι' v σ' → D.bk σ' H'
  | .ct v h' => ∀ H' ι' σ', Xt H ι H' ι' → Hr B H' ι' h' → Lo lo h' → Er B H' ι' v σ' → D.ct σ' H'
  | .ex x v h' => ∀ H' ι' σ', Xt H ι H' ι' → Hr B H' ι' h' → Lo lo h' → Er B H' ι' v σ' → ∀ cls d, xr x H' cls d → U cls d σ' H'
  | .bad => False
section
variable {xr : Exn → Hp → Value → Option Addr → Prop} {B : Bg} {X : Cx} {lo : Lv} {U : WX} {σ σ' : L2.St} {H H' : Hp} {ι ι' : Own} {v : Env} {h : Hpa} {γ δ : Type} {D D' : Ends}
theorem sPost.mono {r : SR} (p : sPost xr B lo U D H ι σ r) (k1 : ∀ σ H, D.nx σ H → D'.nx σ H) (k2 : ∀ u H, D.rt u H → D'.rt u H) (k3 : ∀ σ H, D.bk σ H → D'.bk σ H) (k4 : ∀ σ H, D.ct σ H → D'.ct σ H) : sPost xr B lo U D' H ι σ r := by
  cases r with
  | nx v h' => exact fun H' ι' σ' a b c d => k1 _ _ (p H' ι' σ' a b c d)
  | rt w h' => exact fun H' ι' u a b c d => k2 _ _ (p H' ι' u a b c d)
  | bk v h' => exact fun H' ι' σ' a b c d => k3 _ _ (p H' ι' σ' a b c d)
  | ct v h' => exact fun H' ι' σ' a b c d => k4 _ _ (p H' ι' σ' a b c d)
  | ex x v h' => exact p
  | bad => exact p
theorem sPost.from {r : SR} (xt : Xt H ι H' ι') (p : sPost xr B lo U D H ι σ r) : sPost xr B lo U D H' ι' σ' r := by
  cases r with
  | nx v h' => exact fun H2 ι2 σ2 a b c d => p H2 ι2 σ2 (xt.trans a) b c d
  | rt w h' => exact fun H2 ι2 u a b c d => p H2 ι2 u (xt.trans a) b c d
  | bk v h' => exact fun H2 ι2 σ2 a b c d => p H2 ι2 σ2 (xt.trans a) b c d
  | ct v h' => exact fun H2 ι2 σ2 a b c d => p H2 ι2 σ2 (xt.trans a) b c d
  | ex x v h' => exact fun H2 ι2 σ2 a b c d => p H2 ι2 σ2 (xt.trans a) b c d
  | bad => exact p
/-- an expression, then what the statement does with it -/
theorem post_sv {α β : Type} {rel : Hp → Own → α → β → Prop} {r : R α} {f : α → Hpa → SR} {Q : β → Hp → Prop} (er : Er B H ι v σ) (p : sPost xr B lo U D H ι σ (r.sv v f))
    (k : ∀ x h1 H1 ι1 u, Xt H ι H1 ι1 → Hr B H1 ι1 h1 → Lo lo h1 → Er B H1 ι1 v σ → rel H1 ι1 x u → sPost xr B lo U D H1 ι1 σ (f x h1) → Q u H1) : post B lo rel (xW xr (WE U σ)) H ι r Q := by
  cases r with
  | ok x h' => exact fun H' ι' u a b c d => k x h' H' ι' u a b c (er.mono a) d (sPost.from a p)
  | ex x h' => exact fun H' ι' a b c cls d q => p H' ι' σ a b c (er.mono a) cls d q
  | bad => exact p
def tS (xr : Exn → Hp → Value → Option Addr → Prop) (X : Cx) (lo : Lv) (U : WX) (m : Env → Hpa → SR) : TS := fun D σ H => ∃ ι v h, Hr (bgX X) H ι h ∧ Lo lo h ∧ Er (bgX X) H ι v σ ∧ sPost xr (bgX X) lo U D H ι σ (m v h)
theorem _root_.L2.PS.imp {st : Stmt} {t t' : TS} (p : PS X st t) (k : ∀ D σ H, t' D σ H → t D σ H) : PS X st t' := ⟨fun pins s σ H D I q => p.run pins s σ H D I (k D σ H q)⟩
theorem _root_.L2.PSs.imp {st : List Stmt} {t t' : TS} (p : PSs X st t) (k : ∀ D σ H, t' D σ H → t D σ H) : PSs X st t' := ⟨fun pins s σ H D I q => p.run pins s σ H D I (k D σ H q)⟩
/-- an expression of a statement -/
theorem svE {m : Env → Hpa → R W} {f : W → Hpa → SR} (hr : Hr (bgX X) H ι h) (l : Lo lo h) (er : Er (bgX X) H ι v σ) (p : sPost xr (bgX X) lo U D H ι σ ((m v h).sv v f)) :
    tE xr X lo U m σ H fun u H1 => ∃ x ι1 h1, St1 X lo H ι v σ H1 ι1 h1 ∧ Rw (bgX X) H1 ι1 x u ∧ sPost xr (bgX X) lo U D H1 ι1 σ (f x h1) :=
  ⟨ι, v, h, hr, l, er, post_sv er p fun x h1 H1 ι1 u a b c e d q => ⟨x, ι1, h1, ⟨b, c, e, a⟩, d, q⟩⟩
theorem sPost.next (p : sPost xr B lo U D H ι σ' (.nx v h)) (hr : Hr B H ι h) (l : Lo lo h) (er : Er B H ι v σ) : D.nx σ H := p H ι σ .refl hr l er

/-! ### small ones -/
theorem ss_expr {e : Expr} {pos : Pos} {m : Env → Hpa → R W} (he : PE X e (tE xr X lo U m)) (pl : plainX e = true) (nc : isComp e = false) : PS X (.Expr e pos) (tS xr X lo U (fun v h => (m v h).sv v fun _ h1 => .nx v h1)) := by
  have hs : swapsWith e none pos.line X.env = pure false := by
    cases e <;> first | rfl | exact absurd pl Bool.false_ne_true | exact absurd nc.symm Bool.false_ne_true
  exact (ps_expr he hs).imp fun D σ H ⟨ι, v, h, hr, l, er, p⟩ => (svE hr l er p).mono fun u H1 ⟨x, ι1, h1, s1, r1, p1⟩ => p1.next s1.hr s1.lo s1.er
theorem ss_ret {e : Expr} {pos : Pos} {m : Env → Hpa → R W} (he : PE X e (tE xr X lo U m)) : PS X (.Return (some e) pos) (tS xr X lo U (fun v h => (m v h).sv v fun x h1 => .rt x h1)) :=
  (ps_ret he).imp fun D σ H ⟨ι, v, h, hr, l, er, p⟩ => (svE hr l er p).mono fun u H1 ⟨x, ι1, h1, s1, r1, p1⟩ => p1 H1 ι1 u .refl s1.hr s1.lo r1
theorem ss_retN {pos : Pos} : PS X (.Return none pos) (tS xr X lo U (fun _ h => .rt .non h)) :=
  ps_retN.imp fun D σ H ⟨ι, v, h, hr, l, er, p⟩ => p H ι .non .refl hr l .non
theorem svT {m : Env → Hpa → R W} {F : W → Hpa → SR} {Gf : Bool → Hpa → SR} (hr : Hr (bgX X) H ι h) (l : Lo lo h) (er : Er (bgX X) H ι v σ)
    (p : sPost xr (bgX X) lo U D H ι σ ((m v h).sv v F)) (e1 : ∀ b h1, F (.bl b) h1 = Gf b h1) (e0 : ∀ x h1, asB x = none → F x h1 = .bad) :
    tT xr X lo U m σ H fun b H1 => ∃ ι1 h1, St1 X lo H ι v σ H1 ι1 h1 ∧ sPost xr (bgX X) lo U D H1 ι1 σ (Gf b h1) := by
  refine ⟨ι, v, h, hr, l, er, ?_⟩
  cases hm : m v h with
  | bad => rw [hm] at p; exact p
  | ex x h' =>
    rw [hm] at p
    exact fun H' ι' a b c cls d q => p H' ι' σ a b c (er.mono a) cls d q
  | ok x h1 =>
    rw [hm] at p
    have p : sPost xr (bgX X) lo U D H ι σ (F x h1) := p
    show post (bgX X) lo rBo (xW xr (WE U σ)) H ι (ofO (asB x) h1) _
    cases hb : asB x with
    | none => rw [e0 x h1 hb] at p; exact p
    | some b =>
      have ex := asB_some hb
      subst ex
      rw [e1] at p
      intro H' ι' u xt hr' l' e
      have e : b = u := e
      subst e
      exact ⟨ι', h1, ⟨hr', l', er.mono xt, xt⟩, sPost.from xt p⟩
theorem ss_if {c : Expr} {p q : List Stmt} {pos : Pos} {mc : Env → Hpa → R W} {mp mq : Env → Hpa → SR} (hc : PT X c (tT xr X lo U mc)) (hp : PSs X p (tS xr X lo U mp)) (hq : PSs X q (tS xr X lo U mq)) :
    PS X (.If c p q pos) (tS xr X lo U (fun v h => (mc v h).sv v fun x h1 => (match x with
    | .bl true => mp v h1
    | .bl false => mq v h1
    | _ => .bad))) :=
  (ps_if hc hp hq).imp fun D σ H ⟨ι, v, h, hr, l, er, p⟩ => (svT (Gf := fun b h1 => if b = true then mp v h1 else mq v h1) hr l er p (fun b h1 => by cases b <;> rfl) (fun x h1 hx => by cases x <;> first | rfl | cases hx)).mono fun b H1 ⟨ι1, h1, s1, p1⟩ => by
    cases b with
    | true => exact ⟨ι1, v, h1, s1.hr, s1.lo, s1.er, p1⟩
    | false => exact ⟨ι1, v, h1, s1.hr, s1.lo, s1.er, p1⟩
theorem sss_nil : PSs X [] (tS xr X lo U (fun v h => .nx v h)) := pss_nil.imp fun D σ H ⟨ι, v, h, hr, l, er, p⟩ => p.next hr l er
theorem sss_cons {s : Stmt} {ss : List Stmt} {m ms : Env → Hpa → SR} (h1 : PS X s (tS xr X lo U m)) (h2 : PSs X ss (tS xr X lo U ms)) : PSs X (s :: ss) (tS xr X lo U (fun v h => (m v h).seq fun v1 h1 => ms v1 h1)) :=
  (pss_cons h1 h2).imp fun D σ H ⟨ι, v, h, hr, l, er, p⟩ => by
    refine ⟨ι, v, h, hr, l, er, ?_⟩
    dsimp only at p
    cases hm : m v h with
    | nx v1 h1 =>
      rw [hm] at p
      exact fun H' ι' σ' a b c d => ⟨ι', v1, h1, b, c, d, sPost.from a p⟩
    | rt w h1 => rw [hm] at p; exact p
    | bk v1 h1 => rw [hm] at p; exact p
    | ct v1 h1 => rw [hm] at p; exact p
    | ex x v1 h1 => rw [hm] at p; exact p
    | bad => rw [hm] at p; exact p
/-! ### o[i] = e -/
def rSet (X : Cx) (lo : Lv) : TSet := fun o i u H Q => ∃ ι h x y w h', Hr (bgX X) H ι h ∧ Lo lo h ∧ Rw (bgX X) H ι x o ∧ Rw (bgX X) H ι y i ∧ Rw (bgX X) H ι w u ∧ setW lo h x y w = some h' ∧
  ∀ H' ι', Xt H ι H' ι' → Hr (bgX X) H' ι' h' → Lo lo h' → Q H'
theorem unds_set (k : Nat) {w : W} (hw : w.und k = true) : ∀ (xs : List W) (j : Nat), W.unds k xs = true → W.unds k (xs.set j w) = true
  | [], _, _ => rfl
  | x :: xs, 0, h => by
    have h1 := and2 (show (W.und k x && W.unds k xs) = true from h)
    show (W.und k w && W.unds k xs) = true
    rw [hw, h1.2]
    rfl
  | x :: xs, j + 1, h => by
    have h1 := and2 (show (W.und k x && W.unds k xs) = true from h)
    show (W.und k x && W.unds k (xs.set j w)) = true
    rw [h1.1, unds_set k hw xs j h1.2]
    rfl
theorem unds_put (k : Nat) {w : W} {q : Key} (hw : w.und k = true) : ∀ (ks : List Key) (xs : List W), W.unds k xs = true → W.unds k (putVs ks xs q w) = true
  | [], [], _ => by show (W.und k w && true) = true; rw [hw]; rfl
  | _ :: _, [], _ => by show (W.und k w && true) = true; rw [hw]; rfl
  | [], _ :: _, _ => by show (W.und k w && true) = true; rw [hw]; rfl
  | q' :: ks, x :: xs, h => by
    have h1 := and2 (show (W.und k x && W.unds k xs) = true from h)
    unfold putVs
    split
    · show (W.und k w && W.unds k xs) = true
      rw [hw, h1.2]
      rfl
    · show (W.und k x && W.unds k (putVs ks xs q w)) = true
      rw [h1.1, unds_put k hw ks xs h1.2]
      rfl
theorem put_zip {B : Bg} {q : Key} {w : W} {u : V} (r : Rw B H ι w u) : ∀ {ks : List Key} {ws : List W} {vs : List V}, ks.length = vs.length → ks.Nodup → Rws B H ι ws vs →
    ∃ vs', putK (ks.zip vs) q u = (putKs ks q).zip vs' ∧ (putKs ks q).length = vs'.length ∧ Rws B H ι (putVs ks ws q w) vs'
  | [], _, [], _, _, .nil => ⟨[u], rfl, rfl, .cons r .nil⟩
  | k :: ks, _, v :: vs, hl, nd, .cons (x := w0) r0 rs => by
    have nd := List.nodup_cons.mp nd
    by_cases hk : k = q
    · subst hk
      refine ⟨u :: vs, ?_, ?_, ?_⟩
      · unfold putK putKs
        simp only [List.zip_cons_cons, List.any_cons, decide_true, Bool.true_or, if_true, List.map_cons]
        congr 1
        refine (List.map_congr_left fun p hp => ?_).trans (List.map_id _)
        have ne : p.1 ≠ k := fun e => nd.1 (e ▸ (List.of_mem_zip hp).1)
        rw [if_neg ne]
        rfl
      · unfold putKs
        simpa using hl
      · unfold putVs
        simp only [if_true]
        exact .cons r rs
    · obtain ⟨vs', e1, e2, e3⟩ := put_zip (q := q) r (ks := ks) (by simpa using hl) nd.2 rs
      have ek : putKs (k :: ks) q = k :: putKs ks q := by rw [putKs, if_neg hk]
      rw [ek]
      refine ⟨v :: vs', ?_, by simp [e2], ?_⟩
      · have ep : putK ((k, v) :: ks.zip vs) q u = (k, v) :: putK (ks.zip vs) q u := by
          unfold putK
          simp only [List.any_cons, hk, decide_false, Bool.false_or, List.map_cons, if_false]
          split <;> rfl
        show putK ((k, v) :: ks.zip vs) q u = _
        rw [ep, e1]
        rfl
      · unfold putVs
        simp only [if_neg hk]
        exact .cons r0 e3
theorem putKs_ok {q : Key} (hq : kOk q) : ∀ {ks : List Key}, (∀ k ∈ ks, kOk k) → ∀ k ∈ putKs ks q, kOk k
  | [], _, k, hk => by
    have e : k = q := by simpa [putKs] using hk
    rw [e]
    exact hq
  | k' :: ks, h, k, hk => by
    unfold putKs at hk
    split at hk
    · exact h k hk
    · rcases List.mem_cons.mp hk with z | z
      · rw [z]
        exact h k' List.mem_cons_self
      · exact putKs_ok hq (fun k hk => h k (List.mem_cons_of_mem _ hk)) k z
theorem rSet_ok (hu : X.A.units + 65 < cLine) : PSet X (rSet X lo) := by
  intro pins s σ H o i u ov iv uv Q I ro ri ru q
  obtain ⟨ι, h, x, y, w, h', hr, l, rx, ry, rw', e, k⟩ := q
  unfold setW at e
  cases x with
  | ref n =>
    dsimp only at e
    obtain ⟨a, ea, eo⟩ := rx.refAt
    subst eo
    cases hn : h[n]? with
    | none => rw [hn] at e; cases e
    | some ob =>
      have ho := hr.at_ n ob a hn ea
      rw [hn] at e
      cases ob with
      | lst xs =>
        obtain ⟨vs, hH, rs⟩ := ho
        cases y with
        | int j =>
          cases ry
          dsimp only at e
          cases hi : ixN xs.length j with
          | none => rw [hi] at e; cases e
          | some jj =>
            rw [hi] at e
            dsimp only at e
            split at e
            · rename_i ok
              cases e
              refine set_list pins s σ H _ _ u ov iv uv Q I ro ri ru ⟨a, vs, j, jj, rfl, rfl, hH, by rw [← rs.length]; exact hi, ?_⟩
              refine k _ ι (Xt.put hr ea) (hr.put ea ⟨_, upd_same, (rs.set rw' jj).mono (Xt.put hr ea)⟩) (l.put ?_)
              rcases okSt_und ok with z | z
              · exact .inl z
              · exact .inr fun m hm hlt => unds_set m (W.und_pure m w z) xs jj (l.2 m hm n _ hlt hn)
            · cases e
        | _ => cases e
      | dk ks ws =>
        obtain ⟨vs, hH, hl, hk, rs⟩ := ho
        have e : (match keyOf y with
          | some q => if ks.length < LIM ∧ ks.Nodup ∧ okSt lo n w = true then some (h.set n (.dk (putKs ks q) (putVs ks ws q w))) else none
          | none => none) = some h' := by
          cases y <;> exact e
        cases hq : keyOf y with
        | none => rw [hq] at e; cases e
        | some q =>
          rw [hq] at e
          dsimp only at e
          split at e
          · rename_i ok
            cases e
            obtain ⟨ey, kq⟩ := keyOf_V ry hq
            subst ey
            obtain ⟨vs', e1, e2, e3⟩ := put_zip rw' hl ok.2.1 rs
            have hz : (ks.zip vs).length < sizeLine := by
              rw [List.length_zip, lim_eq]
              have := ok.1
              omega
            refine set_dict (by omega) pins s σ H _ _ u ov iv uv Q I ro ri ru ⟨a, _, rfl, DPut.k hH hz, ?_⟩
            rw [e1]
            refine k _ ι (Xt.put hr ea) (hr.put ea ⟨vs', upd_same, e2, putKs_ok kq hk, e3.mono (Xt.put hr ea)⟩) (l.put ?_)
            rcases okSt_und ok.2.2 with z | z
            · exact .inl z
            · exact .inr fun m hm hlt => unds_put m (W.und_pure m w z) ks ws (l.2 m hm n _ hlt hn)
          · cases e
      | ins _ _ => exact ho.elim
  | _ => cases e
theorem sub_assign {o i : Expr} {pos : Pos} {env : PySem.Env} (pl : plainX i = true) : ∀ v, assign (.Subscript o i pos) env v = (do
      let ov ← holding [v] (eval o env)
      let iv ← holding [v, ov] (eval i env)
      standAt pos
      holding [v, ov, iv] (setItem ov iv v)
      release [v, ov, iv] []) := by
  intro v
  cases i <;> first | rfl | cases pl
theorem sw_nc {e : Expr} {t : Option Expr} {n : Nat} {env : PySem.Env} (pl : plainX e = true) (nc : isComp e = false) : swapsWith e t n env = pure false := by
  cases e <;> first | rfl | exact absurd pl Bool.false_ne_true | exact absurd nc.symm Bool.false_ne_true
theorem sw_sub {e a b : Expr} {p : Pos} {n : Nat} {env : PySem.Env} (pl : plainX e = true) : swapsWithSole [.Subscript a b p] e n env = pure false := by
  cases e <;> first | rfl | exact absurd pl Bool.false_ne_true
theorem sw_tup {e : Expr} {ts : List Expr} {k : Nat} {p : Pos} {n : Nat} {env : PySem.Env} (pl : plainX e = true) : swapsWithSole [.Tuple ts k p] e n env = pure false := by
  cases e <;> first | rfl | exact absurd pl Bool.false_ne_true
theorem ss_asgSub {o i e : Expr} {pos tpos : Pos} {mo mi me : Env → Hpa → R W} (hu : X.A.units + 65 < cLine) (he : PE X e (tE xr X lo U me)) (ho : PE X o (tE xr X lo U mo)) (hi : PE X i (tE xr X lo U mi)) (pe : plainX e = true) (pi : plainX i = true) :
    PS X (.Assign [.Subscript o i tpos] e pos) (tS xr X lo U (fun v h => (me v h).sv v fun x h1 => (mo v h1).sv v fun a h2 => (mi v h2).sv v fun b h3 => (match setW lo h3 a b x with
    | some h4 => .nx v h4
    | none => .bad))) := by
  refine (ps_asg he (pg_sub ho hi (rSet_ok (lo := lo) hu) (sub_assign pi)) (sw_sub pe) (by cases e <;> first | rfl | cases pe)).imp fun D σ H ⟨ι, v, h, hr, l, er, p⟩ => (svE hr l er p).mono fun u H1 ⟨x, ι1, h1, s1, r1, p1⟩ => ?_
  refine (svE s1.hr s1.lo s1.er p1).mono fun u2 H2 ⟨a, ι2, h2, s2, r2, p2⟩ => (svE s2.hr s2.lo s2.er p2).mono fun u3 H3 ⟨b, ι3, h3, s3, r3, p3⟩ => ?_
  cases hs : setW lo h3 a b x with
  | none => rw [hs] at p3; exact p3.elim
  | some h4 =>
    rw [hs] at p3
    exact ⟨ι3, h3, a, b, x, h4, s3.hr, s3.lo, r2.mono s3.xt, r3, r1.mono (s2.xt.trans s3.xt), hs, fun H' ι' xt hr' l' => p3 H' ι' σ xt hr' l' (s3.er.mono xt)⟩
/-! ### name, .. = e -/
theorem ss_asg {t : Tg} {tg e : Expr} {pos : Pos} {m : Env → Hpa → R W} (he : PE X e (tE xr X lo U m)) (hg : PG X tg (tG (bgX X) t)) (hs : swapsWithSole [tg] e pos.line X.env = pure false) (hw : swappedStores [tg] e X.env = pure none)
    (h1 : (assignEach [tg] X.env).map (·.2) = [assign tg X.env]) : PS X (.Assign [tg] e pos) (tS xr X lo U (fun v h => (m v h).sv v fun x h1 => (match setTg t x v with
    | some v1 => .nx v1 h1
    | none => .bad))) :=
  (ps_asg he hg hs hw h1).imp fun D σ H ⟨ι, v, h, hr, l, er, p⟩ => (svE hr l er p).mono fun u H1 ⟨x, ι1, h1, s1, r1, p1⟩ => by
    cases hs : setTg t x v with
    | none => rw [hs] at p1; exact p1.elim
    | some v1 =>
      rw [hs] at p1
      exact ⟨ι1, x, v, v1, s1.er, r1, hs, fun σ' er' _ => p1 H1 ι1 σ' .refl s1.hr s1.lo er'⟩
/-- the comprehension's stores may be exchanged -/
theorem ss_setLc {i : Nat} {y : Str} {py : Pos} {elt tg iter : Expr} {ifs : List Expr} {scope : Scope} {own : List (Str × Nat)} {pos spos : Pos} {wi : TI} {g : TG} {tt : TT} {te : TE} (hc : X.calm = true) (hN : X.N.Nodup) (kind : X.env.scope.kind = .function) (hy : X.N[i]? = some y) (lc : locB false X.env.scope y = true) (hf : ∀ x, X.fn x = true)
    (hi : PI X tg iter wi) (ok : BlkOk X.N X.env.scope scope own)
    (hg : ∀ (s : Shared) (H : Hp) (C : Addr) (cl : List (Str × Addr)) (fp : List Addr), PG (X.blk s H scope (compEnvC scope cl C X.env) fp) tg g) (ht : ∀ (s : Shared) (H : Hp) (C : Addr) (cl : List (Str × Addr)) (fp : List Addr), PTs (X.blk s H scope (compEnvC scope cl C X.env) fp) ifs tt)
    (he : ∀ (s : Shared) (H : Hp) (C : Addr) (cl : List (Str × Addr)) (fp : List Addr), PE (X.blk s H scope (compEnvC scope cl C X.env) fp) elt te) (hs : ∀ x, foldedSetIterable iter X.env x = pure x) :
    PS X (.Assign [.Name y py] (.ListComp elt [⟨tg, iter, ifs, 0⟩] scope pos) spos) (tAsg (tLc wi g tt te (own.map (·.2))) (gName i)) := by
  have hb : X.env.blockKind = .function := by unfold Env.blockKind; rw [kind]; rfl
  have sw : swapsWith (.ListComp elt [⟨tg, iter, ifs, 0⟩] scope pos) (some (.Name y py)) spos.line X.env = pure (X.env.blockKind == .function && X.env.kindOf y == some .local && py.line == pos.line && !(scope.names.any fun (n, k) => n == y && (k == .local || k == .cell))) := rfl
  have lc' := (locB_ok lc).1
  cases hk : (X.env.blockKind == .function && X.env.kindOf y == some .local && py.line == pos.line && !(scope.names.any fun (n, k) => n == y && (k == .local || k == .cell))) with
  | true =>
    rw [hk] at sw
    have z := and2 (and2 (and2 hk).1).1
    exact ps_setLc hc hN hy (show X.env.kindOf y = some .local by simpa using z.2) sw hi ok hg ht he hs
  | false =>
    rw [hk] at sw
    exact ps_set hN hy lc' (pe_lc hc hN hi ok hg ht he hs) sw (.inl (hf y))
theorem noSwap_ok {ts vs : List Expr} {k k2 : Nat} {p p2 : Pos} {env : PySem.Env} (e : noSwap env.scope ts vs = true) : swappedStores [.Tuple ts k p] (.Tuple vs k2 p2) env = pure none := by
  unfold swappedStores
  dsimp only
  split
  · rfl
  · rename_i h1
    split
    · rfl
    · split
      · rfl
      · rename_i h3
        split
        · rfl
        · rename_i h4
          exfalso
          apply h4
          unfold noSwap at e
          rcases Bool.or_eq_true_iff.mp e with e | e
          · rcases Bool.or_eq_true_iff.mp e with e | e
            · exact absurd (by rw [e]; rfl) h1
            · exact absurd (Bool.or_eq_true_iff.mpr (.inl e)) h3
          · exact e
theorem swap2_ok {x y : Str} {px py : Pos} {a b : Expr} {k k2 : Nat} {p p2 : Pos} {env : PySem.Env} (kind : env.scope.kind = .function) (pa : plainX a = true) (pb : plainX b = true) (e : swap2 env.scope [.Name x px, .Name y py] [a, b] = true) :
    swappedStores [.Tuple [.Name x px, .Name y py] k p] (.Tuple [a, b] k2 p2) env = pure (some [x, y]) := by
  have e1 := and2 e
  have e2 := and2 e1.1
  have e3 := and2 e2.1
  have e4 := and2 e3.1
  have e5 := and2 e4.1
  have hx : (env.kindOf x == some .local) = true := e5.1
  have hy : (env.kindOf y == some .local) = true := e5.2
  have hl : (px.line == py.line) = true := e4.2
  have hl' : (py.line == px.line) = true := by
    have : px.line = py.line := by simpa using hl
    rw [this]
    simp
  have hxy : (y == x) = false := by
    have : ¬ x = y := by simpa using e3.2
    simpa using fun z => this z.symm
  have hf : [a, b].all (foldedForSure 8) = false := (Bool.not_eq_true' _).mp e2.2
  have hc : [a, b].all (constantsAlone 8) = false := (Bool.not_eq_true' _).mp e1.2
  have hb : (env.blockKind != .function) = false := by
    have : env.blockKind = .function := by unfold Env.blockKind; rw [kind]; rfl
    rw [this]
    rfl
  have hn : swN env.scope px.line [.Name x px, .Name y py] = [x, y] := by
    have hll : (px.line == px.line) = true := by simp
    unfold swN
    simp only [List.filterMap_cons, e5.1, e5.2, hl', hll, Bool.and_self, if_true, List.filterMap_nil]
  have hd : [x, y].eraseDups.length = 2 := by
    have : [x, y].eraseDups = [x, y] := by
      rw [List.eraseDups_cons]
      have z : (!y == x) = true := by rw [hxy]; rfl
      simp only [List.filter_cons, z, if_true, List.filter_nil]
      rfl
    rw [this]
    rfl
  unfold swappedStores
  dsimp only
  refine (if_neg ?_).trans ((if_neg ?_).trans ((if_neg ?_).trans ((if_neg ?_).trans ((if_neg ?_).trans ?_))))
  · rw [hb]
    exact Bool.false_ne_true
  · intro z
    cases a <;> first | exact absurd pa Bool.false_ne_true | (cases b <;> first | exact absurd z Bool.false_ne_true | exact absurd pb Bool.false_ne_true)
  · show ¬ ((swN env.scope px.line [.Name x px, .Name y py]).length != 2 || (swN env.scope px.line [.Name x px, .Name y py]).eraseDups.length != (swN env.scope px.line [.Name x px, .Name y py]).length) = true
    rw [hn, hd]
    exact Bool.false_ne_true
  · rw [hf]
    exact Bool.false_ne_true
  · rw [hc]
    exact Bool.false_ne_true
  · show pure (some (swN env.scope px.line [.Name x px, .Name y py])) = _
    rw [hn]
/-- two local names, stored from the right -/
theorem ss_par {i j : Nat} {x y : Str} {a b : Expr} {px py pt : Pos} {kt k2 : Nat} {pt2 pos : Pos} {ms : Env → Hpa → R (List W)} (calm : X.calm = true) (hN : X.N.Nodup) (kind : X.env.scope.kind = .function) (hi : X.N[i]? = some x) (hj : X.N[j]? = some y) (ha : PA X [a, b] (tEs xr X lo U ms))
    (pa : plainX a = true) (pb : plainX b = true) (e : swap2 X.env.scope [.Name x px, .Name y py] [a, b] = true) :
    PS X (.Assign [.Tuple [.Name x px, .Name y py] kt pt] (.Tuple [a, b] k2 pt2) pos) (tS xr X lo U (fun v h => ((ms v h).bind mkT).sv v fun x h1 => (match setTg (.tp [i, j]) x v with
    | some v1 => .nx v1 h1
    | none => .bad))) := by
  have e1 := and2 e
  have e2 := and2 e1.1
  have e3 := and2 e2.1
  have e4 := and2 e3.1
  have e5 := and2 e4.1
  have hij : i ≠ j := by
    intro z
    subst z
    rw [hi] at hj
    cases hj
    have := e3.2
    simp at this
  refine (ps_par (k2 := k2) (pt2 := pt2) (kt := kt) (pt := pt) calm hN hi hj hij (by simpa using e5.1) (by simpa using e5.2) ha (swap2_ok kind pa pb e) (sw_tup rfl)).imp fun D σ H ⟨ι, v, h, hr, l, er, p⟩ => ?_
  refine ⟨ι, v, h, hr, l, er, ?_⟩
  dsimp only at p
  cases hm : ms v h with
  | bad => rw [hm] at p; exact p
  | ex x h' => rw [hm] at p; exact fun H' ι' a b c cls d q => p H' ι' σ a b c (er.mono a) cls d q
  | ok ws h1 =>
    rw [hm] at p
    have p : sPost xr (bgX X) lo U D H ι σ ((mkT ws h1).sv v fun x h1 => (match setTg (.tp [i, j]) x v with
      | some v1 => .nx v1 h1
      | none => .bad)) := p
    intro H' ι' us xt hr' l' rs
    unfold mkT at p
    split at p
    · have p : sPost xr (bgX X) lo U D H ι σ (match setTg (.tp [i, j]) (.tup ws) v with
        | some v1 => .nx v1 h1
        | none => .bad) := p
      match ws, rs with
      | [w1, w2], .cons (u := u1) r1 (.cons (u := u2) r2 .nil) =>
        exact ⟨u1, u2, rfl, p H' ι' _ xt hr' l' (((er.mono xt).set r1).set r2)⟩
      | [], _ => exact p.elim
      | [_], _ => exact p.elim
      | _ :: _ :: _ :: _, _ => exact p.elim
    · exact p.elim
end
end Mi

/-! Mi16: loops; every statement that the checker knows. -/
namespace Mi
open PySem PySem.Spec PyProof.Rows L2
section
variable {xr : Exn → Hp → Value → Option Addr → Prop} {B : Bg} {X : Cx} {lo : Lv} {U : WX} {σ σ' : L2.St} {H H' : Hp} {ι ι' : Own} {v : Env} {h : Hpa} {γ δ : Type} {D D' : Ends}
def loopB (t : Tg) (mb : Env → Hpa → SR) : W → Env → Hpa → SR := fun x v2 h2 => match setTg t x v2 with
  | some v3 => mb v3 h2
  | none => .bad
theorem ss_for {tg iter : Expr} {body : List Stmt} {t : Tg} {pos : Pos} {mi : Env → Hpa → R Wk} {mb : Env → Hpa → SR} (hp : PassesOwn (model X.prog X.w) X.A X.env X.xe) (calm : X.calm = true) (hi : PI X tg iter (tI xr X lo U mi)) (hg : PG X tg (tG (bgX X) t)) (hb : PSs X body (tS xr X lo U mb))
    (hs : ∀ x, foldedSetIterable iter X.env x = pure x) : PS X (.For tg iter body [] pos) (tS xr X lo U (fun v h => (mi v h).sv v fun wk h1 => loopL (loopB t mb) wk.g wk.xs v h1)) := by
  refine (ps_for hp calm hi hg hb hs).imp fun D σ H ⟨ι, v, h, hr, l, er, p⟩ => ⟨ι, v, h, hr, l, er, post_sv er p fun wk h1 H1 ι1 J xt hr1 l1 er1 wkr p1 => ?_⟩
  let Pv : Nat → L2.St → Hp → Prop := fun i σ' H' => ∃ ι' h' v', Xt H1 ι1 H' ι' ∧ Hr (bgX X) H' ι' h' ∧ Lo lo h' ∧ Er (bgX X) H' ι' v' σ' ∧ sPost xr (bgX X) lo U D H' ι' σ' (loopL (loopB t mb) wk.g (wk.xs.drop i) v' h')
  refine ⟨fun i m σ' H' => m = wk.xs.length - i ∧ i ≤ wk.xs.length ∧ Pv i σ' H', ⟨wk.xs.length, by simp, Nat.zero_le _, ι1, h1, v, .refl, hr1, l1, er1, p1⟩, ?_⟩
  rintro i m σ' H' ⟨rfl, hle, ι', h', v', xt1, hr2, l2, er2, q⟩
  by_cases hlt : i < wk.xs.length
  case neg =>
    have e : i = wk.xs.length := by omega
    subst e
    rw [List.drop_length] at q
    have q : sPost xr (bgX X) lo U D H' ι' σ' (if okGs wk.g h' = true then .nx v' h' else .bad) := q
    split at q
    · rename_i ok
      exact .inl ⟨wkr.stops H' ι' h' xt1.k hr2 ok, q.next hr2 l2 er2⟩
    · exact q.elim
  rw [List.drop_eq_getElem_cons hlt] at q
  have q : sPost xr (bgX X) lo U D H' ι' σ' (if okGs wk.g h' = true then (match loopB t mb wk.xs[i] v' h' with
    | .nx v1 h1 => loopL (loopB t mb) wk.g (wk.xs.drop (i + 1)) v1 h1
    | .ct v1 h1 => loopL (loopB t mb) wk.g (wk.xs.drop (i + 1)) v1 h1
    | .bk v1 h1 => .nx v1 h1
    | r => r) else .bad) := q
  split at q
  case isFalse => exact q.elim
  rename_i ok
  refine .inr ⟨wkr.goes i H' ι' h' xt1.k hr2 ok hlt, Pv (i + 1), fun σ2 H2 p2 => ⟨wk.xs.length - (i + 1), by omega, rfl, hlt, p2⟩, fun x H2 y => ?_⟩
  have hw : wk.xs[i]? = some wk.xs[i] := by simp [hlt]
  obtain ⟨xt2, hr3, rx⟩ := wkr.yields i H' ι' h' x H2 xt1.k hr2 ok y _ hw
  generalize wk.xs[i] = w at q rx
  unfold loopB at q
  cases hs : setTg t w v' with
  | none => rw [hs] at q; exact q.elim
  | some v3 =>
    rw [hs] at q
    dsimp only at q
    refine ⟨ι', w, v', v3, er2.mono xt2, rx, hs, fun σ2 er3 _ => ⟨ι', v3, h', hr3, l2, er3, ?_⟩⟩
    have go : ∀ {v4 : Env} {h4 : Hpa}, sPost xr (bgX X) lo U D H' ι' σ' (loopL (loopB t mb) wk.g (wk.xs.drop (i + 1)) v4 h4) → ∀ H4 ι4 σ4, Xt H2 ι' H4 ι4 → Hr (bgX X) H4 ι4 h4 → Lo lo h4 → Er (bgX X) H4 ι4 v4 σ4 → Pv (i + 1) σ4 H4 := fun {v4 h4} q H4 ι4 σ4 a b c d =>
      ⟨ι4, h4, v4, xt1.trans (xt2.trans a), b, c, d, sPost.from (xt2.trans a) q⟩
    cases hm : mb v3 h' with
    | nx v4 h4 => rw [hm] at q; exact go q
    | ct v4 h4 => rw [hm] at q; exact go q
    | bk v4 h4 => rw [hm] at q; exact fun H4 ι4 σ4 a b c d => q H4 ι4 σ4 (xt2.trans a) b c d
    | rt w4 h4 => rw [hm] at q; exact fun H4 ι4 u a b c d => q H4 ι4 u (xt2.trans a) b c d
    | ex x4 v4 h4 => rw [hm] at q; exact fun H4 ι4 σ4 a b c d => q H4 ι4 σ4 (xt2.trans a) b c d
    | bad => rw [hm] at q; exact q.elim
theorem ss_while {c : Expr} {body : List Stmt} {pos : Pos} {mc : Env → Hpa → R W} {mb : Env → Hpa → SR} (hp : PassesOwn (model X.prog X.w) X.A X.env X.xe) (hc : PT X c (tT xr X lo U mc)) (hb : PSs X body (tS xr X lo U mb)) :
    PS X (.While c body [] pos) (tS xr X lo U (fun v h => whL (fun v h => mc v h) (fun v h => mb v h) FUEL v h)) := by
  refine (ps_while hp hc hb).imp fun D σ H ⟨ι, v, h, hr, l, er, p⟩ => ?_
  refine ⟨fun m σ' H' => ∃ ι' v' h', Hr (bgX X) H' ι' h' ∧ Lo lo h' ∧ Er (bgX X) H' ι' v' σ' ∧ sPost xr (bgX X) lo U D H' ι' σ' (whL (fun v h => mc v h) (fun v h => mb v h) m v' h'), ⟨FUEL, ι, v, h, hr, l, er, p⟩, ?_⟩
  rintro m σ' H' ⟨ι', v', h', hr', l', er', q⟩
  cases m with
  | zero => exact q.elim
  | succ m =>
    have q : sPost xr (bgX X) lo U D H' ι' σ' ((mc v' h').sv v' fun x h1 => match x with
      | .bl true => (match mb v' h1 with
        | .nx v1 h2 => whL (fun v h => mc v h) (fun v h => mb v h) m v1 h2
        | .ct v1 h2 => whL (fun v h => mc v h) (fun v h => mb v h) m v1 h2
        | .bk v1 h2 => .nx v1 h2
        | r => r)
      | .bl false => .nx v' h1
      | _ => .bad) := q
    refine (svT (Gf := fun b h1 => if b = true then (match mb v' h1 with
        | .nx v1 h2 => whL (fun v h => mc v h) (fun v h => mb v h) m v1 h2
        | .ct v1 h2 => whL (fun v h => mc v h) (fun v h => mb v h) m v1 h2
        | .bk v1 h2 => .nx v1 h2
        | r => r) else .nx v' h1) hr' l' er' q (fun b h1 => by cases b <;> rfl) (fun x h1 hx => by cases x <;> first | rfl | cases hx)).mono fun b H1 ⟨ι1, h1, s1, p1⟩ => ?_
    cases b with
    | false => exact p1.next s1.hr s1.lo s1.er
    | true =>
      have p1 : sPost xr (bgX X) lo U D H1 ι1 σ' (match mb v' h1 with
        | .nx v1 h2 => whL (fun v h => mc v h) (fun v h => mb v h) m v1 h2
        | .ct v1 h2 => whL (fun v h => mc v h) (fun v h => mb v h) m v1 h2
        | .bk v1 h2 => .nx v1 h2
        | r => r) := p1
      rw [if_pos rfl]
      refine ⟨fun σ2 H2 => ∃ ι' v' h', Hr (bgX X) H2 ι' h' ∧ Lo lo h' ∧ Er (bgX X) H2 ι' v' σ2 ∧ sPost xr (bgX X) lo U D H2 ι' σ2 (whL (fun v h => mc v h) (fun v h => mb v h) m v' h'), fun σ2 H2 z => ⟨m, Nat.lt_succ_self m, z⟩, ι1, v', h1, s1.hr, s1.lo, s1.er, ?_⟩
      have go : ∀ {v4 : Env} {h4 : Hpa}, sPost xr (bgX X) lo U D H1 ι1 σ' (whL (fun v h => mc v h) (fun v h => mb v h) m v4 h4) → ∀ H4 ι4 σ4, Xt H1 ι1 H4 ι4 → Hr (bgX X) H4 ι4 h4 → Lo lo h4 → Er (bgX X) H4 ι4 v4 σ4 →
          ∃ ι' v' h', Hr (bgX X) H4 ι' h' ∧ Lo lo h' ∧ Er (bgX X) H4 ι' v' σ4 ∧ sPost xr (bgX X) lo U D H4 ι' σ4 (whL (fun v h => mc v h) (fun v h => mb v h) m v' h') := fun {v4 h4} q H4 ι4 σ4 a b c d => ⟨ι4, v4, h4, b, c, d, sPost.from a q⟩
      cases hm : mb v' h1 with
      | nx v4 h4 => rw [hm] at p1; exact go p1
      | ct v4 h4 => rw [hm] at p1; exact go p1
      | bk v4 h4 => rw [hm] at p1; exact p1
      | rt w4 h4 => rw [hm] at p1; exact p1
      | ex x4 v4 h4 => rw [hm] at p1; exact p1
      | bad => rw [hm] at p1; exact p1.elim
end
section
variable {xr : Exn → Hp → Value → Option Addr → Prop} {G : Gm} {P : Pg} {N : List Str} {n : Nat} {lo : Lv}
/-- the parts of a comprehension -/
theorem comp_parts {b : Bool} {elt : E} {t : Tg} {it : It} {c : E} {x : Expr} {gs : List Comprehension} {scope : Scope} {p : Pos} {X : Cx} {sc : Scope} {blk : Bool} {U : WX} (o : Ok xr G P N sc blk n X) (tk : Takes X U) (h : ckE G N sc (.comp b elt t it c) (.ListComp x gs scope p) = true) :
    ∃ tg iter ifs, gs = [⟨tg, iter, ifs, 0⟩] ∧ PI X tg iter (tI xr X lo U (evI ⟨callF P n lo, lo, P.cst⟩ it)) ∧ BlkOk X.N X.env.scope scope (ownOf N (tgs t)) ∧ (ownOf N (tgs t)).map (·.2) = tgs t ∧
      (∀ (s : Shared) (H : Hp) (C : Addr) (cl : List (Str × Addr)) (fp : List Addr), PG (X.blk s H scope (compEnvC scope cl C X.env) fp) tg (tG (bgX X) t)) ∧
      (∀ (s : Shared) (H : Hp) (C : Addr) (cl : List (Str × Addr)) (fp : List Addr), PTs (X.blk s H scope (compEnvC scope cl C X.env) fp) ifs (tT xr X lo U0 (evE ⟨callF P n lo, lo, P.cst⟩ c))) ∧
      (∀ (s : Shared) (H : Hp) (C : Addr) (cl : List (Str × Addr)) (fp : List Addr), PE (X.blk s H scope (compEnvC scope cl C X.env) fp) x (tE xr X lo U0 (evE ⟨callF P n lo, lo, P.cst⟩ elt))) ∧
      ∀ y, foldedSetIterable iter X.env y = pure y := by
    match gs, h with
    | [⟨tg, iter, ifs, asy⟩], h =>
      have h1 := and2 h
      have h2 := and2 h1.1
      have h3 := and2 h2.1
      have h4 := and2 h3.1
      have h5 := and2 h4.1
      have h6 := and2 h5.1
      have h7 := and2 h6.1
      have ea : asy = 0 := of_decide_eq_true h7.1
      subst ea
      refine ⟨tg, iter, ifs, rfl, (sdI it iter X sc blk U o tk h7.2).2 tg h6.2, ?_, of_decide_eq_true h4.2, fun s H C cl fp => ?_, fun s H C cl fp => ?_, fun s H C cl fp => ?_, fun y => plain_fold (sdI (lo := lo) it iter X sc blk U o tk h7.2).1 _ y⟩
      · rw [o.nm, o.sc]
        exact blkOk_by h5.2
      · have ob := o.blk s H scope C cl fp
        exact sd_tg (blk := true) o.calm ob.nm_nd (fun z => by cases z) (by rw [ob.nm, ob.sc]; exact h3.2)
      · have ob := o.blk s H scope C cl fp
        match ifs, h2.2 with
        | [], hc =>
          cases c with
          | bl bb =>
            cases bb with
            | true => exact ⟨fun pins s' σ H' Q I ⟨ι, v, h, hr, l, er, q⟩ => pts_nil.run pins s' σ H' Q I (q.ok hr l rfl)⟩
            | false => exact absurd hc Bool.false_ne_true
          | _ => exact absurd hc Bool.false_ne_true
        | [z], hc => exact pts_one (sdE c z _ _ true U0 ob takes0 hc).pt
      · have ob := o.blk s H scope C cl fp
        exact (sdE elt x _ _ true U0 ob takes0 h1.2).pe
theorem sdAsg {t : Tg} {m : E} {tg x : Expr} {pos : Pos} {X : Cx} {sc : Scope} {U : WX} (o : Ok xr G P N sc false n X) (kind : X.env.scope.kind = .function) (tk : Takes X U) (h1 : ckE G N sc m x = true) (h2 : ckTg N sc false t tg = true) (h3 : compT G N sc t tg x = true) :
    PS X (.Assign [tg] x pos) (tS xr X lo U (fun v h => (evE ⟨callF P n lo, lo, P.cst⟩ m v h).sv v fun x h1 => (match setTg t x v with
    | some v1 => .nx v1 h1
    | none => .bad))) := by
  by_cases hno : m = .no
  · subst hno
    exact ps_never.imp fun D σ H ⟨ι, v, h, hr, l, er, p⟩ => (show False from p).elim
  have he := sdE (lo := lo) m x X sc false U o tk h1
  have hg : PG X tg (tG (bgX X) t) := sd_tg (blk := false) o.calm o.nm_nd (fun _ => o.fnc rfl) (by rw [o.nm, o.sc]; exact h2)
  have pl := ck_plain h1
  cases t with
  | nm i =>
    cases tg <;> try exact absurd h2 Bool.false_ne_true
    rename_i y py
    have c1 := and2 (show (decide (N[i]? = some y) && locB false sc y) = true from h2)
    by_cases nc : isComp x = false
    · exact ss_asg he.pe hg (show swapsWith x (some (.Name y py)) pos.line X.env = pure false from sw_nc pl nc) rfl rfl
    · cases x <;> try exact absurd rfl nc
      rename_i elt gs scope p
      cases m <;> try first | exact absurd h1 Bool.false_ne_true | exact absurd rfl hno
      rename_i b elt' t' it c
      obtain ⟨tg, iter, ifs, rfl, a1, a2, a3, a4, a5, a6, a7⟩ := comp_parts (lo := lo) o tk h1
      refine (ss_setLc o.calm o.nm_nd kind (by rw [o.nm]; exact of_decide_eq_true c1.1) (by rw [o.sc]; exact c1.2) (o.fnc rfl) a1 a2 a4 a5 a6 a7).imp fun D σ H ⟨ι, v, h, hr, l, er, q⟩ => ?_
      refine sd_comp (b := b) (mc := evE ⟨callF P n lo, lo, P.cst⟩ c) (me := evE ⟨callF P n lo, lo, P.cst⟩ elt') a1 a3 σ H _ ?_
      exact (svE (m := evE ⟨callF P n lo, lo, P.cst⟩ (.comp b elt' t' it c)) hr l er q).mono fun u H1 ⟨w, ι1, h1, s1, r1, p1⟩ => p1 H1 ι1 _ .refl s1.hr s1.lo (s1.er.set r1)
  | tp is =>
    cases tg <;> try exact absurd h2 Bool.false_ne_true
    rename_i ts k pt
    by_cases nt : isTup x = false
    · refine ss_asg he.pe hg (sw_tup pl) ?_ rfl
      cases x <;> first | rfl | exact absurd nt.symm Bool.false_ne_true | exact absurd pl Bool.false_ne_true
    · cases x <;> try exact absurd rfl nt
      rename_i vs k2 p2
      have h3 : (noSwap sc ts vs || swap2 sc ts vs) = true := h3
      cases hn : noSwap sc ts vs with
      | true =>
        exact ss_asg he.pe hg (sw_tup rfl) (noSwap_ok (by rw [o.sc]; exact hn)) rfl
      | false =>
        rw [hn] at h3
        have h3 : swap2 sc ts vs = true := h3
        match ts, vs, h3 with
        | [.Name x px, .Name y py], [a, b], h3 =>
          cases m <;> try first | exact absurd h1 Bool.false_ne_true | exact absurd rfl hno
          rename_i es
          match is, h2 with
          | [i, j], h2 =>
            have c1 := and2 (show ((decide (N[i]? = some x) && locB false sc x) && ckNames N sc false [j] [.Name y py]) = true from h2)
            have c2 := and2 c1.1
            have c3 := and2 (show ((decide (N[j]? = some y) && locB false sc y) && ckNames N sc false [] []) = true from c1.2)
            have c4 := and2 c3.1
            have d := sdEs (lo := lo) es [a, b] X sc false U o tk h1
            have pp := d.plain
            have pp := and2 (show (plainX a && [b].all plainX) = true from pp)
            have pq := and2 (show (plainX b && ([] : List Expr).all plainX) = true from pp.2)
            exact ss_par o.calm o.nm_nd kind (by rw [o.nm]; exact of_decide_eq_true c2.1) (by rw [o.nm]; exact of_decide_eq_true c4.1) d.pa pp.1 pq.1 (by rw [o.sc]; exact h3)
          | [], h2 => exact absurd h2 Bool.false_ne_true
          | [i], h2 =>
            have c1 := and2 (show ((decide (N[i]? = some x) && locB false sc x) && ckNames N sc false [] [.Name y py]) = true from h2)
            exact absurd c1.2 Bool.false_ne_true
          | i :: j :: z :: r, h2 =>
            have c1 := and2 (show ((decide (N[i]? = some x) && locB false sc x) && ckNames N sc false (j :: z :: r) [.Name y py]) = true from h2)
            have c2 := and2 (show ((decide (N[j]? = some y) && locB false sc y) && ckNames N sc false (z :: r) []) = true from c1.2)
            exact absurd c2.2 Bool.false_ne_true
mutual
theorem sdS : ∀ (m : S) (st : Stmt) (X : Cx) (sc : Scope) (U : WX), Ok xr G P N sc false n X → X.env.scope.kind = .function → PassesOwn (model X.prog X.w) X.A X.env X.xe → Takes X U → ckS G N sc m st = true → PS X st (tS xr X lo U (exS ⟨callF P n lo, lo, P.cst⟩ m))
  | .asg t m, st, X, sc, U, o, kind, hp, tk, h => by
    cases st <;> try exact absurd h Bool.false_ne_true
    rename_i ts x p
    match ts, h with
    | [tg], h =>
      have h : (ckE G N sc m x && ckTg N sc false t tg && compT G N sc t tg x) = true := by
        cases tg <;> exact h
      have h1 := and2 h
      have h2 := and2 h1.1
      exact sdAsg o kind tk h2.1 h2.2 h1.2
    | [], h => exact absurd h Bool.false_ne_true
    | _ :: _ :: _, h => exact absurd h Bool.false_ne_true
  | .asgSub a i e, st, X, sc, U, o, kind, hp, tk, h => by
    cases st <;> try exact absurd h Bool.false_ne_true
    rename_i ts x p
    match ts, h with
    | [.Subscript oa oi _], h =>
      have h1 := and2 h
      have h2 := and2 h1.1
      exact ss_asgSub o.hu (sdE e x X sc false U o tk h2.1).pe (sdE a oa X sc false U o tk h2.2).pe (sdE i oi X sc false U o tk h1.2).pe (ck_plain h2.1) (ck_plain h1.2)
  | .par2 _ _ _ _, st, X, sc, U, o, kind, hp, tk, h => by
    cases st <;> exact absurd h Bool.false_ne_true
  | .expr e, st, X, sc, U, o, kind, hp, tk, h => by
    cases st <;> try exact absurd h Bool.false_ne_true
    have h1 := and2 h
    exact ss_expr (sdE e _ X sc false U o tk h1.1).pe (ck_plain h1.1) ((Bool.not_eq_true' _).mp h1.2)
  | .ret e, st, X, sc, U, o, kind, hp, tk, h => by
    cases st <;> try exact absurd h Bool.false_ne_true
    rename_i x p
    cases x with
    | none => exact absurd h Bool.false_ne_true
    | some x => exact ss_ret (sdE e x X sc false U o tk h).pe
  | .retN, st, X, sc, U, o, kind, hp, tk, h => by
    cases st <;> try exact absurd h Bool.false_ne_true
    rename_i x p
    cases x with
    | none => exact ss_retN
    | some x => exact absurd h Bool.false_ne_true
  | .ite c a b, st, X, sc, U, o, kind, hp, tk, h => by
    cases st <;> try exact absurd h Bool.false_ne_true
    have h1 := and2 h
    have h2 := and2 h1.1
    exact ss_if (sdE c _ X sc false U o tk h2.1).pt (sdSs a _ X sc U o kind hp tk h2.2) (sdSs b _ X sc U o kind hp tk h1.2)
  | .loop t it b, st, X, sc, U, o, kind, hp, tk, h => by
    cases st <;> try exact absurd h Bool.false_ne_true
    rename_i tg x body els p
    cases els with
    | cons => exact absurd h Bool.false_ne_true
    | nil =>
      have h1 := and2 h
      have h2 := and2 h1.1
      have h3 := and2 h2.1
      have d := sdI (lo := lo) it x X sc false U o tk h3.1
      exact ss_for hp o.calm (d.2 tg h3.2) (sd_tg (blk := false) o.calm o.nm_nd (fun _ => o.fnc rfl) (by rw [o.nm, o.sc]; exact h2.2)) (sdSs b body X sc U o kind hp tk h1.2) fun y => plain_fold d.1 _ y
  | .wh c b, st, X, sc, U, o, kind, hp, tk, h => by
    cases st <;> try exact absurd h Bool.false_ne_true
    rename_i x body els p
    cases els with
    | cons => exact absurd h Bool.false_ne_true
    | nil =>
      have h1 := and2 h
      exact ss_while hp (sdE c x X sc false U o tk h1.1).pt (sdSs b body X sc U o kind hp tk h1.2)
  | .pass, st, X, sc, U, o, kind, hp, tk, h => by
    cases st <;> try exact absurd h Bool.false_ne_true
    exact ps_pass.imp fun D σ H ⟨ι, v, h, hr, l, er, p⟩ => p.next hr l er
  | .cont, st, X, sc, U, o, kind, hp, tk, h => by
    cases st <;> try exact absurd h Bool.false_ne_true
    exact ps_continue.imp fun D σ H ⟨ι, v, h, hr, l, er, p⟩ => p H ι σ .refl hr l er
  | .brk, st, X, sc, U, o, kind, hp, tk, h => by
    cases st <;> try exact absurd h Bool.false_ne_true
    exact ps_break.imp fun D σ H ⟨ι, v, h, hr, l, er, p⟩ => p H ι σ .refl hr l er
  | .nope, st, X, sc, U, o, kind, hp, tk, h => ps_never.imp fun D σ H ⟨ι, v, h, hr, l, er, p⟩ => (show False from p).elim
theorem sdSs : ∀ (ms : Ss) (sts : List Stmt) (X : Cx) (sc : Scope) (U : WX), Ok xr G P N sc false n X → X.env.scope.kind = .function → PassesOwn (model X.prog X.w) X.A X.env X.xe → Takes X U → ckSs G N sc ms sts = true → PSs X sts (tS xr X lo U (exSs ⟨callF P n lo, lo, P.cst⟩ ms))
  | .nil, sts, X, sc, U, o, kind, hp, tk, h => by
    cases sts with
    | nil => exact sss_nil
    | cons => exact absurd h Bool.false_ne_true
  | .cons m ms, sts, X, sc, U, o, kind, hp, tk, h => by
    cases sts with
    | nil => exact absurd h Bool.false_ne_true
    | cons st sts =>
      have h1 := and2 h
      exact sss_cons (sdS m st X sc U o kind hp tk h1.1) (sdSs ms sts X sc U o kind hp tk h1.2)
end
end
end Mi

/-! Mi17: every def of the program is told by callF; the law's own call. -/
namespace Mi
open PySem PySem.Spec PyProof.Rows L2
theorem unds_keys (n : Nat) : ∀ ks : List Key, W.unds n (ks.map kW) = true
  | [] => rfl
  | .inl _ :: ks => by
    show (true && W.unds n (ks.map kW)) = true
    rw [unds_keys n ks]
    rfl
  | .inr _ :: ks => by
    show (true && W.unds n (ks.map kW)) = true
    rw [unds_keys n ks]
    rfl
section
variable {B : Bg} {H : Hp} {ι ι' : Own} {h h' : Hpa}
mutual
theorem Rw.und : ∀ {w : W} {u : V}, Rw B H ι w u → w.und ι.ix.length = true
  | _, _, .non => rfl
  | _, _, .bl _ => rfl
  | _, _, .int _ => rfl
  | _, _, .str _ _ => rfl
  | _, _, .rep _ => rfl
  | _, _, .tup _ r => Rws.und r
  | _, _, .lst _ r => Rws.und r
  | _, _, .lsk _ r => Rws.und r
  | _, _, .dk _ _ _ r => Rws.und r
  | _, _, .dkw _ _ _ r => Rws.und r
  | _, _, .st (ks := ks) _ _ => unds_keys _ ks
  | _, _, .ref e => decide_eq_true (List.getElem?_eq_some_iff.mp e).1
theorem Rws.und : ∀ {ws : List W} {us : List V}, Rws B H ι ws us → W.unds ι.ix.length ws = true
  | _, _, .nil => rfl
  | _, _, .cons (x := x) (xs := xs) a b => by
    show (W.und ι.ix.length x && W.unds ι.ix.length xs) = true
    rw [Rw.und a, Rws.und b]
    rfl
end
theorem Obr.und {a : Addr} : ∀ {ob : Ob}, Obr B H ι a ob → ob.und ι.ix.length = true
  | .lst _, ⟨_, _, r⟩ => r.und
  | .dk _ _, ⟨_, _, _, _, r⟩ => r.und
  | .ins _ _, z => z.elim
/-- fewer objects of ours -/
structure Cut (ι ι' : Own) : Prop where
  at_ : ∀ (n : Nat) (a : Addr), n < ι.ix.length → ι'.ix[n]? = some a → ι.ix[n]? = some a
  sub : ∀ a, a ∉ ι' → a ∉ ι
mutual
theorem Rw.shed (c : Cut ι ι') : ∀ {w : W} {u : V}, Rw B H ι' w u → w.und ι.ix.length = true → Rw B H ι w u
  | _, _, .non, _ => .non
  | _, _, .bl b, _ => .bl b
  | _, _, .int i, _ => .int i
  | _, _, .str s h, _ => .str s h
  | _, _, .rep s, _ => .rep s
  | _, _, .tup f r, h => .tup (f.imp (fun ⟨p, n⟩ => ⟨p, c.sub _ n⟩) id) (Rws.shed c r h)
  | _, _, .lst f r, h => .lst ⟨f.1, c.sub _ f.2⟩ (Rws.shed c r h)
  | _, _, .lsk f r, h => .lsk (f.imp (fun ⟨u, p, n⟩ => ⟨u, p, c.sub _ n⟩) id) (Rws.shed c r h)
  | _, _, .dk f l k r, h => .dk ⟨f.1, c.sub _ f.2⟩ l k (Rws.shed c r h)
  | _, _, .dkw f l k r, h => .dkw f l k (Rws.shed c r h)
  | _, _, .st f k, _ => .st ⟨f.1, c.sub _ f.2⟩ k
  | _, _, .ref e, h => .ref (c.at_ _ _ (of_decide_eq_true h) e)
theorem Rws.shed (c : Cut ι ι') : ∀ {ws : List W} {us : List V}, Rws B H ι' ws us → W.unds ι.ix.length ws = true → Rws B H ι ws us
  | _, _, .nil, _ => .nil
  | _, _, .cons a b, h => .cons (Rw.shed c a (and2 h).1) (Rws.shed c b (and2 h).2)
end
theorem Cut.of {H0 : Hp} (x : Xt H0 ι H ι') : Cut ι ι' := by
  obtain ⟨more, e, _⟩ := x.ex
  refine ⟨fun n a hn q => ?_, fun a hn hm => hn ?_⟩
  · rw [e, List.getElem?_append_left hn] at q
    exact q
  · rcases hm with hm | hm
    · exact .inl (by rw [e]; exact List.mem_append_left _ hm)
    · exact .inr (by rw [x.rs]; exact hm)
/-- the address of an object made since -/
theorem later {H0 : Hp} (x : Xt H0 ι H ι') (hr : Hr B H ι' h') {n : Nat} {a : Addr} (e : ι'.ix[n]? = some a) (hn : ι.ix.length ≤ n) : a ∉ ι := by
  obtain ⟨more, em, _⟩ := x.ex
  have nd := hr.nd
  rw [em, List.append_assoc] at nd
  rw [em, List.getElem?_append_right hn] at e
  have hm : a ∈ more := List.mem_of_getElem? e
  have nd2 := List.nodup_append.mp nd
  refine Own.not (fun z => nd2.2.2 a z a (List.mem_append_left _ hm) rfl) fun z => ?_
  rw [← x.rs] at z
  exact (List.nodup_append.mp nd2.2.1).2.2 a hm a z rfl
theorem mapM_rws {f : W → Option W} {H : Hp} (hf : ∀ w w' u, f w = some w' → Rw B H ι' w u → Rw B H ι w' u) : ∀ {ws ws' : List W} {us : List V}, ws.mapM f = some ws' → Rws B H ι' ws us → Rws B H ι ws' us
  | [], ws', _, e, .nil => by
    simp at e
    subst e
    exact .nil
  | w :: ws, ws', _, e, .cons a b => by
    rw [List.mapM_cons] at e
    cases h1 : f w with
    | none => simp [h1] at e
    | some w1 =>
      cases h2 : ws.mapM f with
      | none => simp [h1, h2] at e
      | some ws1 =>
        simp [h1, h2] at e
        subst e
        exact .cons (hf _ _ _ h1 a) (mapM_rws hf h2 b)
theorem frz_ok {H0 : Hp} (x : Xt H0 ι H ι') (hr : Hr B H ι' h') : ∀ (k : Nat) (w w' : W) (u : V), frz ι.ix.length h' k w = some w' → Rw B H ι' w u → Rw B H ι w' u
  | 0, _, _, _, e, _ => by simp [frz] at e
  | k + 1, w, w', u, e, r => by
    have ih := frz_ok x hr k
    unfold frz at e
    split at e
    · rename_i hp
      cases e
      exact r.shed (.of x) (W.und_pure _ _ hp)
    · split at e
      · rename_i n _
        obtain ⟨a, ea, eu⟩ := r.refAt
        subst eu
        split at e
        · rename_i hn
          cases e
          exact .ref ((Cut.of x).at_ _ _ hn ea)
        · rename_i hn
          split at e
          · rename_i xs hx
            obtain ⟨vs, hH, rs⟩ := hr.at_ n _ a hx ea
            cases h2 : xs.mapM (frz ι.ix.length h' k) with
            | none => simp [h2] at e
            | some ws1 =>
              simp [h2] at e
              subst e
              exact .lst ⟨hH, later x hr ea (Nat.le_of_not_lt hn)⟩ (mapM_rws ih h2 rs)
          · rename_i ks xs hx
            obtain ⟨vs, hH, hl, hk, rs⟩ := hr.at_ n _ a hx ea
            split at e
            · cases e
            · cases h2 : xs.mapM (frz ι.ix.length h' k) with
              | none => simp [h2] at e
              | some ws1 =>
                simp [h2] at e
                subst e
                exact .dk ⟨.inl hH, later x hr ea (Nat.le_of_not_lt hn)⟩ hl hk (mapM_rws ih h2 rs)
          · cases e
      · rename_i xs _
        cases r with
        | tup f rs =>
          cases h2 : xs.mapM (frz ι.ix.length h' k) with
          | none => simp [h2] at e
          | some ws1 =>
            simp [h2] at e
            subst e
            exact .tup (f.imp (fun ⟨p, n⟩ => ⟨p, (Cut.of x).sub _ n⟩) id) (mapM_rws ih h2 rs)
      · rename_i xs _
        cases r with
        | lst f rs =>
          cases h2 : xs.mapM (frz ι.ix.length h' k) with
          | none => simp [h2] at e
          | some ws1 =>
            simp [h2] at e
            subst e
            exact .lst ⟨f.1, (Cut.of x).sub _ f.2⟩ (mapM_rws ih h2 rs)
      · cases e
end
/-! ### the call's end -/
def Lv.up (lo : Lv) (n : Nat) (h : lo.top ≤ n) : Lv := ⟨n, fun m => lo.set m ∨ m = n, fun m hm => hm.elim (fun z => Nat.le_trans (lo.le m z) h) fun z => Nat.le_of_eq z⟩
section
variable {B : Bg} {lo : Lv} {E : XP} {H H' : Hp} {ι ι' : Own} {h h' : Hpa} {Q : VK} {w : W} {u : V}
theorem Lo.up (l : Lo lo h) (hr : Hr B H ι h) : Lo (lo.up h.length l.1) h := by
  refine ⟨Nat.le_refl _, fun m hm n ob hn e => ?_⟩
  rcases hm with z | z
  · exact l.2 m z n ob hn e
  · obtain ⟨a, _, o⟩ := hr.get e
    have := o.und
    rw [hr.len] at this
    rw [z]
    exact this
theorem Hr.cut (x : Xt H ι H' ι') (hr : Hr B H' ι' h') (hl : ι.ix.length = h.length) (und : ∀ (n : Nat) (ob : Ob), n < h.length → h'[n]? = some ob → ob.und h.length = true) : Hr B H' ι (h'.take h.length) := by
  obtain ⟨more, e, _⟩ := x.ex
  have hz : h.length ≤ h'.length := by
    rw [← hr.len, e, List.length_append, hl]
    exact Nat.le_add_right _ _
  refine ⟨by rw [List.length_take, hl]; omega, ?_, fun n ob a e1 e2 => ?_, fun a ha => hr.res a (by rw [x.rs]; exact ha)⟩
  · have nd := hr.nd
    rw [e, x.rs] at nd
    have nd2 := List.nodup_append.mp nd
    exact List.nodup_append.mpr ⟨(List.nodup_append.mp nd2.1).1, nd2.2.1, fun a ha b hb => nd2.2.2 a (List.mem_append_left _ ha) b hb⟩
  · have hn : n < h.length := by
      have := (List.getElem?_eq_some_iff.mp e2).1
      omega
    rw [List.getElem?_take_of_lt hn] at e1
    have r := hr.at_ n ob a e1 (x.at e2)
    have ud := und n ob hn e1
    rw [← hl] at ud
    cases ob with
    | lst ws =>
      obtain ⟨vs, q, rs⟩ := r
      exact ⟨vs, q, rs.shed (.of x) ud⟩
    | dk ks ws =>
      obtain ⟨vs, q, l1, k1, rs⟩ := r
      exact ⟨vs, q, l1, k1, rs.shed (.of x) ud⟩
    | ins _ _ => exact r.elim
theorem Xt.back (x : Xt H ι H' ι') : Xt H ι H' ι := ⟨⟨[], by simp, fun _ z => nomatch z⟩, rfl, x.keep, x.there, x.res⟩
theorem Lo.back (l : Lo lo h) (l' : Lo (lo.up h.length l.1) h') : Lo lo (h'.take h.length) := by
  have h1 : h.length ≤ h'.length := l'.1
  refine ⟨by rw [List.length_take]; have := l.1; omega, fun m hm n ob hn e => ?_⟩
  have hn' : n < h.length := Nat.lt_of_lt_of_le hn (Nat.le_trans (lo.le m hm) l.1)
  rw [List.getElem?_take_of_lt hn'] at e
  exact l'.2 m (.inl hm) n ob hn e
/-- a def's answer, handed out -/
theorem fin_ok (l : Lo lo h) (hr : Hr B H ι h) (p : post B lo (rW B) E H ι (fin false h.length w h') Q) (x : Xt H ι H' ι') (hr' : Hr B H' ι' h') (l' : Lo (lo.up h.length l.1) h') (ru : Rw B H' ι' w u) : Q u H' := by
  unfold fin at p
  simp only [Bool.false_eq_true, if_false] at p
  cases hf : frz h.length h' DEP w with
  | none => rw [hf] at p; exact p.elim
  | some w' =>
    rw [hf] at p
    rw [← hr.len] at hf
    exact p H' ι u x.back (hr'.cut x hr.len fun n ob hn e => l'.2 _ (.inr rfl) n ob hn e) (l.back l') (frz_ok x hr' DEP w w' u hf ru)
end
/-! ### the defs -/
structure DefIs (K : PySem.W.Frag) (G : Gm) (Pr : Pg) (i : Nat) (f : Addr) : Prop where
  ex : ∃ (fd : FuncData) (x qual : Str) (params : Arguments) (body : List Stmt) (scope : Scope) (N ps : List Str) (d : Fd), FunD K x qual params body scope [] [] f fd ∧ Binds K fd ps [] ∧ FnScope N ps scope ∧
    Pr.fd i = some d ∧ d.np = ps.length ∧ d.ns = N.length ∧ ckSs G N scope d.body body = true
structure Prog (P : Program) (w : World) (K : PySem.W.Frag) (mg : Str → Option Value) (G : Gm) (Pr : Pg) : Prop where
  fns : ∀ i x, G.fn.lookup i = some x → ∃ f, mg x = some (.ref f) ∧ PySem.W.keepIn K (.ref f) = true ∧ DefIs K G Pr i f
  cst : ∀ i x c, G.cs.lookup i = some x → Pr.cst i = some c → ∃ u v, mg x = some u ∧ RelV v u ∧ ∀ H ι, Rw ⟨K, w, P⟩ H ι c v
  blt : ∀ x ∈ bNames, mg x = none
theorem start_er {B : Bg} {H : Hp} {ι : Own} {N : List Str} {ws : List W} {vs : List V} (r : Rws B H ι ws vs) : Er B H ι (ws.map some ++ List.replicate (N.length - ws.length) none) (L2.start N vs) := by
  have hl := r.length
  unfold L2.start
  refine ⟨by simp [hl], fun i x e => ?_⟩
  by_cases hi : i < ws.length
  · rw [List.getElem?_append_left (by simpa using hi), List.getElem?_map] at e
    cases q : ws[i]? with
    | none => rw [q] at e; cases e
    | some w =>
      rw [q] at e
      cases e
      obtain ⟨u, e1, e2⟩ := r.get q
      refine ⟨u, ?_, e2⟩
      rw [List.getElem?_append_left (by simp; omega), List.getElem?_map, e1]
      rfl
  · rw [List.getElem?_append_right (by simpa using hi)] at e
    have := List.mem_of_getElem? e
    rw [List.mem_replicate] at this
    cases this.2
section
variable {xr : Exn → Hp → Value → Option Addr → Prop} {P : Program} {w : World} {K : PySem.W.Frag} {mg : Str → Option Value} {base : Heap} {G : Gm} {Pr : Pg}
theorem callF_len {n lo i : Nat} {ws : List W} {h : Hpa} {d : Fd} (hd : Pr.fd i = some d) (ne : ws.length ≠ d.np) : callF Pr (n + 1) lo i ws h = .bad := by
  show (match Pr.fd i with
    | none => _
    | some d => _) = _
  rw [hd]
  exact if_neg ne
theorem callF_eq {n lo i : Nat} {ws : List W} {h : Hpa} {d : Fd} (hd : Pr.fd i = some d) (e : ws.length = d.np) : callF Pr (n + 1) lo i ws h = (match exSs ⟨callF Pr n (if d.keep then lo else h.length), (if d.keep then lo else h.length), Pr.cst⟩ d.body (ws.map some ++ List.replicate (d.ns - d.np) none) h with
    | .rt w h' => fin d.keep (if d.keep then lo else h.length) w h'
    | .nx _ h' => fin d.keep (if d.keep then lo else h.length) .non h'
    | .ex x _ h' => .ex x (if d.keep then h' else h'.take (if d.keep then lo else h.length))
    | _ => .bad) := by
  show (match Pr.fd i with
    | none => _
    | some d => _) = _
  rw [hd]
  exact if_pos e
theorem prog_all (pr : Prog P w K mg G Pr) : ∀ (n i : Nat) (f : Addr), DefIs K G Pr i f → ∃ np, FnG P w K mg base n f np (spM xr ⟨K, w, P⟩ Pr n i)
  | 0, i, f, _ => ⟨0, ⟨fun vs H Q E ⟨_, _, _, _, _, _, _, p⟩ => p.elim, fun A outer s H us vs Q E _ _ _ _ ⟨_, _, _, _, _, _, _, p⟩ => p.elim⟩⟩
  | n + 1, i, f, ⟨fd, x, qual, params, body, scope, N, ps, d, FD, bd, S, hd, hnp, hns, ck⟩ => by
    have ih := prog_all pr n
    refine ⟨ps.length, fnG_of FD bd S rfl (fun vs H Q E ⟨ι, h, ws, lo, hr, l, rs, p⟩ => ?_) fun cdv A outer s H vs Q E room gd ⟨ι, h, ws, lo, hr, l, rs, p⟩ => ?_⟩
    · by_cases e : ws.length = d.np
      · rw [← rs.length, e, hnp]
      · rw [callF_len hd e] at p
        exact p.elim
    · by_cases e : ws.length = d.np
      case neg => rw [callF_len hd e] at p; exact p.elim
      rw [callF_eq hd e] at p
      have kind : (cxOf (L2.CX P w) P w K mg base N qual scope f cdv A outer s H E).env.scope.kind = .function := S.kind
      have o : Ok xr G Pr N scope false n (cxOf (L2.CX P w) P w K mg base N qual scope f cdv A outer s H E) := by
        refine ⟨rfl, S.nd, rfl, fun _ _ => rfl, rfl, room, gd, pr.blt, fun j y hy => ?_, fun j y c hy hc => pr.cst j y c hy hc⟩
        obtain ⟨g, e1, e2, D⟩ := pr.fns j y hy
        obtain ⟨np, F⟩ := ih j g D
        exact ⟨g, np, e1, e2, F⟩
      have tk : Takes (cxOf (L2.CX P w) P w K mg base N qual scope f cdv A outer s H E) (fun cls d _ H => E cls d H) := takes_of rfl rfl rfl rfl
      have hp : PassesOwn (model P w) (cxOf (L2.CX P w) P w K mg base N qual scope f cdv A outer s H E).A (cxOf (L2.CX P w) P w K mg base N qual scope f cdv A outer s H E).env (cxOf (L2.CX P w) P w K mg base N qual scope f cdv A outer s H E).xe := passes_of rfl
      have er : Er ⟨K, w, P⟩ H ι (ws.map some ++ List.replicate (d.ns - d.np) none) (L2.start N vs) := by
        rw [hns, ← e]
        exact start_er rs
      cases hk : d.keep with
      | true =>
        rw [hk] at p
        simp only [if_true] at p
        refine ⟨_, sdSs (lo := lo) d.body body _ scope _ o kind hp tk ck, ι, _, h, hr, l, er, ?_⟩
        generalize exSs ⟨callF Pr n lo, lo, Pr.cst⟩ d.body (ws.map some ++ List.replicate (d.ns - d.np) none) h = r at p
        cases r with
        | nx v' h' => exact fun H' ι' σ' a b c _ => p H' ι' .non a b c .non
        | rt w' h' => exact p
        | bk v' h' => exact p.elim
        | ct v' h' => exact p.elim
        | ex x' v' h' => exact fun H' ι' σ' a b c _ cls d z => p H' ι' a b c cls d z
        | bad => exact p.elim
      | false =>
        rw [hk] at p
        simp only [Bool.false_eq_true, if_false] at p
        refine ⟨_, sdSs (lo := lo.up h.length l.1) d.body body _ scope _ o kind hp tk ck, ι, _, h, hr, l.up hr, er, ?_⟩
        show sPost _ _ _ _ _ _ _ _ (exSs ⟨callF Pr n h.length, h.length, Pr.cst⟩ d.body (ws.map some ++ List.replicate (d.ns - d.np) none) h)
        generalize exSs ⟨callF Pr n h.length, h.length, Pr.cst⟩ d.body (ws.map some ++ List.replicate (d.ns - d.np) none) h = r at p
        cases r with
        | nx v' h' => exact fun H' ι' σ' a b c _ => fin_ok l hr p a b c .non
        | rt w' h' => exact fun H' ι' u a b c ru => fin_ok l hr p a b c ru
        | bk v' h' => exact p.elim
        | ct v' h' => exact p.elim
        | ex x' v' h' => exact fun H' ι' σ' a b c _ cls d z => p H' ι a.back (b.cut a hr.len fun n ob hn e => c.2 _ (.inr rfl) n ob hn e) (l.back c) cls d z
        | bad => exact p.elim
end
/-! ### the law -/
theorem rws_ints {B : Bg} {H : Hp} {ι : Own} : ∀ ns : List Int, Rws B H ι (ns.map W.int) (ns.map V.int)
  | [] => .nil
  | n :: ns => .cons (.int n) (rws_ints ns)
/-- the whole script, as the law is given it -/
theorem law_ask {xr : Exn → Hp → Value → Option Addr → Prop} {B : Bg} {Pr : Pg} {n i : Nat} {a : Addr} {ns : List Int} {h' : Hpa} (e : callF Pr n 0 i [.lsk (ns.map .int)] [] = .ok (.bl true) h') (H : Hp) (st : AtStart B.K H a ns) :
    spM xr B Pr n i [.ref a] H (fun v _ => v = .bl true) fun _ _ _ => False := by
  refine ⟨⟨[], []⟩, [], [.lsk (ns.map .int)], ⟨0, fun _ => False, fun _ z => z.elim⟩, ⟨rfl, List.nodup_nil, fun n ob a e => by simp at e, fun a ha => nomatch ha⟩, ⟨Nat.le_refl _, fun _ z => z.elim⟩, .cons (.lsk ?_ (rws_ints ns)) .nil, ?_⟩
  · rcases st.1 with ⟨o, z⟩ | z
    · exact .inl ⟨o, z, fun z => z.elim (fun z => nomatch z) (fun z => nomatch z)⟩
    · exact .inr z
  · show post B _ _ _ _ _ (callF Pr n 0 i [.lsk (ns.map .int)] []) _
    rw [e]
    exact fun H' ι' u _ _ _ r => r.ofBl
end Mi

/-! Mi18: the head's facts: defs, constants; the law's end. -/
namespace Mi
open PySem PySem.Spec PyProof.Rows L2
/-! ### constants -/
mutual
def ckW (K : PySem.W.Frag) : W → Value → Bool
  | .non, .none => true
  | .bl b, .bool c => b == c
  | .int i, .int j _ => decide (i = j)
  | .str s, .str t _ => decide (s = t) && sOkB s
  | .tup ws, .ref a => (match K.lookup a with
    | some ⟨.type c, _, .seq its _, _⟩ => decide (c = "tuple") && decide (its.size ≤ sizeLine) && ckWs K ws its.toList
    | _ => false)
  | .lsk ws, .ref a => (match K.lookup a with
    | some ⟨.type c, none, .seq its _, _⟩ => decide (c = "list") && decide (its.size ≤ sizeLine) && ckWs K ws its.toList
    | _ => false)
  | _, _ => false
def ckWs (K : PySem.W.Frag) : List W → List Value → Bool
  | [], [] => true
  | w :: ws, v :: vs => ckW K w v && ckWs K ws vs
  | _, _ => false
end
def ckDs (K : PySem.W.Frag) : List Key → List W → List DictEntry → Bool
  | [], [], [] => true
  | .inr s :: ks, w :: ws, e :: es => (match e.key with
    | .str t _ => decide (s = t)
    | _ => false) && sOkB s && ckW K w e.val && ckDs K ks ws es
  | _, _, _ => false
/-- a constant of the module, by its name -/
def ckK (K : PySem.W.Frag) (p : Str × W) : Bool := match PySem.W.nsIn K mainGlobals p.1 with
  | some (some u) => (match p.2, u with
    | .dkw ks ws, .ref a => (match K.lookup a with
      | some ⟨_, _, .dict es _, _⟩ => decide (a = He.ga K p.1) && ckDs K ks ws es.toList
      | _ => false)
    | c, u => ckW K c u)
  | _ => false
section
variable {K : PySem.W.Frag} {w : World} {P : Program}
mutual
theorem ckW_ok : ∀ {c : W} {u : Value}, ckW K c u = true → ∃ v, RelV v u ∧ ∀ H ι, Rw ⟨K, w, P⟩ H ι c v
  | .non, u, h => by
    cases u <;> try exact absurd h Bool.false_ne_true
    exact ⟨.non, rfl, fun _ _ => .non⟩
  | .bl b, u, h => by
    cases u <;> try exact absurd h Bool.false_ne_true
    rename_i c
    have e : b = c := by simpa using (show (b == c) = true from h)
    subst e
    exact ⟨.bl b, rfl, fun _ _ => .bl b⟩
  | .int i, u, h => by
    cases u <;> try exact absurd h Bool.false_ne_true
    rename_i j t
    have e : i = j := of_decide_eq_true h
    subst e
    exact ⟨.int i, ⟨t, rfl⟩, fun _ _ => .int i⟩
  | .str s, u, h => by
    cases u <;> try exact absurd h Bool.false_ne_true
    rename_i t k
    have h1 := and2 h
    have e : s = t := of_decide_eq_true h1.1
    subst e
    exact ⟨.str s, ⟨k, rfl⟩, fun _ _ => .str s (sOkB_ok h1.2)⟩
  | .tup ws, u, h => by
    cases u <;> try exact absurd h Bool.false_ne_true
    rename_i a
    have h : (match K.lookup a with
      | some ⟨.type c, _, .seq its _, _⟩ => decide (c = "tuple") && decide (its.size ≤ sizeLine) && ckWs K ws its.toList
      | _ => false) = true := h
    split at h
    · rename_i c od its n sl e
      have h1 := and2 h
      have h2 := and2 h1.1
      obtain ⟨vs, r1, r2⟩ := ckWs_ok h1.2
      exact ⟨.ref a, rfl, fun H ι => .tup (.inr ⟨_, its, n, e, congrArg Value.type (of_decide_eq_true h2.1), rfl, of_decide_eq_true h2.2, r1⟩) (r2 H ι)⟩
    · cases h
  | .lsk ws, u, h => by
    cases u <;> try exact absurd h Bool.false_ne_true
    rename_i a
    have h : (match K.lookup a with
      | some ⟨.type c, none, .seq its _, _⟩ => decide (c = "list") && decide (its.size ≤ sizeLine) && ckWs K ws its.toList
      | _ => false) = true := h
    split at h
    · rename_i c its n sl e
      have h1 := and2 h
      have h2 := and2 h1.1
      obtain ⟨vs, r1, r2⟩ := ckWs_ok h1.2
      exact ⟨.ref a, rfl, fun H ι => .lsk (.inr ⟨_, its, n, e, congrArg Value.type (of_decide_eq_true h2.1), rfl, rfl, of_decide_eq_true h2.2, r1⟩) (r2 H ι)⟩
    · cases h
  | .rep _, u, h => by cases u <;> exact absurd h Bool.false_ne_true
  | .lst _, u, h => by cases u <;> exact absurd h Bool.false_ne_true
  | .dk _ _, u, h => by cases u <;> exact absurd h Bool.false_ne_true
  | .dkw _ _, u, h => by cases u <;> exact absurd h Bool.false_ne_true
  | .st _, u, h => by cases u <;> exact absurd h Bool.false_ne_true
  | .ref _, u, h => by cases u <;> exact absurd h Bool.false_ne_true
  | .fn _, u, h => by cases u <;> exact absurd h Bool.false_ne_true
  | .cl _, u, h => by cases u <;> exact absurd h Bool.false_ne_true
theorem ckWs_ok : ∀ {cs : List W} {us : List Value}, ckWs K cs us = true → ∃ vs, Vals vs us ∧ ∀ H ι, Rws ⟨K, w, P⟩ H ι cs vs
  | [], [], _ => ⟨[], .nil, fun _ _ => .nil⟩
  | c :: cs, u :: us, h => by
    have h1 := and2 (show (ckW K c u && ckWs K cs us) = true from h)
    obtain ⟨v, a1, a2⟩ := ckW_ok h1.1
    obtain ⟨vs, b1, b2⟩ := ckWs_ok h1.2
    exact ⟨v :: vs, .cons a1 b1, fun H ι => .cons (a2 H ι) (b2 H ι)⟩
  | [], _ :: _, h => absurd h Bool.false_ne_true
  | _ :: _, [], h => absurd h Bool.false_ne_true
end
theorem find_ds : ∀ {ks : List Key} {ws : List W} {es : List DictEntry}, ckDs K ks ws es = true → (es.any (·.refKey)) = false ∧ ks.length = ws.length ∧ (∀ k ∈ ks, kOk k) ∧ ∃ vs : List V, ks.length = vs.length ∧ (∀ H ι, Rws ⟨K, w, P⟩ H ι ws vs) ∧
    ∀ z : Str, (match valV (ks.zip vs) (.inr z) with
      | none => es.find? (·.key.isStr z) = none
      | some v => ∃ e, es.find? (·.key.isStr z) = some e ∧ RelV v e.val)
  | [], [], [], _ => ⟨rfl, rfl, (fun _ h => nomatch h), [], rfl, fun _ _ => .nil, fun _ => rfl⟩
  | .inr s :: ks, c :: ws, e :: es, h => by
    have h1 := and2 (show (((match e.key with
      | .str t _ => decide (s = t)
      | _ => false) && sOkB s && ckW K c e.val) && ckDs K ks ws es) = true from h)
    have h2 := and2 h1.1
    have h3 := and2 h2.1
    obtain ⟨a1, a2, a3, vs, a4, a5, a6⟩ := find_ds h1.2
    obtain ⟨v, b1, b2⟩ := ckW_ok (w := w) (P := P) h2.2
    have hk : ∃ t, e.key = .str s t := by
      have q := h3.1
      split at q
      · rename_i t tk ek
        have := of_decide_eq_true q
        subst this
        exact ⟨tk, ek⟩
      · cases q
    obtain ⟨tk, hk⟩ := hk
    refine ⟨?_, by simp [a2], fun k hk => ?_, v :: vs, by simp [a4], fun H ι => .cons (b2 H ι) (a5 H ι), fun z => ?_⟩
    · rw [List.any_cons, a1]
      have : e.refKey = false := by unfold DictEntry.refKey; rw [hk]
      rw [this]
      rfl
    · rcases List.mem_cons.mp hk with q | q
      · rw [q]
        exact sOkB_ok h3.2
      · exact a3 k q
    · have ez : ((.inr s : Key) :: ks).zip (v :: vs) = (.inr s, v) :: ks.zip vs := rfl
      rw [ez]
      have eq : e.key.isStr z = (s == z) := by rw [hk]; rfl
      by_cases q : s = z
      · subst q
        rw [valV_pos rfl]
        refine ⟨e, ?_, b1⟩
        rw [List.find?_cons_of_pos (by rw [eq]; simp)]
      · rw [valV_neg (fun h => q (by cases h; rfl)), List.find?_cons_of_neg (by rw [eq]; simpa using q)]
        exact a6 z
  | [], [], _ :: _, h => absurd h Bool.false_ne_true
  | [], _ :: _, _, h => absurd h Bool.false_ne_true
  | .inl _ :: _, _, _, h => absurd h Bool.false_ne_true
  | .inr _ :: _, [], _, h => absurd h Bool.false_ne_true
  | .inr _ :: _, _ :: _, [], h => absurd h Bool.false_ne_true
theorem ckK_ok {h : Heap} {mg : Str → Option Value} (X : K.In h) (G : h.Ns mainGlobals mg) {x : Str} {c : W} (e : ckK K (x, c) = true) (hd : (∃ ks ws, c = .dkw ks ws) → ∃ es n, KDict K w (He.ga K x) es n) :
    ∃ u v, mg x = some u ∧ RelV v u ∧ ∀ H ι, Rw ⟨K, w, P⟩ H ι c v := by
  unfold ckK at e
  dsimp only at e
  split at e
  · rename_i u hu
    have hm := PySem.W.mg_of X G hu
    split at e
    · rename_i ks ws a
      obtain ⟨es, n, D⟩ := hd ⟨_, _, rfl⟩
      split at e
      · rename_i oc od es' n' sl he
        have h1 := and2 e
        have ha := of_decide_eq_true h1.1
        subst ha
        have da := D.at_
        rw [he] at da
        cases da
        obtain ⟨a1, a2, a3, vs, a4, a5, a6⟩ := find_ds (w := w) (P := P) h1.2
        refine ⟨_, .ref (He.ga K x), hm, rfl, fun H ι => .dkw ⟨_, _, D, fun z => ?_⟩ a4 a3 (a5 H ι)⟩
        have z6 := a6 z
        unfold PySem.W.nsIn
        rw [he]
        dsimp only
        cases hv : valV (ks.zip vs) (.inr z) with
        | none =>
          rw [hv] at z6
          exact ⟨none, by rw [show List.find? (fun x => x.key.isStr z) es.toList = none from z6]; dsimp only; rw [a1]; rfl, rfl⟩
        | some v =>
          rw [hv] at z6
          obtain ⟨e', q1, q2⟩ := z6
          exact ⟨some e'.val, by rw [q1], _, rfl, q2⟩
      · cases e
    · obtain ⟨v, r1, r2⟩ := ckW_ok (w := w) (P := P) e
      exact ⟨_, v, hm, r1, r2⟩
  · cases e
end
/-! ### the Hook -/
abbrev AlM : Type := He.AlT × Bool
def obsM (fa : List He.Fa) (fn : List He.DefD) (ts : List He.Tab) (cs : List (Str × W)) (K : PySem.W.Frag) : AlM := (He.obsT fa fn ts K, cs.all fun p => ckK K p)
def valM (fn : List He.DefD) (ts : List He.Tab) (w : World) : AlM := (He.valT fn ts w, true)
def obsMG (n : Nat) (fa : List He.Fa) (fn : List He.DefD) (ts : List He.Tab) (cs : List (Str × W)) (g : Addr → Option Obj) : AlM := obsM fa fn ts cs (He.frG g (He.asD g n))
def SaysM (fa : List He.Fa) (fn : List He.DefD) (ts : List He.Tab) (cs : List (Str × W)) (w : World) (K : PySem.W.Frag) : Prop := obsM fa fn ts cs K = valM fn ts w
def hookM (n : Nat) (fa : List He.Fa) (fn : List He.DefD) (ts : List He.Tab) (cs : List (Str × W)) : PySem.W.Hook where
  α := AlM
  obs := fun s => obsMG n fa fn ts cs s.heap.get?
  val := fun w => valM fn ts w
  says := fun w h => ∃ K : PySem.W.Frag, K.In h ∧ SaysM fa fn ts cs w K
  of := fun _ _ e => ⟨_, He.frG_in, e⟩
  keeps := fun _ _ _ ⟨K, hK, c⟩ k => ⟨K, PySem.W.Frag.In.keeps hK k, c⟩
theorem obsMG_eq {n : Nat} {fa : List He.Fa} {fn : List He.DefD} {ts : List He.Tab} {cs : List (Str × W)} {g : Addr → Option Obj} {s : Shared} (h : ∀ a, g a = s.heap.get? a) : obsMG n fa fn ts cs g = (hookM n fa fn ts cs).obs s := by
  have e : g = s.heap.get? := funext h
  rw [e] <;> rfl
section
variable {fa : List He.Fa} {fn : List He.DefD} {ts : List He.Tab} {cs : List (Str × W)} {w : World} {K : PySem.W.Frag} {P : Program} {h : Heap} {mg : Str → Option Value} {G : Gm} {Pr : Pg}
theorem SaysM.t (c : SaysM fa fn ts cs w K) : He.SaysT fa fn ts w K := congrArg (fun z : AlM => z.1) c
theorem SaysM.ck (c : SaysM fa fn ts cs w K) {p : Str × W} (hp : p ∈ cs) : ckK K p = true := List.all_eq_true.mp (congrArg (fun z : AlM => z.2) c) p hp
/-- a def of the top -/
def dOf (x : Str) (st : Stmt) : He.DefD := ⟨(x, none), x, x, defArgs st, defBody st, defScope st, [], []⟩
theorem def_is (X : K.In h) (Gn : h.Ns mainGlobals mg) (c : SaysM fa fn ts cs w K) {i j k : Nat} {x : Str} {st : Stmt} {N ps : List Str} {d : Fd} (hf : fa[k]? = some (.glo x)) (hd : fn[j]? = some (dOf x st)) (S : FnScope N ps (defScope st))
    (b : ∀ (kV doc pm : Value) (an : Option Addr) (cdv ct : Value) (us : List Value), us.length = ps.length → bindArgs (PySem.W.fnOf x x (defArgs st) (defBody st) (defScope st) .none kV doc pm an cdv ct) ⟨us, []⟩ = pure (ps.zip us))
    (hm : Pr.fd i = some d) (hnp : d.np = ps.length) (hns : d.ns = N.length) (ck : ckSs G N (defScope st) d.body (defBody st) = true) : ∃ f, mg x = some (.ref f) ∧ PySem.W.keepIn K (.ref f) = true ∧ DefIs K G Pr i f := by
  have t := c.t.d
  have e := He.glo_ok X Gn (t.fact k hf)
  obtain ⟨fd, F⟩ := t.def_ j hd
  exact ⟨He.ga K x, e, F.kp, ⟨fd, x, x, _, _, _, N, ps, d, F, F.bindsN b, S, hm, hnp, hns, ck⟩⟩
/-- all of a list -/
def AllP {α : Type} (Q : α → Prop) : List α → Prop
  | [] => True
  | x :: xs => Q x ∧ AllP Q xs
theorem AllP.get {α : Type} {Q : α → Prop} : ∀ {xs : List α}, AllP Q xs → ∀ x ∈ xs, Q x
  | x :: xs, ⟨a, b⟩, y, h => by
    rcases List.mem_cons.mp h with e | e
    · rw [e]
      exact a
    · exact AllP.get b y e
theorem lookup_mem {α : Type} {i : Nat} {x : α} : ∀ {l : List (Nat × α)}, l.lookup i = some x → (i, x) ∈ l
  | (j, y) :: l, h => by
    rw [List.lookup_cons] at h
    split at h
    · rename_i e
      cases h
      have : i = j := by simpa using e
      rw [this]
      exact List.mem_cons_self
    · exact List.mem_cons_of_mem _ (lookup_mem h)
theorem lookup_map {α β : Type} {f : α → β} {k : Nat} : ∀ {l : List (Nat × α)}, (l.map fun p => (p.1, f p.2)).lookup k = (l.lookup k).map f
  | [] => rfl
  | (j, y) :: l => by
    rw [List.map_cons, List.lookup_cons, List.lookup_cons]
    by_cases e : (k == j) = true
    · rw [e]
      rfl
    · have e : (k == j) = false := by simpa using e
      rw [e]
      exact lookup_map
theorem cst_in {CS : List (Nat × Str × W)} {k : Nat} {x : Str} {v : W} (h : G.cs = CS.map fun p => (p.1, p.2.1)) (hx : G.cs.lookup k = some x) (hv : (CS.lookup k).map (·.2) = some v) : (x, v) ∈ CS.map (·.2) := by
  rw [h, lookup_map (f := fun p : Str × W => p.1)] at hx
  cases e : CS.lookup k with
  | none => rw [e] at hx; cases hx
  | some p =>
    rw [e] at hx hv
    cases hx
    cases hv
    exact List.mem_map_of_mem (f := fun p : Nat × Str × W => p.2) (lookup_mem e)
theorem prog_of (X : K.In h) (Gn : h.Ns mainGlobals mg) (c : SaysM fa fn ts cs w K) (fns : AllP (fun (p : Nat × Str) => ∃ f, mg p.2 = some (.ref f) ∧ PySem.W.keepIn K (.ref f) = true ∧ DefIs K G Pr p.1 f) G.fn)
    (hcs : ∀ k x v, G.cs.lookup k = some x → Pr.cst k = some v → (x, v) ∈ cs) (hts : ∀ x ks ws, (x, W.dkw ks ws) ∈ cs → ∃ (i : Nat) (ns : List Str), ts[i]? = some ((fun K => He.ga K x), ns)) (hbl : ∀ x ∈ bNames, He.Fa.free x ∈ fa) : Prog P w K mg G Pr := by
  refine ⟨fun i x hx => ?_, fun k x v hx hv => ?_, fun x hx => ?_⟩
  · exact fns.get (i, x) (lookup_mem hx)
  · have hm := hcs k x v hx hv
    refine ckK_ok X Gn (c.ck hm) fun ⟨ks, ws, e⟩ => ?_
    subst e
    obtain ⟨i, ns, e⟩ := hts x ks ws hm
    exact c.t.tab i e
  · obtain ⟨i, e⟩ := List.mem_iff_getElem?.mp (hbl x hx)
    exact He.free_ok X Gn (c.t.d.fact i e)
end
/-! ### the law's end -/
theorem walkM {l : PySem.W.OpenLaw} {n k : Nat} {q : Program} {loose : List Str} {XP : (Str → Option Value) → Heap → Prop} {YP : World → Heap → Prop} {d : DefRec} (hn : l.most = some n) (hn2 : n ≤ sizeLine) (hdf : d.params.defaults = []) (hr : Room k callerA)
    (F : ∀ (w : World) (mg : Str → Option Value) (fa : Addr) (h : Heap), YP w h → h.Ns mainGlobals mg → mg d.name = some (.ref fa) →
      ∃ (K : PySem.W.Frag) (sp : Sp), K.In h ∧ (∀ (H : Hp) (a : Addr) (ns : List Int), ns.length ≤ n → AtStart K H a ns → sp [.ref a] H (fun v _ => v = .bl true) fun _ _ _ => False) ∧
        ∀ base : Heap, K.In base → base.Ns mainGlobals mg → FnG l.prog w K mg base k fa 1 sp) :
    PySem.W.WalkO q loose XP YP l.row.toRowW d [] (fun f vs => PySem.call f vs) := by
  refine Att.attach_call hn hdf fun w s₀ s₁ mg mb fa o pm cd doc a vs ns G Y ho hd hcd hmg hobj hints hlen hg => ?_
  obtain ⟨K, sp, KX, hsp, hF⟩ := F w mg fa _ Y G.T.g hmg
  exact law_run KX G.T.g G.T.b G.T.builtins G.T.nolimit hg hobj hints (Nat.le_trans hlen hn2) hr hF fun H hS => hsp H a ns hlen hS
/-- the law's promise from the program's -/
theorem law_of {xr : Exn → Hp → Value → Option Addr → Prop} {P : Program} {w : World} {K : PySem.W.Frag} {mg : Str → Option Value} {G : Gm} {Pr : Pg} {k m i : Nat} {x : Str} {fa : Addr} {h : Heap} (X : K.In h) (pr : Prog P w K mg G Pr) (hi : G.fn.lookup i = some x) (hf : mg x = some (.ref fa))
    (law : ∀ ns : List Int, ns.length ≤ m → ∃ h', callF Pr k 0 i [.lsk (ns.map .int)] [] = .ok (.bl true) h') (h1 : ∀ d, Pr.fd i = some d → d.np = 1) :
    ∃ (K : PySem.W.Frag) (sp : Sp), K.In h ∧ (∀ (H : Hp) (a : Addr) (ns : List Int), ns.length ≤ m → AtStart K H a ns → sp [.ref a] H (fun v _ => v = .bl true) fun _ _ _ => False) ∧
      ∀ base : Heap, K.In base → base.Ns mainGlobals mg → FnG P w K mg base k fa 1 sp := by
  refine ⟨K, spM xr ⟨K, w, P⟩ Pr k i, X, fun H a ns hl st => ?_, fun base _ _ => ?_⟩
  · obtain ⟨h', e⟩ := law ns hl
    exact law_ask e H st
  · obtain ⟨f, e1, _, D⟩ := pr.fns i x hi
    rw [hf] at e1
    cases e1
    obtain ⟨np, F⟩ := prog_all (xr := xr) (base := base) pr k i fa D
    refine ⟨fun vs H Q E q => ?_, F.run⟩
    have hl := F.len vs H Q E q
    obtain ⟨ι, h, ws, lo, hr, l, rs, p⟩ := q
    cases k with
    | zero => exact p.elim
    | succ k =>
      obtain ⟨fd, x', qual, params, body, scope, N, ps, d, FD, bd, S, hd, hnp, hns, ck⟩ := D.ex
      by_cases e : ws.length = d.np
      · rw [← rs.length, e, h1 d hd]
      · rw [callF_len hd e] at p
        exact p.elim
end Mi

/-! Lg: what draws numbers: mixed, folded, draw, begun, over any program that has them. -/
namespace Lw
open PySem PySem.Spec PyProof.Rows L2 Mi
def fd__law_mixed : Fd := ⟨2, 3, false, (.cons (.asg (.nm 2) (.op .add (.op .add (.op .mod (.op .mul (.op .mul (.var 0) (.op .add (.int 1) (.op .mul (.int 2) (.var 1)))) (.int 48271)) (.int 2147483647)) (.op .mul (.op .mul (.int 7919) (.var 1)) (.var 1))) (.op .mul (.int 104729) (.var 1))))
(.cons (.ret (.op .fdiv (.op .mod (.op .mul (.var 2) (.int 69621)) (.int 2147483629)) (.int 7)))
.nil))⟩
def bd__law_folded_1 : Ss := (.cons (.asgSub (.var 1) (.var 2) (.op .mod (.op .add (.idx (.var 1) (.var 2)) (.op .mul (.idx (.var 1) (.op .sub (.var 2) (.int 1))) (.int 16807))) (.int 2147483647)))
.nil)
def st__law_folded_1 : S := .loop (.nm 2) (.rng2 (.int 1) (.int 64)) bd__law_folded_1
def bd__law_folded_2 : Ss := (.cons (.asgSub (.var 1) (.op .mod (.var 2) (.int 64)) (.op .mod (.op .add (.op .mul (.idx (.var 1) (.op .mod (.var 2) (.int 64))) (.int 48271)) (.var 3)) (.int 2147483647)))
.nil)
def st__law_folded_2 : S := .loop (.tp [2, 3]) (.enm (.var 0)) bd__law_folded_2
def fd__law_folded : Fd := ⟨1, 4, false, (.cons (.asg (.nm 1) (.comp true (.op .add (.int 17) (.var 2)) (.nm 2) (.rng1 (.int 64)) (.bl true)))
(.cons st__law_folded_2
(.cons st__law_folded_1
(.cons (.ret (.var 1))
.nil))))⟩
def fd__law_draw : Fd := ⟨2, 5, false, (.cons (.asg (.nm 2) (.idx (.var 0) (.str "at")))
(.cons (.asgSub (.var 0) (.str "at") (.op .add (.var 2) (.int 1)))
(.cons (.ite (.cmp .ne (.idx (.var 0) (.str "left")) (.lst false .nil))
(.cons (.asg (.nm 3) (.op .mod (.var 2) (.blt .len (.cons (.idx (.var 0) (.str "left")) .nil))))
(.cons (.asg (.nm 4) (.idx (.idx (.var 0) (.str "left")) (.var 3)))
(.cons (.ite (.cmp .gt (.var 4) (.int 0))
(.cons (.asgSub (.idx (.var 0) (.str "left")) (.var 3) (.op .fdiv (.var 4) (.var 1)))
(.cons (.ret (.op .mod (.var 4) (.var 1)))
.nil))
.nil)
.nil)))
.nil)
(.cons (.ret (.op .mod (.call 10 (.cons (.call 10 (.cons (.op .add (.idx (.idx (.var 0) (.str "cells")) (.op .mod (.var 2) (.int 64))) (.op .mul (.int 31) (.op .fdiv (.var 2) (.int 64)))) (.cons (.var 2) .nil))) (.cons (.op .add (.var 2) (.int 7)) .nil))) (.var 1)))
.nil))))⟩
def fd__law_begun : Fd := ⟨1, 3, true, (.cons (.asg (.nm 1) (.dsp true [.inr "cells", .inr "left", .inr "at"] (.cons (.call 11 (.cons (.var 0) .nil)) (.cons (.lst false .nil) (.cons (.int 0) .nil)))))
(.cons (.asgSub (.var 1) (.str "left") (.comp true (.ite (.cmp .ge (.var 2) (.op .pow (.int 10) (.int 18))) (.var 2) (.int 0)) (.nm 2) (.of (.var 0)) (.bl true)))
(.cons (.ret (.var 1))
.nil)))⟩
structure Has (P : Pg) : Prop where
  h__law_mixed : P.fd 10 = some fd__law_mixed
  h__law_folded : P.fd 11 = some fd__law_folded
  h__law_draw : P.fd 12 = some fd__law_draw
  h__law_begun : P.fd 13 = some fd__law_begun
variable {P : Pg}
theorem small64_of {i : Int} (h0 : -(2 ^ 60) ≤ i) (h1 : i < 2 ^ 60) : Mi.small64 i = true := by
  unfold Mi.small64
  rw [Bool.and_eq_true]
  exact ⟨decide_eq_true (by omega), decide_eq_true (by omega)⟩
theorem sl1 : Mi.small64 48271 = true := by decide
theorem sl2 : Mi.small64 69621 = true := by decide
theorem sl3 : Mi.small64 7919 = true := by decide
theorem sl4 : Mi.small64 104729 = true := by decide
theorem sl5 : Mi.small64 16807 = true := by decide
theorem sl6 : Mi.small64 31 = true := by decide
theorem sl7 : Mi.small64 5 = true := by decide
theorem sl8 : Mi.small64 2 = true := by decide
theorem op_add_i {h : Hpa} {i j : Int} : opW h .add (.int i) (.int j) = .ok (.int (i + j)) h := rfl
theorem op_sub_i {h : Hpa} {i j : Int} : opW h .sub (.int i) (.int j) = .ok (.int (i - j)) h := rfl
theorem op_mul_i {h : Hpa} {i j : Int} (e : (Mi.small64 i || Mi.small64 j) = true) : opW h .mul (.int i) (.int j) = .ok (.int (i * j)) h := if_pos e
theorem op_mod_i {h : Hpa} {i j : Int} (e : j ≠ 0) : opW h .mod (.int i) (.int j) = .ok (.int (i.fmod j)) h := if_pos e
theorem op_fdiv_i {h : Hpa} {i j : Int} (e : j ≠ 0 ∧ j.natAbs < 1073741824) : opW h .fdiv (.int i) (.int j) = .ok (.int (i.fdiv j)) h := if_pos e
theorem mkL_f {h : Hpa} {xs : List Mi.W} (e : xs.length ≤ LIM) : mkL false xs h = .ok (.lst xs) h := if_pos e
theorem mkT_f {h : Hpa} {xs : List Mi.W} (e : xs.length ≤ LIM) : mkT xs h = .ok (.tup xs) h := if_pos e
theorem mkL_nil {h : Hpa} : mkL false [] h = .ok (.lst []) h := rfl
theorem fin_pure {w : Mi.W} {h : Hpa} (hp : w.pure = true) : fin false h.length w h = .ok w h := by
  unfold fin
  simp only [Bool.false_eq_true, if_false]
  have : frz h.length h DEP w = some w := by
    show frz h.length h (19 + 1) w = some w
    unfold frz
    rw [if_pos hp]
  rw [this]
  simp
def mixA (c k : Int) : Int := (c * (1 + 2 * k) * 48271).fmod 2147483647 + 7919 * k * k + 104729 * k
def mixV (c k : Int) : Int := ((mixA c k * 69621).fmod 2147483629).fdiv 7
theorem mixV_in (c k : Int) : 0 ≤ mixV c k ∧ mixV c k < 2 ^ 31 := by
  unfold mixV
  rw [Int.fmod_eq_emod_of_nonneg _ (by decide), Int.fdiv_eq_ediv_of_nonneg _ (by decide)]
  omega
theorem mixed_ok (hP : Has P) (n lo : Nat) (c k : Int) (h : Hpa) (hc : 0 ≤ c ∧ c < 2 ^ 50) (hk : 0 ≤ k ∧ k < 2 ^ 40) : callF P (n + 1) lo 10 [.int c, .int k] h = .ok (.int (mixV c k)) h := by
  have s1 : Mi.small64 c = true := small64_of (by omega) (by omega)
  have s2 : Mi.small64 k = true := small64_of (by omega) (by omega)
  rw [callF_eq (d := fd__law_mixed) hP.h__law_mixed rfl]
  simp (config := { decide := true }) only [fd__law_mixed, s1, s2, exSs, exS, evE, evEs, wipeE, tgs, List.map_cons, List.map_nil, List.cons_append, List.nil_append, List.replicate, Nat.sub_self, List.getElem?_cons_zero, List.getElem?_cons_succ, R.bind_ok, R.bind_bad, R.sv_ok, setTg, List.set_cons_zero, List.set_cons_succ, SR.seq_nx, SR.seq_rt, Bool.false_eq_true, if_false, op_add_i, op_sub_i, op_mul_i, op_mod_i, op_fdiv_i, sl1, sl2, sl3, sl4, sl5, sl6, sl7, sl8, Bool.true_or, Bool.or_true, if_true, ne_eq, not_false_eq_true, and_self, ofO_some, Option.map_some, Nat.reduceAdd, Nat.reduceSub, mkL_nil, mkL_f, mkT_f, List.length_cons, List.length_nil, List.zip_cons_cons, List.zip_nil_left, List.foldl_cons, List.foldl_nil]
  exact fin_pure (w := .int (mixV c k)) rfl
def KS : List Key := [.inr "cells", .inr "left", .inr "at"]
def Mem (cells left : List Int) (a : Int) : Hpa := [.dk KS [.lst (cells.map .int), .ref 1, .int a], .lst (left.map .int)]
structure MemOk (cells : List Int) (a : Int) : Prop where
  len : cells.length = 64
  rng : ∀ c ∈ cells, 0 ≤ c ∧ c < 2147483647
  at0 : 0 ≤ a
section
variable (cells left : List Int) (a : Int) (ext : Hpa)
theorem m_at : idxW (Mem cells left a ++ ext) (.ref 0) (.str "at") = some (.int a) := by rfl
theorem m_left : idxW (Mem cells left a ++ ext) (.ref 0) (.str "left") = some (.ref 1) := by rfl
theorem m_cells : idxW (Mem cells left a ++ ext) (.ref 0) (.str "cells") = some (.lst (cells.map .int)) := by rfl
theorem m_setat (lo : Nat) (b : Int) : setW lo (Mem cells left a ++ ext) (.ref 0) (.str "at") (.int b) = some (Mem cells left b ++ ext) := by
  have ok : okSt lo 0 (.int b) = true := by unfold okSt; simp [Mi.W.pure]
  have e : (Mem cells left a ++ ext)[0]? = some (.dk KS [.lst (cells.map .int), .ref 1, .int a]) := rfl
  have nd : KS.length < LIM ∧ KS.Nodup := by decide +kernel
  unfold setW
  dsimp only
  rw [e]
  show (match keyOf (.str "at") with
    | some q => if KS.length < LIM ∧ KS.Nodup ∧ okSt lo 0 (.int b) = true then some ((Mem cells left a ++ ext).set 0 (.dk (putKs KS q) (putVs KS _ q (.int b)))) else none
    | none => none) = _
  show (if KS.length < LIM ∧ KS.Nodup ∧ okSt lo 0 (.int b) = true then some ((Mem cells left a ++ ext).set 0 (.dk (putKs KS (.inr "at")) (putVs KS _ (.inr "at") (.int b)))) else none) = _
  rw [if_pos ⟨nd.1, nd.2, ok⟩]
  rfl
theorem m_len : bltW (Mem cells left a ++ ext) .len [.ref 1] = .ok (.int left.length) (Mem cells left a ++ ext) := by
  show (match asQ (Mem cells left a ++ ext) (.ref 1) with
    | some xs => R.ok (Mi.W.int xs.length) (Mem cells left a ++ ext)
    | none => .bad) = _
  show R.ok (Mi.W.int (left.map Mi.W.int).length) _ = _
  rw [List.length_map]
theorem ixN_at {n : Nat} {k : Int} (h0 : 0 ≤ k) (h1 : k < n) : ixN n k = some k.toNat := by
  unfold ixN
  rw [if_pos h0, if_pos h1]
theorem atI_int {xs : List Int} {k : Int} (h0 : 0 ≤ k) (h1 : k < xs.length) : atI (xs.map Mi.W.int) k = some (.int (xs.getD k.toNat 0)) := by
  unfold atI
  rw [List.length_map, ixN_at h0 h1]
  have hl : k.toNat < xs.length := by omega
  show (xs.map Mi.W.int)[k.toNat]? = _
  rw [List.getElem?_map, List.getD_eq_getElem?_getD, List.getElem?_eq_getElem hl]
  rfl
theorem m_idx {k : Int} (h0 : 0 ≤ k) (h1 : k < left.length) : idxW (Mem cells left a ++ ext) (.ref 1) (.int k) = some (.int (left.getD k.toNat 0)) := atI_int h0 h1
theorem m_setl (lo : Nat) (b : Int) {k : Int} (h0 : 0 ≤ k) (h1 : k < left.length) : setW lo (Mem cells left a ++ ext) (.ref 1) (.int k) (.int b) = some (Mem cells (left.set k.toNat b) a ++ ext) := by
  have ok : okSt lo 1 (.int b) = true := by unfold okSt; simp [Mi.W.pure]
  show (match ixN (left.map Mi.W.int).length k with
    | some j => if okSt lo 1 (.int b) = true then some ((Mem cells left a ++ ext).set 1 (.lst ((left.map Mi.W.int).set j (.int b)))) else none
    | none => none) = _
  have e : ixN (left.map Mi.W.int).length k = some k.toNat := ixN_at h0 (by rw [List.length_map]; exact h1)
  rw [e]
  dsimp only
  rw [if_pos ok]
  have e2 : (left.map Mi.W.int).set k.toNat (.int b) = (left.set k.toNat b).map Mi.W.int := by rw [List.map_set]
  rw [e2]
  rfl
theorem mapM_int {h : Hpa} {n : Nat} : ∀ xs : List Int, (xs.map Mi.W.int).mapM (toD h (n + 1)) = some (xs.map PyData.int)
  | [] => rfl
  | x :: xs => by
    rw [List.map_cons, List.mapM_cons, mapM_int xs]
    rfl
theorem ne_nil : cmpW (Mem cells left a ++ ext) .ne (.ref 1) (.lst []) = some (!left.isEmpty) := by
  have e : toD (Mem cells left a ++ ext) DEP (.ref 1) = some (.list (left.map PyData.int)) := by
    show ((left.map Mi.W.int).mapM (toD (Mem cells left a ++ ext) (18 + 1))).map PyData.list = _
    rw [mapM_int]
    rfl
  have e2 : toD (Mem cells left a ++ ext) DEP (.lst []) = some (.list []) := rfl
  show (eqD _ (.ref 1) (.lst [])).map (!·) = _
  unfold eqD
  rw [e, e2]
  cases left <;> rfl
end
theorem take_mem (cells left : List Int) (a b : Int) (l2 : List Int) (ext : Hpa) : (Mem cells left a ++ ext).take (Mem cells l2 b ++ ext).length = Mem cells left a ++ ext := by
  have : (Mem cells l2 b ++ ext).length = (Mem cells left a ++ ext).length := by simp [Mem]
  rw [this, List.take_length]
theorem fin_mem {w : Mi.W} {cells left l2 : List Int} {a b : Int} {ext : Hpa} (hp : w.pure = true) : fin false (Mem cells l2 b ++ ext).length w (Mem cells left a ++ ext) = .ok w (Mem cells left a ++ ext) := by
  unfold fin
  simp only [Bool.false_eq_true, if_false]
  have : frz (Mem cells l2 b ++ ext).length (Mem cells left a ++ ext) DEP w = some w := by
    show frz _ _ (19 + 1) w = some w
    unfold frz
    rw [if_pos hp]
  rw [this, take_mem]
theorem draw_ok (hP : Has P) (n lo : Nat) {cells left : List Int} {a many : Int} (ext : Hpa) (ok : MemOk cells a) (ha : a < 2 ^ 38) (h1 : 1 ≤ many) (h2 : many < 2 ^ 20) :
    ∃ v left', callF P (n + 3) lo 12 [.ref 0, .int many] (Mem cells left a ++ ext) = .ok (.int v) (Mem cells left' (a + 1) ++ ext) ∧ 0 ≤ v ∧ v < many := by
  have s1 : Mi.small64 a = true := small64_of (by have := ok.at0; omega) (by omega)
  rw [callF_eq (d := fd__law_draw) hP.h__law_draw rfl]
  have m0 : many ≠ 0 := by omega
  have m1 : many.natAbs < 1073741824 := by omega
  have a0 := ok.at0
  have q1 : 0 ≤ a.fmod 64 ∧ a.fmod 64 < 64 := by
    rw [Int.fmod_eq_emod_of_nonneg _ (by decide)]
    omega
  have q2 : 0 ≤ a.fdiv 64 ∧ a.fdiv 64 < 2 ^ 38 := by
    rw [Int.fdiv_eq_ediv_of_nonneg _ (by decide)]
    omega
  have C0 : ∀ h : Hpa, idxW h (.lst (cells.map .int)) (.int (a.fmod 64)) = some (.int (cells.getD (a.fmod 64).toNat 0)) := fun h => atI_int q1.1 (by rw [ok.len]; exact q1.2)
  have c0 : 0 ≤ cells.getD (a.fmod 64).toNat 0 ∧ cells.getD (a.fmod 64).toNat 0 < 2147483647 := by
    refine ok.rng _ ?_
    have hl : (a.fmod 64).toNat < cells.length := by rw [ok.len]; omega
    rw [List.getD_eq_getElem?_getD, List.getElem?_eq_getElem hl]
    exact List.getElem_mem hl
  generalize cells.getD (a.fmod 64).toNat 0 = cc at C0 c0
  have M1 : ∀ lo h, callF P (n + 2) lo 10 [.int (cc + 31 * a.fdiv 64), .int a] h = .ok (.int (mixV (cc + 31 * a.fdiv 64) a)) h := fun lo h => mixed_ok hP _ _ _ _ _ (by omega) (by omega)
  have r1 := mixV_in (cc + 31 * a.fdiv 64) a
  have M2 : ∀ lo h, callF P (n + 2) lo 10 [.int (mixV (cc + 31 * a.fdiv 64) a), .int (a + 7)] h = .ok (.int (mixV (mixV (cc + 31 * a.fdiv 64) a) (a + 7))) h := fun lo h => mixed_ok hP _ _ _ _ _ (by omega) (by omega)
  have fm : ∀ x : Int, 0 ≤ x.fmod many ∧ x.fmod many < many := fun x => ⟨Int.fmod_nonneg_of_pos _ (by omega), Int.fmod_lt_of_pos _ (by omega)⟩
  cases left with
  | nil =>
    refine ⟨_, [], ?_, (fm (mixV (mixV (cc + 31 * a.fdiv 64) a) (a + 7)))⟩
    simp (config := { decide := true }) only [fd__law_draw, s1, m0, m1, m_at, m_left, m_cells, m_setat, m_len, ne_nil, List.isEmpty_nil, Bool.not_true, C0, M1, M2, exSs, exS, evE, evEs, wipeE, tgs, List.map_cons, List.map_nil, List.cons_append, List.nil_append, List.replicate, Nat.sub_self, List.getElem?_cons_zero, List.getElem?_cons_succ, R.bind_ok, R.bind_bad, R.sv_ok, setTg, List.set_cons_zero, List.set_cons_succ, SR.seq_nx, SR.seq_rt, Bool.false_eq_true, if_false, op_add_i, op_sub_i, op_mul_i, op_mod_i, op_fdiv_i, sl1, sl2, sl3, sl4, sl5, sl6, sl7, sl8, Bool.true_or, Bool.or_true, if_true, ne_eq, not_false_eq_true, and_self, ofO_some, Option.map_some, Nat.reduceAdd, Nat.reduceSub, mkL_nil, mkL_f, mkT_f, List.length_cons, List.length_nil, List.zip_cons_cons, List.zip_nil_left, List.foldl_cons, List.foldl_nil]
    exact fin_mem (by rfl)
  | cons l ls =>
    have l0 : ((l :: ls).length : Int) ≠ 0 := by simp; omega
    have li : 0 ≤ a.fmod ((l :: ls).length : Int) ∧ a.fmod ((l :: ls).length : Int) < ((l :: ls).length : Int) := ⟨Int.fmod_nonneg_of_pos _ (by simp), Int.fmod_lt_of_pos _ (by simp)⟩
    generalize hL : l :: ls = L at l0 li
    have ne : L.isEmpty = false := by rw [← hL]; rfl
    have L1 : ∀ a', idxW (Mem cells L a' ++ ext) (.ref 1) (.int (a.fmod (L.length : Int))) = some (.int (L.getD (a.fmod (L.length : Int)).toNat 0)) := fun a' => m_idx _ _ _ _ li.1 li.2
    have L2 : ∀ lo b a', setW lo (Mem cells L a' ++ ext) (.ref 1) (.int (a.fmod (L.length : Int))) (.int b) = some (Mem cells (L.set (a.fmod (L.length : Int)).toNat b) a' ++ ext) := fun lo b a' => m_setl _ _ _ _ _ _ li.1 li.2
    generalize L.getD (a.fmod (L.length : Int)).toNat 0 = x at L1
    have cg : ∀ h, cmpW h .gt (.int x) (.int 0) = some (decide (0 < x)) := fun _ => rfl
    by_cases hx : 0 < x
    · have dx : decide (0 < x) = true := decide_eq_true hx
      refine ⟨_, L.set (a.fmod (L.length : Int)).toNat (x.fdiv many), ?_, fm x⟩
      simp (config := { decide := true }) only [fd__law_draw, s1, m0, m1, m_at, m_left, m_cells, m_setat, m_len, ne_nil, ne, Bool.not_false, C0, M1, M2, l0, L1, L2, cg, dx, exSs, exS, evE, evEs, wipeE, tgs, List.map_cons, List.map_nil, List.cons_append, List.nil_append, List.replicate, Nat.sub_self, List.getElem?_cons_zero, List.getElem?_cons_succ, R.bind_ok, R.bind_bad, R.sv_ok, setTg, List.set_cons_zero, List.set_cons_succ, SR.seq_nx, SR.seq_rt, Bool.false_eq_true, if_false, op_add_i, op_sub_i, op_mul_i, op_mod_i, op_fdiv_i, sl1, sl2, sl3, sl4, sl5, sl6, sl7, sl8, Bool.true_or, Bool.or_true, if_true, ne_eq, not_false_eq_true, and_self, ofO_some, Option.map_some, Nat.reduceAdd, Nat.reduceSub, mkL_nil, mkL_f, mkT_f, List.length_cons, List.length_nil, List.zip_cons_cons, List.zip_nil_left, List.foldl_cons, List.foldl_nil]
      exact fin_mem (by rfl)
    · have dx : decide (0 < x) = false := decide_eq_false hx
      refine ⟨_, L, ?_, fm (mixV (mixV (cc + 31 * a.fdiv 64) a) (a + 7))⟩
      simp (config := { decide := true }) only [fd__law_draw, s1, m0, m1, m_at, m_left, m_cells, m_setat, m_len, ne_nil, ne, Bool.not_false, C0, M1, M2, l0, L1, L2, cg, dx, exSs, exS, evE, evEs, wipeE, tgs, List.map_cons, List.map_nil, List.cons_append, List.nil_append, List.replicate, Nat.sub_self, List.getElem?_cons_zero, List.getElem?_cons_succ, R.bind_ok, R.bind_bad, R.sv_ok, setTg, List.set_cons_zero, List.set_cons_succ, SR.seq_nx, SR.seq_rt, Bool.false_eq_true, if_false, op_add_i, op_sub_i, op_mul_i, op_mod_i, op_fdiv_i, sl1, sl2, sl3, sl4, sl5, sl6, sl7, sl8, Bool.true_or, Bool.or_true, if_true, ne_eq, not_false_eq_true, and_self, ofO_some, Option.map_some, Nat.reduceAdd, Nat.reduceSub, mkL_nil, mkL_f, mkT_f, List.length_cons, List.length_nil, List.zip_cons_cons, List.zip_nil_left, List.foldl_cons, List.foldl_nil]
      exact fin_mem (by rfl)
structure FOk (F : List Int) : Prop where
  len : F.length = 64
  rng : ∀ c ∈ F, 0 ≤ c ∧ c < 2147483647
theorem FOk.set {F : List Int} (o : FOk F) (i : Nat) {c : Int} (h : 0 ≤ c ∧ c < 2147483647) : FOk (F.set i c) :=
  ⟨by rw [List.length_set]; exact o.len, fun x hx => (List.mem_or_eq_of_mem_set hx).elim (o.rng x) fun e => e ▸ h⟩
theorem li_idx {h : Hpa} {n : Nat} {F : List Int} (e : h[n]? = some (.lst (F.map .int))) {k : Int} (h0 : 0 ≤ k) (h1 : k < F.length) : idxW h (.ref n) (.int k) = some (.int (F.getD k.toNat 0)) := by
  have a : asDk h (.ref n) = none := by simp [asDk, e]
  have b : asQ h (.ref n) = some (F.map .int) := by simp [asQ, asL, e]
  show (match asDk h (.ref n) with
    | some (ks, vs) => (keyIn (.ref n) (.int k)).bind (lookK ks vs)
    | none => (match asQ h (.ref n), Mi.W.int k with
      | some xs, .int k => atI xs k
      | _, _ => none)) = _
  rw [a, b]
  exact atI_int h0 h1
theorem li_set {h : Hpa} {n lo : Nat} {F : List Int} (e : h[n]? = some (.lst (F.map .int))) {k b : Int} (h0 : 0 ≤ k) (h1 : k < F.length) : setW lo h (.ref n) (.int k) (.int b) = some (h.set n (.lst ((F.set k.toNat b).map .int))) := by
  have ok : okSt lo n (.int b) = true := by unfold okSt; simp [Mi.W.pure]
  unfold setW
  dsimp only
  rw [e]
  have e1 : ixN (F.map Mi.W.int).length k = some k.toNat := ixN_at h0 (by rw [List.length_map]; exact h1)
  dsimp only
  rw [e1]
  dsimp only
  rw [if_pos ok, List.map_set]
theorem getD_in {F : List Int} (o : FOk F) {k : Int} (h0 : 0 ≤ k) (h1 : k < 64) : 0 ≤ F.getD k.toNat 0 ∧ F.getD k.toNat 0 < 2147483647 := by
  refine o.rng _ ?_
  have hl : k.toNat < F.length := by rw [o.len]; omega
  rw [List.getD_eq_getElem?_getD, List.getElem?_eq_getElem hl]
  exact List.getElem_mem hl
theorem at_end (h0 : Hpa) (ob : Ob) : (h0 ++ [ob])[h0.length]? = some ob := by simp
theorem set_end (h0 : Hpa) (ob ob' : Ob) : (h0 ++ [ob]).set h0.length ob' = h0 ++ [ob'] := by simp
theorem fm_in (x : Int) : 0 ≤ x.fmod 2147483647 ∧ x.fmod 2147483647 < 2147483647 := by
  rw [Int.fmod_eq_emod_of_nonneg _ (by decide)]
  omega
theorem fm64 (x : Int) : 0 ≤ x.fmod 64 ∧ x.fmod 64 < 64 := by
  rw [Int.fmod_eq_emod_of_nonneg _ (by decide)]
  omega
/-- a loop by its state -/
theorem loop_by {α σ : Type} (f : α → Mi.W) (body : Mi.W → Mi.Env → Hpa → SR) (v : σ → Mi.Env) (h : σ → Hpa) (Q : σ → Prop) :
    ∀ (xs : List α) (s : σ), Q s → (∀ x ∈ xs, ∀ s, Q s → ∃ s', Q s' ∧ body (f x) (v s) (h s) = .nx (v s') (h s')) → ∃ s', Q s' ∧ loopL body [] (xs.map f) (v s) (h s) = .nx (v s') (h s')
  | [], s, q, _ => ⟨s, q, rfl⟩
  | x :: xs, s, q, k => by
    obtain ⟨s1, q1, e1⟩ := k x List.mem_cons_self s q
    obtain ⟨s2, q2, e2⟩ := loop_by f body v h Q xs s1 q1 fun y hy => k y (List.mem_cons_of_mem _ hy)
    refine ⟨s2, q2, ?_⟩
    show (match body (f x) (v s) (h s) with
      | .nx v1 h1 => loopL body [] (xs.map f) v1 h1
      | .ct v1 h1 => loopL body [] (xs.map f) v1 h1
      | .bk v1 h1 => .nx v1 h1
      | r => r) = _
    rw [e1]
    exact e2
theorem comp_by {α : Type} (f g : α → Mi.W) (body : Mi.W → Hpa → Mi.R (Option Mi.W)) (h : Hpa) : ∀ (xs : List α), (∀ x ∈ xs, body (f x) h = .ok (some (g x)) h) → compL body [] (xs.map f) h = .ok (xs.map g) h
  | [], _ => rfl
  | x :: xs, k => by
    have ih := comp_by f g body h xs fun y hy => k y (List.mem_cons_of_mem _ hy)
    show ((body (f x) h).bind fun o h1 => (compL body [] (xs.map f) h1).bind fun ys h2 => .ok (match o with
      | some y => y :: ys
      | none => ys) h2) = _
    rw [k x List.mem_cons_self]
    show ((compL body [] (xs.map f) h).bind fun ys h2 => .ok (g x :: ys) h2) = _
    rw [ih]
    rfl
theorem enum_ints (ns : List Int) : enumW (ns.map .int) = ((List.range ns.length).zip ns).map fun p => .tup [.int (p.1 : Int), .int p.2] := by
  unfold enumW pairs rngW
  rw [List.length_map]
  have : ((ns.length : Int) - 0).toNat = ns.length := by omega
  rw [this, List.zip_map, List.map_map]
  apply List.map_congr_left
  intro p _
  simp
theorem rng_ints (a b : Int) : rngW a b = (List.range (b - a).toNat).map fun (k : Nat) => .int (a + k) := rfl
def F0 : List Int := (List.range 64).map fun (k : Nat) => 17 + (0 + (k : Int))
theorem F0_ok : FOk F0 := ⟨by simp [F0], by decide +kernel⟩
theorem fold1_body (n lo : Nat) (h0 : Hpa) (sc : Mi.W) (x y : Option Mi.W) {F : List Int} (o : FOk F) (k : Nat) (c : Int) :
    exSs ⟨callF P n lo, lo, P.cst⟩ bd__law_folded_2 [some sc, some (.ref h0.length), some (.int k), some (.int c)] (h0 ++ [.lst (F.map .int)]) =
      .nx [some sc, some (.ref h0.length), some (.int k), some (.int c)] (h0 ++ [.lst ((F.set ((k : Int).fmod 64).toNat ((F.getD ((k : Int).fmod 64).toNat 0 * 48271 + c).fmod 2147483647)).map .int)]) := by
  have e := at_end h0 (.lst (F.map Mi.W.int))
  have q := fm64 (k : Int)
  have I1 := li_idx e q.1 (by rw [o.len]; exact q.2)
  have I2 := fun b => li_set (lo := lo) (b := b) e q.1 (by rw [o.len]; exact q.2)
  simp (config := { decide := true }) only [bd__law_folded_2, I1, I2, set_end, exSs, exS, evE, evEs, wipeE, tgs, List.map_cons, List.map_nil, List.cons_append, List.nil_append, List.replicate, Nat.sub_self, List.getElem?_cons_zero, List.getElem?_cons_succ, R.bind_ok, R.bind_bad, R.sv_ok, setTg, List.set_cons_zero, List.set_cons_succ, SR.seq_nx, SR.seq_rt, Bool.false_eq_true, if_false, op_add_i, op_sub_i, op_mul_i, op_mod_i, op_fdiv_i, sl1, sl2, sl3, sl4, sl5, sl6, sl7, sl8, Bool.true_or, Bool.or_true, if_true, ne_eq, not_false_eq_true, and_self, ofO_some, Option.map_some, Nat.reduceAdd, Nat.reduceSub, mkL_nil, mkL_f, mkT_f, List.length_cons, List.length_nil, List.zip_cons_cons, List.zip_nil_left, List.foldl_cons, List.foldl_nil]
theorem fold2_body (n lo : Nat) (h0 : Hpa) (sc : Mi.W) (y : Option Mi.W) {F : List Int} (o : FOk F) (k : Int) (h1 : 1 ≤ k) (h2 : k < 64) :
    exSs ⟨callF P n lo, lo, P.cst⟩ bd__law_folded_1 [some sc, some (.ref h0.length), some (.int k), y] (h0 ++ [.lst (F.map .int)]) =
      .nx [some sc, some (.ref h0.length), some (.int k), y] (h0 ++ [.lst ((F.set k.toNat ((F.getD k.toNat 0 + F.getD (k - 1).toNat 0 * 16807).fmod 2147483647)).map .int)]) := by
  have e := at_end h0 (.lst (F.map Mi.W.int))
  have I1 := li_idx e (k := k) (by omega) (by rw [o.len]; exact h2)
  have I3 := li_idx e (k := k - 1) (by omega) (by rw [o.len]; omega)
  have I2 := fun b => li_set (lo := lo) (b := b) (k := k) e (by omega) (by rw [o.len]; exact h2)
  simp (config := { decide := true }) only [bd__law_folded_1, I1, I2, I3, set_end, exSs, exS, evE, evEs, wipeE, tgs, List.map_cons, List.map_nil, List.cons_append, List.nil_append, List.replicate, Nat.sub_self, List.getElem?_cons_zero, List.getElem?_cons_succ, R.bind_ok, R.bind_bad, R.sv_ok, setTg, List.set_cons_zero, List.set_cons_succ, SR.seq_nx, SR.seq_rt, Bool.false_eq_true, if_false, op_add_i, op_sub_i, op_mul_i, op_mod_i, op_fdiv_i, sl1, sl2, sl3, sl4, sl5, sl6, sl7, sl8, Bool.true_or, Bool.or_true, if_true, ne_eq, not_false_eq_true, and_self, ofO_some, Option.map_some, Nat.reduceAdd, Nat.reduceSub, mkL_nil, mkL_f, mkT_f, List.length_cons, List.length_nil, List.zip_cons_cons, List.zip_nil_left, List.foldl_cons, List.foldl_nil]
structure FS where
  F : List Int
  x : Option Mi.W
  y : Option Mi.W
theorem frz_ints (h0 : Hpa) (F : List Int) : fin false h0.length (.ref h0.length) (h0 ++ [.lst (F.map .int)]) = .ok (.lst (F.map .int)) h0 := by
  have m : (F.map Mi.W.int).mapM (frz h0.length (h0 ++ [.lst (F.map .int)]) 19) = some (F.map .int) := by
    generalize h0 ++ [.lst (F.map .int)] = hh
    induction F with
    | nil => rfl
    | cons x F ih =>
      rw [List.map_cons, List.mapM_cons, ih]
      rfl
  have e : frz h0.length (h0 ++ [.lst (F.map .int)]) DEP (.ref h0.length) = some (.lst (F.map .int)) := by
    show frz h0.length (h0 ++ [.lst (F.map .int)]) (19 + 1) (.ref h0.length) = _
    unfold frz
    rw [if_neg (by simp [Mi.W.pure])]
    dsimp only
    rw [if_neg (Nat.lt_irrefl _), at_end]
    dsimp only
    rw [m]
    rfl
  unfold fin
  simp only [Bool.false_eq_true, if_false]
  rw [e]
  simp
theorem exSs_cons {cx : Cxt} {s : S} {ss : Ss} {v : Mi.Env} {h : Hpa} : exSs cx (.cons s ss) v h = (exS cx s v h).seq fun v1 h1 => exSs cx ss v1 h1 := rfl
theorem exSs_nil {cx : Cxt} {v : Mi.Env} {h : Hpa} : exSs cx .nil v h = .nx v h := rfl
theorem exS_ret {cx : Cxt} {e : E} {v : Mi.Env} {h : Hpa} : exS cx (.ret e) v h = (evE cx e v h).sv v fun x h1 => .rt x h1 := rfl
theorem callF_fin {P : Pg} {n lo i : Nat} {ws : List Mi.W} {h h' : Hpa} {w : Mi.W} {d : Fd} (hd : P.fd i = some d) (hk : d.keep = false) (e : ws.length = d.np)
    (E : exSs ⟨callF P n h.length, h.length, P.cst⟩ d.body (ws.map some ++ List.replicate (d.ns - d.np) none) h = .rt w h') : callF P (n + 1) lo i ws h = fin false h.length w h' := by
  rw [callF_eq hd e, hk]
  simp only [Bool.false_eq_true, if_false]
  rw [E]
theorem rng0 (f : Nat → Mi.W) (hf : ∀ k : Nat, f k = .int (0 + (k : Int))) : rngW 0 64 = (List.range 64).map f := by
  have h64 : ((64 : Int) - 0).toNat = 64 := by decide
  rw [rng_ints, h64]
  exact List.map_congr_left fun k _ => (hf k).symm
theorem comp0 (body : Mi.W → Hpa → Mi.R (Option Mi.W)) (h : Hpa) (hb : ∀ k : Nat, body (.int (0 + (k : Int))) h = .ok (some (.int (17 + (0 + (k : Int))))) h) : compL body [] (rngW 0 64) h = .ok (F0.map .int) h := by
  rw [rng0 (fun (k : Nat) => Mi.W.int (0 + (k : Int))) fun _ => rfl, comp_by (fun (k : Nat) => Mi.W.int (0 + (k : Int))) (fun (k : Nat) => Mi.W.int (17 + (0 + (k : Int)))) body h (List.range 64) fun k _ => hb k]
  unfold F0
  rw [List.map_map]
  exact congrArg (fun l => Mi.R.ok l h) (List.map_congr_left fun _ _ => rfl)
theorem folded_E0 (cx : Cxt) (sc : Mi.W) (h : Hpa) : exS cx (.asg (.nm 1) (.comp true (.op .add (.int 17) (.var 2)) (.nm 2) (.rng1 (.int 64)) (.bl true))) [some sc, none, none, none] h = .nx [some sc, some (.ref h.length), none, none] (h ++ [.lst (F0.map .int)]) := by
  have s64 : small62 64 = true := by decide
  have fl : (F0.map Mi.W.int).length ≤ LIM := by rw [List.length_map, F0_ok.len]; decide
  simp (config := { decide := true }) only [evI, s64, exSs, exS, evE, evEs, wipeE, tgs, List.map_cons, List.map_nil, List.cons_append, List.nil_append, List.replicate, Nat.sub_self, List.getElem?_cons_zero, List.getElem?_cons_succ, R.bind_ok, R.bind_bad, R.sv_ok, setTg, List.set_cons_zero, List.set_cons_succ, SR.seq_nx, SR.seq_rt, Bool.false_eq_true, if_false, op_add_i, op_sub_i, op_mul_i, op_mod_i, op_fdiv_i, sl1, sl2, sl3, sl4, sl5, sl6, sl7, sl8, Bool.true_or, Bool.or_true, if_true, ne_eq, not_false_eq_true, and_self, ofO_some, Option.map_some, Nat.reduceAdd, Nat.reduceSub, mkL_nil, mkL_f, mkT_f, List.length_cons, List.length_nil, List.zip_cons_cons, List.zip_nil_left, List.foldl_cons, List.foldl_nil]
  rw [comp0 _ h fun k => rfl]
  simp only [noEx_ok, R.bind_ok, mkL, if_pos fl, if_true, R.sv_ok, List.set_cons_succ, List.set_cons_zero]
def Vf (sc : Mi.W) (m : Nat) (s : FS) : Mi.Env := [some sc, some (.ref m), s.x, s.y]
def Hf (h : Hpa) (s : FS) : Hpa := h ++ [.lst (s.F.map .int)]
theorem folded_E1 (n : Nat) (h : Hpa) (ns : List Int) (s : FS) (o : FOk s.F) : ∃ t : FS, FOk t.F ∧ exS ⟨callF P n h.length, h.length, P.cst⟩ st__law_folded_2 (Vf (.lsk (ns.map .int)) h.length s) (Hf h s) = .nx (Vf (.lsk (ns.map .int)) h.length t) (Hf h t) := by
  obtain ⟨t1, o1, e1⟩ := loop_by (fun (p : Nat × Int) => Mi.W.tup [.int (p.1 : Int), .int p.2]) (loopB (.tp [2, 3]) fun v h' => exSs ⟨callF P n h.length, h.length, P.cst⟩ bd__law_folded_2 v h') (Vf (.lsk (ns.map .int)) h.length) (Hf h) (fun s => FOk s.F)
    ((List.range ns.length).zip ns) s o fun p _ s o => by
      refine ⟨⟨s.F.set ((p.1 : Int).fmod 64).toNat ((s.F.getD ((p.1 : Int).fmod 64).toNat 0 * 48271 + p.2).fmod 2147483647), some (.int p.1), some (.int p.2)⟩, o.set _ (fm_in _), ?_⟩
      exact fold1_body n h.length h (.lsk (ns.map .int)) none none o p.1 p.2
  rw [← enum_ints] at e1
  exact ⟨t1, o1, e1⟩
theorem folded_E2 (n : Nat) (h : Hpa) (sc : Mi.W) (s : FS) (o : FOk s.F) : ∃ t : FS, FOk t.F ∧ exS ⟨callF P n h.length, h.length, P.cst⟩ st__law_folded_1 (Vf sc h.length s) (Hf h s) = .nx (Vf sc h.length t) (Hf h t) := by
  have h63 : ((64 : Int) - 1).toNat = 63 := by decide
  obtain ⟨t1, o1, e1⟩ := loop_by (fun (k : Nat) => Mi.W.int (1 + (k : Int))) (loopB (.nm 2) fun v h' => exSs ⟨callF P n h.length, h.length, P.cst⟩ bd__law_folded_1 v h') (Vf sc h.length) (Hf h) (fun s => FOk s.F)
    (List.range 63) s o fun k hk s o => by
      have hk' : k < 63 := List.mem_range.mp hk
      refine ⟨⟨s.F.set (1 + (k : Int)).toNat ((s.F.getD (1 + (k : Int)).toNat 0 + s.F.getD (1 + (k : Int) - 1).toNat 0 * 16807).fmod 2147483647), some (.int (1 + (k : Int))), s.y⟩, o.set _ (fm_in _), ?_⟩
      exact fold2_body n h.length h sc s.y o (1 + (k : Int)) (by omega) (by omega)
  have e2 : rngW 1 64 = (List.range 63).map fun (k : Nat) => Mi.W.int (1 + (k : Int)) := by rw [rng_ints, h63]
  rw [← e2] at e1
  refine ⟨t1, o1, ?_⟩
  have s64 : small62 64 = true := by decide
  have s1 : small62 1 = true := by decide
  have ei : ∀ cx v h, evI cx (.rng2 (.int 1) (.int 64)) v h = .ok ⟨rngW 1 64, []⟩ h := fun cx v h => by
    simp only [evI, evE, R.bind_ok, s64, s1, Bool.and_self, if_true]
  have el : ∀ cx v h, exS cx st__law_folded_1 v h = (evI cx (.rng2 (.int 1) (.int 64)) v h).sv v fun wk h1 => loopL (loopB (.nm 2) fun v h' => exSs cx bd__law_folded_1 v h') wk.g wk.xs v h1 := fun _ _ _ => rfl
  rw [el, ei]
  exact e1
theorem folded_ok (hP : Has P) (n lo : Nat) (ns : List Int) (h : Hpa) : ∃ F, FOk F ∧ callF P (n + 1) lo 11 [.lsk (ns.map .int)] h = .ok (.lst (F.map .int)) h := by
  obtain ⟨t1, o1, e1⟩ := folded_E1 (P := P) n h ns ⟨F0, none, none⟩ F0_ok
  obtain ⟨t2, o2, e2⟩ := folded_E2 (P := P) n h (.lsk (ns.map .int)) t1 o1
  refine ⟨t2.F, o2, (callF_fin (d := fd__law_folded) (w := .ref h.length) (h' := Hf h t2) hP.h__law_folded rfl rfl ?_).trans (frz_ints h t2.F)⟩
  have e0 := folded_E0 ⟨callF P n h.length, h.length, P.cst⟩ (.lsk (ns.map .int)) h
  have e0 : exS ⟨callF P n h.length, h.length, P.cst⟩ (.asg (.nm 1) (.comp true (.op .add (.int 17) (.var 2)) (.nm 2) (.rng1 (.int 64)) (.bl true))) [some (.lsk (ns.map .int)), none, none, none] h = .nx (Vf (.lsk (ns.map .int)) h.length ⟨F0, none, none⟩) (Hf h ⟨F0, none, none⟩) := e0
  simp only [fd__law_folded, exSs_cons, List.map_cons, List.map_nil, List.cons_append, List.nil_append, List.replicate, e0, SR.seq_nx, e1, e2, exS_ret]
  rfl
theorem callF_keep {P : Pg} {n lo i : Nat} {ws : List Mi.W} {h h' : Hpa} {w : Mi.W} {d : Fd} (hd : P.fd i = some d) (hk : d.keep = true) (e : ws.length = d.np)
    (E : exSs ⟨callF P n lo, lo, P.cst⟩ d.body (ws.map some ++ List.replicate (d.ns - d.np) none) h = .rt w h') : callF P (n + 1) lo i ws h = .ok w h' := by
  rw [callF_eq hd e, hk]
  simp only [if_true]
  rw [E]
  rfl
def lefts (ns : List Int) : List Int := ns.map fun c => if (1000000000000000000 : Int) ≤ c then c else 0
theorem begun_ok (hP : Has P) (n : Nat) (ns : List Int) (hl : ns.length ≤ 63) : ∃ F, FOk F ∧ callF P (n + 2) 0 13 [.lsk (ns.map .int)] [] = .ok (.ref 0) (Mem F (lefts ns) 0) := by
  obtain ⟨F, oF, eF⟩ := folded_ok hP n 0 ns []
  refine ⟨F, oF, callF_keep (d := fd__law_begun) hP.h__law_begun rfl rfl ?_⟩
  have c1 : ∀ body : Mi.W → Hpa → Mi.R (Option Mi.W), ∀ h, (∀ c : Int, body (.int c) h = .ok (some (.int (if (1000000000000000000 : Int) ≤ c then c else 0))) h) → compL body [] (ns.map .int) h = .ok ((lefts ns).map .int) h := fun body h hb => by
    rw [comp_by Mi.W.int (fun c => Mi.W.int (if (1000000000000000000 : Int) ≤ c then c else 0)) body h ns fun c _ => hb c]
    unfold lefts
    rw [List.map_map]
    rfl
  have nd : ([.inr "cells", .inr "left", .inr "at"] : List Key).Nodup := by decide +kernel
  have pw : ∀ h, opW h .pow (.int 10) (.int 18) = .ok (.int 1000000000000000000) h := fun h => by
    show (if (0 : Int) ≤ 18 ∧ (18 : Int) ≤ 1000000 ∧ (10 : Int).natAbs < 2 ^ 64 then Mi.R.ok (Mi.W.int (10 ^ (18 : Int).toNat)) h else .bad) = _
    rw [if_pos (by decide)]
    rfl
  have ge : ∀ h (c : Int), cmpW h .ge (.int c) (.int 1000000000000000000) = some (decide ((1000000000000000000 : Int) ≤ c)) := fun _ _ => rfl
  have ll : ((lefts ns).map Mi.W.int).length ≤ LIM := by
    rw [List.length_map]
    unfold lefts
    rw [List.length_map, LIM]
    omega
  simp (config := { decide := true }) only [fd__law_begun, evI, wkOf, asL, gOn, eF, nd, exSs, exS, evE, evEs, wipeE, tgs, List.map_cons, List.map_nil, List.cons_append, List.nil_append, List.replicate, Nat.sub_self, List.getElem?_cons_zero, List.getElem?_cons_succ, R.bind_ok, R.bind_bad, R.sv_ok, setTg, List.set_cons_zero, List.set_cons_succ, SR.seq_nx, SR.seq_rt, Bool.false_eq_true, if_false, op_add_i, op_sub_i, op_mul_i, op_mod_i, op_fdiv_i, sl1, sl2, sl3, sl4, sl5, sl6, sl7, sl8, Bool.true_or, Bool.or_true, if_true, ne_eq, not_false_eq_true, and_self, ofO_some, Option.map_some, Nat.reduceAdd, Nat.reduceSub, mkL_nil, mkL_f, mkT_f, List.length_cons, List.length_nil, List.zip_cons_cons, List.zip_nil_left, List.foldl_cons, List.foldl_nil, List.length_cons, List.length_nil]
  rw [c1 _ _ fun c => by
    simp (config := { decide := true }) only [pw, ge, exSs, exS, evE, evEs, wipeE, tgs, List.map_cons, List.map_nil, List.cons_append, List.nil_append, List.replicate, Nat.sub_self, List.getElem?_cons_zero, List.getElem?_cons_succ, R.bind_ok, R.bind_bad, R.sv_ok, setTg, List.set_cons_zero, List.set_cons_succ, SR.seq_nx, SR.seq_rt, Bool.false_eq_true, if_false, op_add_i, op_sub_i, op_mul_i, op_mod_i, op_fdiv_i, sl1, sl2, sl3, sl4, sl5, sl6, sl7, sl8, Bool.true_or, Bool.or_true, if_true, ne_eq, not_false_eq_true, and_self, ofO_some, Option.map_some, Nat.reduceAdd, Nat.reduceSub, mkL_nil, mkL_f, mkT_f, List.length_cons, List.length_nil, List.zip_cons_cons, List.zip_nil_left, List.foldl_cons, List.foldl_nil]
    by_cases hc : (1000000000000000000 : Int) ≤ c
    · rw [decide_eq_true hc, if_pos hc]
      rfl
    · rw [decide_eq_false hc, if_neg hc]
      rfl]
  simp (config := { decide := true }) only [noEx_ok, mkL, if_pos ll, exSs, exS, evE, evEs, wipeE, tgs, List.map_cons, List.map_nil, List.cons_append, List.nil_append, List.replicate, Nat.sub_self, List.getElem?_cons_zero, List.getElem?_cons_succ, R.bind_ok, R.bind_bad, R.sv_ok, setTg, List.set_cons_zero, List.set_cons_succ, SR.seq_nx, SR.seq_rt, Bool.false_eq_true, if_false, op_add_i, op_sub_i, op_mul_i, op_mod_i, op_fdiv_i, sl1, sl2, sl3, sl4, sl5, sl6, sl7, sl8, Bool.true_or, Bool.or_true, if_true, ne_eq, not_false_eq_true, and_self, ofO_some, Option.map_some, Nat.reduceAdd, Nat.reduceSub, mkL_nil, mkL_f, mkT_f, List.length_cons, List.length_nil, List.zip_cons_cons, List.zip_nil_left, List.foldl_cons, List.foldl_nil]
  have e : setW 0 [Ob.dk KS [.lst (F.map .int), .lst [], .int 0], .lst ((lefts ns).map .int)] (.ref 0) (.str "left") (.ref 1) = some (Mem F (lefts ns) 0) := by
    have nd2 : KS.length < LIM ∧ KS.Nodup := by decide +kernel
    show (if KS.length < LIM ∧ KS.Nodup ∧ okSt 0 0 (.ref 1) = true then some ([Ob.dk KS [.lst (F.map .int), .lst [], .int 0], .lst ((lefts ns).map .int)].set 0 (.dk (putKs KS (.inr "left")) (putVs KS [.lst (F.map .int), .lst [], .int 0] (.inr "left") (.ref 1)))) else none) = _
    rw [if_pos ⟨nd2.1, nd2.2, rfl⟩]
    rfl
  have e' := e
  unfold KS at e'
  simp (config := { decide := true }) only [List.length_cons, List.length_nil, e', exSs, exS, evE, evEs, wipeE, tgs, List.map_cons, List.map_nil, List.cons_append, List.nil_append, List.replicate, Nat.sub_self, List.getElem?_cons_zero, List.getElem?_cons_succ, R.bind_ok, R.bind_bad, R.sv_ok, setTg, List.set_cons_zero, List.set_cons_succ, SR.seq_nx, SR.seq_rt, Bool.false_eq_true, if_false, op_add_i, op_sub_i, op_mul_i, op_mod_i, op_fdiv_i, sl1, sl2, sl3, sl4, sl5, sl6, sl7, sl8, Bool.true_or, Bool.or_true, if_true, ne_eq, not_false_eq_true, and_self, ofO_some, Option.map_some, Nat.reduceAdd, Nat.reduceSub, mkL_nil, mkL_f, mkT_f, List.length_cons, List.length_nil, List.zip_cons_cons, List.zip_nil_left, List.foldl_cons, List.foldl_nil]
/-! ### strings -/
theorem op_add_s {h : Hpa} {a b : Str} (e : a.length + b.length ≤ LIM) : opW h .add (.str a) (.str b) = .ok (.str (a ++ b)) h := if_pos e
theorem cut_len (s : Str) (lo hi : Option Int) : (cutS s lo hi).length ≤ s.length := by
  unfold cutS
  show (List.toArray _).size ≤ s.cps.size
  simp only [List.size_toArray, List.length_take, List.length_drop, Array.length_toList]
  omega
theorem slc_s {h : Hpa} {s : Str} (e : s.length ≤ LIM) (lo hi : Option Int) : slcW h (.str s) lo hi = some (.str (cutS s lo hi)) := if_pos e
theorem idx_s {h : Hpa} {s : Str} (e : s.length ≤ LIM) {k : Int} (h0 : 0 ≤ k) (h1 : k < s.length) : ∃ c, idxW h (.str s) (.int k) = some (.str ⟨#[c]⟩) := by
  have hl : k.toNat < s.cps.toList.length := by
    rw [Array.length_toList]
    have : s.length = s.cps.size := rfl
    omega
  refine ⟨s.cps.toList[k.toNat], ?_⟩
  show (if s.length ≤ LIM then (atI s.cps.toList k).map fun c => Mi.W.str ⟨#[c]⟩ else none) = _
  rw [if_pos e]
  unfold atI
  rw [ixN_at h0 (by rw [Array.length_toList]; exact h1)]
  show (s.cps.toList[k.toNat]?).map _ = _
  rw [List.getElem?_eq_getElem hl]
  rfl
theorem join_len (a : Str) : ∀ ys : List Str, (Str.join a ys).length ≤ (ys.map (·.length)).sum + ys.length * a.length
  | [] => Nat.zero_le _
  | [y] => by simp [Str.join]
  | y :: z :: r => by
    have ih := join_len a (z :: r)
    have e : Str.join a (y :: z :: r) = y ++ a ++ Str.join a (z :: r) := rfl
    rw [e, Str.length_append, Str.length_append]
    simp only [List.map_cons, List.sum_cons, List.length_cons] at ih ⊢
    rw [Nat.succ_mul]
    omega
theorem allS_str : ∀ ys : List Str, allS (ys.map Mi.W.str) = some ys
  | [] => rfl
  | y :: ys => by
    show (allS (ys.map Mi.W.str)).map (y :: ·) = _
    rw [allS_str ys]
    rfl
theorem app_s {h : Hpa} {n lo : Nat} {F : List Str} {s : Str} (e : h[n]? = some (.lst (F.map .str))) (l : F.length < LIM) : mthW lo h .append (.ref n) [.str s] = .ok .non (h.set n (.lst ((F ++ [s]).map .str))) := by
  have ok : okSt lo n (.str s) = true := by unfold okSt; simp [Mi.W.pure]
  unfold mthW
  dsimp only
  rw [e]
  dsimp only
  rw [if_pos ⟨by rw [List.length_map]; exact l, ok⟩, List.map_append]
  rfl
theorem pre_s {h : Hpa} {n : Nat} {xs : List Mi.W} (e : h[n]? = some (.lst xs)) : mPre h .append (.ref n) = true := by
  unfold mPre
  dsimp only
  rw [e]
/-! ### so many numbers may still be drawn -/
def Mok (h : Hpa) (b : Nat) : Prop := ∃ cells left a ext, h = Mem cells left a ++ ext ∧ MemOk cells a ∧ a + (b : Int) ≤ 2 ^ 30
def Kp (h h' : Hpa) : Prop := h'.length = h.length ∧ ∀ n, 2 ≤ n → h'[n]? = h[n]?
theorem Kp.refl {h : Hpa} : Kp h h := ⟨rfl, fun _ _ => rfl⟩
theorem Kp.trans {h h1 h2 : Hpa} (a : Kp h h1) (b : Kp h1 h2) : Kp h h2 := ⟨b.1.trans a.1, fun n hn => (b.2 n hn).trans (a.2 n hn)⟩
theorem Mok.le {h : Hpa} {b c : Nat} (m : Mok h b) (l : c ≤ b) : Mok h c := by
  obtain ⟨cells, left, a, ext, e, o, k⟩ := m
  exact ⟨cells, left, a, ext, e, o, by omega⟩
theorem Mok.len {h : Hpa} {b : Nat} (m : Mok h b) : 2 ≤ h.length := by
  obtain ⟨cells, left, a, ext, e, o, k⟩ := m
  rw [e]
  simp [Mem]
theorem Mok.app {h : Hpa} {b : Nat} (m : Mok h b) (x : Hpa) : Mok (h ++ x) b := by
  obtain ⟨cells, left, a, ext, e, o, k⟩ := m
  exact ⟨cells, left, a, ext ++ x, by rw [e, List.append_assoc], o, k⟩
theorem kp_mem (cells left l2 : List Int) (a a2 : Int) (ext : Hpa) : Kp (Mem cells left a ++ ext) (Mem cells l2 a2 ++ ext) := by
  refine ⟨by simp [Mem], fun n hn => ?_⟩
  match n, hn with
  | n + 2, _ => rfl
theorem draw_m (hP : Has P) (n lo : Nat) {h : Hpa} {b : Nat} {many : Int} (m : Mok h (b + 1)) (h1 : 1 ≤ many) (h2 : many < 2 ^ 20) :
    ∃ v h', callF P (n + 3) lo 12 [.ref 0, .int many] h = .ok (.int v) h' ∧ 0 ≤ v ∧ v < many ∧ Mok h' b ∧ Kp h h' := by
  obtain ⟨cells, left, a, ext, e, o, k⟩ := m
  obtain ⟨v, l2, D, r1, r2⟩ := draw_ok hP n lo ext o (left := left) (by omega) h1 h2
  subst e
  refine ⟨v, _, D, r1, r2, ⟨cells, l2, a + 1, ext, rfl, ⟨o.len, o.rng, ?_⟩, ?_⟩, kp_mem ..⟩
  · have := o.at0
    omega
  · omega
theorem begun_m (hP : Has P) (n : Nat) (ns : List Int) (hl : ns.length ≤ 63) : ∃ h', callF P (n + 2) 0 13 [.lsk (ns.map .int)] [] = .ok (.ref 0) h' ∧ Mok h' (2 ^ 29) ∧ h'.length = 2 := by
  obtain ⟨F, oF, B⟩ := begun_ok hP n ns hl
  exact ⟨_, B, ⟨F, lefts ns, 0, [], by simp, ⟨oF.len, oF.rng, Int.le_refl _⟩, by decide⟩, rfl⟩
theorem take_kp {h h' : Hpa} (k : Kp h h') (x : Hpa) : (h' ++ x).take h.length = h' := by
  rw [← k.1]
  simp
theorem fin_kp {h h' : Hpa} {w : Mi.W} (k : Kp h h') (x : Hpa) (hp : w.pure = true) : fin false h.length w (h' ++ x) = .ok w h' := by
  unfold fin
  simp only [Bool.false_eq_true, if_false]
  have : frz h.length (h' ++ x) DEP w = some w := by
    show frz _ _ (19 + 1) w = some w
    unfold frz
    rw [if_pos hp]
  rw [this, take_kp k]
theorem fin_kp0 {h h' : Hpa} {w : Mi.W} (k : Kp h h') (hp : w.pure = true) : fin false h.length w h' = .ok w h' := by
  have := fin_kp k [] hp
  rwa [List.append_nil] at this
/-- a def's call, by its body -/
theorem call_ret {i n lo : Nat} {ws : List Mi.W} {h h' : Hpa} {w : Mi.W} {d : Fd} (hd : P.fd i = some d) (hk : d.keep = false) (e : ws.length = d.np) (hp : w.pure = true) (k : Kp h h')
    (E : exSs ⟨callF P n h.length, h.length, P.cst⟩ d.body (ws.map some ++ List.replicate (d.ns - d.np) none) h = .rt w h') : callF P (n + 1) lo i ws h = .ok w h' := by
  rw [callF_fin hd hk e E]
  exact fin_kp0 k hp
/-- a comprehension that draws -/
theorem comp_m {α : Type} (f : α → Mi.W) (G : Mi.W → Prop) (c : Nat) (body : Mi.W → Hpa → Mi.R (Option Mi.W)) (hb : ∀ x h b, Mok h (b + c) → ∃ y h', body (f x) h = .ok (some y) h' ∧ G y ∧ Mok h' b ∧ Kp h h') :
    ∀ (xs : List α) (h : Hpa) (b : Nat), Mok h (b + xs.length * c) → ∃ ys h', compL body [] (xs.map f) h = .ok ys h' ∧ ys.length = xs.length ∧ (∀ y ∈ ys, G y) ∧ Mok h' b ∧ Kp h h'
  | [], h, b, m => ⟨[], h, rfl, rfl, (fun _ z => nomatch z), m.le (by simp), .refl⟩
  | x :: xs, h, b, m => by
    rw [List.length_cons, Nat.succ_mul, ← Nat.add_assoc] at m
    obtain ⟨y, h1, e1, g1, m1, k1⟩ := hb x h _ m
    obtain ⟨ys, h2, e2, l2, g2, m2, k2⟩ := comp_m f G c body hb xs h1 b m1
    refine ⟨y :: ys, h2, ?_, by simp [l2], fun z hz => ?_, m2, k1.trans k2⟩
    · show ((body (f x) h).bind fun o h1 => (compL body [] (xs.map f) h1).bind fun ys h2 => .ok (match o with
        | some y => y :: ys
        | none => ys) h2) = _
      rw [e1]
      show ((compL body [] (xs.map f) h1).bind fun ys h2 => .ok (y :: ys) h2) = _
      rw [e2]
      rfl
    · rcases List.mem_cons.mp hz with q | q
      · rw [q]
        exact g1
      · exact g2 z q
end Lw

/-! Lr: repr of small data. -/
namespace Lw
open PySem PySem.Spec PyProof.Rows L2 Mi
mutual
def smB : Mi.W → Bool
  | .non => true | .bl _ => true | .int i => decide (-1000000000 < i) && decide (i < 1000000000) | .str s => sOkB0 s
  | .tup xs => smBs xs | .lst xs => smBs xs | .lsk xs => smBs xs
  | _ => false
def smBs : List Mi.W → Bool
  | [] => true
  | x :: xs => smB x && smBs xs
end
mutual
def wD : Mi.W → PyData
  | .non => .none | .bl b => .bool b | .int i => .int i | .str s => .str s
  | .tup xs => .tuple (wDs xs) | .lst xs => .list (wDs xs) | .lsk xs => .list (wDs xs)
  | _ => .none
def wDs : List Mi.W → List PyData
  | [] => []
  | x :: xs => wD x :: wDs xs
end
mutual
def dpt : Mi.W → Nat
  | .tup xs => dpts xs + 1 | .lst xs => dpts xs + 1 | .lsk xs => dpts xs + 1
  | _ => 0
def dpts : List Mi.W → Nat
  | [] => 0
  | x :: xs => max (dpt x) (dpts xs)
end
theorem wDs_map : ∀ xs : List Mi.W, wDs xs = xs.map wD
  | [] => rfl
  | x :: xs => by rw [wDs, wDs_map xs, List.map_cons]
theorem smBs_all : ∀ xs : List Mi.W, smBs xs = xs.all smB
  | [] => rfl
  | x :: xs => by rw [smBs, smBs_all xs, List.all_cons]
theorem dpts_le {n : Nat} : ∀ {xs : List Mi.W}, (∀ x ∈ xs, dpt x ≤ n) → dpts xs ≤ n
  | [], _ => Nat.zero_le _
  | x :: xs, h => by
    rw [dpts]
    exact Nat.max_le.mpr ⟨h x List.mem_cons_self, dpts_le fun y hy => h y (List.mem_cons_of_mem _ hy)⟩
mutual
theorem toD_wD (h : Hpa) : ∀ (w : Mi.W) (n : Nat), smB w = true → dpt w < n → toD h n w = some (wD w)
  | .non, n + 1, _, _ => rfl
  | .bl _, n + 1, _, _ => rfl
  | .int _, n + 1, _, _ => rfl
  | .str _, n + 1, _, _ => rfl
  | .tup xs, n + 1, e, d => by
    show (xs.mapM (toD h n)).map PyData.tuple = _
    rw [toD_wDs h xs n e (by simp only [dpt] at d; omega)]
    rfl
  | .lst xs, n + 1, e, d => by
    show (xs.mapM (toD h n)).map PyData.list = _
    rw [toD_wDs h xs n e (by simp only [dpt] at d; omega)]
    rfl
  | .lsk xs, n + 1, e, d => by
    show (xs.mapM (toD h n)).map PyData.list = _
    rw [toD_wDs h xs n e (by simp only [dpt] at d; omega)]
    rfl
  | .rep _, _, e, _ => by cases e
  | .dk _ _, _, e, _ => by cases e
  | .dkw _ _, _, e, _ => by cases e
  | .st _, _, e, _ => by cases e
  | .ref _, _, e, _ => by cases e
  | .fn _, _, e, _ => by cases e
  | .cl _, _, e, _ => by cases e
  | _, 0, _, d => by omega
theorem toD_wDs (h : Hpa) : ∀ (ws : List Mi.W) (n : Nat), smBs ws = true → dpts ws < n → ws.mapM (toD h n) = some (wDs ws)
  | [], _, _, _ => rfl
  | w :: ws, n, e, d => by
    rw [smBs, Bool.and_eq_true] at e
    rw [dpts] at d
    rw [List.mapM_cons, toD_wD h w n e.1 (by omega), toD_wDs h ws n e.2 (by omega)]
    rfl
end
theorem int_show {i : Int} (h0 : -1000000000 < i) (h1 : i < 1000000000) : i.natAbs.log2 < 31 := by
  by_cases z : i.natAbs = 0
  · rw [z]
    decide
  · exact (Nat.log2_lt z).mpr (by omega)
mutual
def wt : Mi.W → Nat
  | .int _ => 32 | .str s => s.length | .tup xs => wts xs | .lst xs => wts xs | .lsk xs => wts xs
  | _ => 0
def wts : List Mi.W → Nat
  | [] => 0
  | x :: xs => wt x + 1 + wts xs
end
theorem wts_le {n : Nat} : ∀ {xs : List Mi.W}, (∀ x ∈ xs, wt x ≤ n) → wts xs ≤ xs.length * (n + 1)
  | [], _ => Nat.zero_le _
  | x :: xs, h => by
    have h1 := h x List.mem_cons_self
    have h2 := wts_le (xs := xs) fun y hy => h y (List.mem_cons_of_mem _ hy)
    rw [wts, List.length_cons, Nat.succ_mul]
    omega
mutual
theorem show_ok : ∀ w : Mi.W, smB w = true → (wD w).showable = true ∧ (wD w).canLay0 = true ∧ (wD w).intsShort 13 = true ∧ (wD w).depth ≤ dpt w ∧ (wD w).weight ≤ wt w
  | .non, _ => ⟨rfl, rfl, rfl, Nat.le_refl _, Nat.le_refl _⟩
  | .bl _, _ => ⟨rfl, rfl, rfl, Nat.le_refl _, Nat.le_refl _⟩
  | .int i, e => by
    simp only [smB, Bool.and_eq_true, decide_eq_true_eq] at e
    have hl := int_show e.1 e.2
    refine ⟨by simp only [wD, PyData.showable, decide_eq_true_eq]; omega, rfl, ?_, Nat.le_refl _, ?_⟩
    · simp only [wD, PyData.intsShort, decide_eq_true_eq]
      exact PyData.shown_int_le2 (by omega) (by omega)
    · simp only [wD, PyData.weight, wt]
      split <;> omega
  | .str s, e => by
    refine ⟨rfl, ?_, rfl, Nat.le_refl _, Nat.le_refl _⟩
    simp only [wD, PyData.canLay0, PyData.strOk]
    simp only [smB, sOkB0] at e
    rw [← Array.all_toList]
    exact e
  | .tup xs, e => by
    obtain ⟨a, b, c, d, f⟩ := shows_ok xs e
    refine ⟨by simpa only [wD, PyData.showable] using a, by simpa only [wD, PyData.canLay0] using b, by simpa only [wD, PyData.intsShort] using c, ?_, by simpa only [wD, PyData.weight, wt] using f⟩
    simp only [wD, PyData.depth, dpt]
    omega
  | .lst xs, e => by
    obtain ⟨a, b, c, d, f⟩ := shows_ok xs e
    refine ⟨by simpa only [wD, PyData.showable] using a, by simpa only [wD, PyData.canLay0] using b, by simpa only [wD, PyData.intsShort] using c, ?_, by simpa only [wD, PyData.weight, wt] using f⟩
    simp only [wD, PyData.depth, dpt]
    omega
  | .lsk xs, e => by
    obtain ⟨a, b, c, d, f⟩ := shows_ok xs e
    refine ⟨by simpa only [wD, PyData.showable] using a, by simpa only [wD, PyData.canLay0] using b, by simpa only [wD, PyData.intsShort] using c, ?_, by simpa only [wD, PyData.weight, wt] using f⟩
    simp only [wD, PyData.depth, dpt]
    omega
  | .rep _, e => by cases e
  | .dk _ _, e => by cases e
  | .dkw _ _, e => by cases e
  | .st _, e => by cases e
  | .ref _, e => by cases e
  | .fn _, e => by cases e
  | .cl _, e => by cases e
theorem shows_ok : ∀ ws : List Mi.W, smBs ws = true → PyData.showableAll (wDs ws) = true ∧ PyData.canLayAll0 (wDs ws) = true ∧ PyData.intsShortAll 13 (wDs ws) = true ∧ PyData.depthAll (wDs ws) ≤ dpts ws ∧ PyData.weightAll (wDs ws) ≤ wts ws
  | [], _ => ⟨rfl, rfl, rfl, Nat.le_refl _, Nat.le_refl _⟩
  | w :: ws, e => by
    rw [smBs, Bool.and_eq_true] at e
    obtain ⟨a, b, c, d, f⟩ := show_ok w e.1
    obtain ⟨a', b', c', d', f'⟩ := shows_ok ws e.2
    refine ⟨?_, ?_, ?_, ?_, ?_⟩
    · simp only [wDs, PyData.showableAll, a, a', Bool.and_self]
    · simp only [wDs, PyData.canLayAll0, b, b', Bool.and_self]
    · simp only [wDs, PyData.intsShortAll, c, c', Bool.and_self]
    · simp only [wDs, PyData.depthAll, dpts]
      omega
    · simp only [wDs, PyData.weightAll, wts]
      omega
end
/-- repr of small data -/
theorem rep_ok {w : Mi.W} (e : smB w = true) (d : dpt w < 20) (l : wt w ≤ 1000000) (h : Hpa) : bltW h .repr_ [w] = .ok (.rep (wD w).shown) h := by
  obtain ⟨a, b, c, k, f⟩ := show_ok w e
  show (match toD h DEP w with
    | some d => if d.showable = true ∧ d.shown.length ≤ LIM then Mi.R.ok (Mi.W.rep d.shown) h else .bad
    | none => .bad) = _
  rw [toD_wD h w DEP e d]
  have hl : (wD w).shown.length ≤ 15728653 := shown_le13 (by
    unfold PyData.layable0
    rw [b, decide_eq_true (show (wD w).depth ≤ 64 by omega), decide_eq_true (show (wD w).weight ≤ 2 ^ 20 by omega)]
    rfl) c
  exact if_pos ⟨a, Nat.le_trans hl (by decide)⟩
theorem rep_ne {h : Hpa} {a b : Str} : cmpW h .ne (.rep a) (.rep b) = some (!decide (a = b)) := rfl
theorem rep_eq {h : Hpa} {a b : Str} : cmpW h .eq (.rep a) (.rep b) = some (decide (a = b)) := rfl
end Lw

/-! Ll: loops and comprehensions by what was gone through. -/
namespace Lw
open PySem PySem.Spec PyProof.Rows L2 Mi
theorem loop_pre {α : Type} (f : α → Mi.W) (gs : List (Nat × List Mi.W)) (body : Mi.W → Mi.Env → Hpa → SR) (v : List α → Mi.Env) (h : List α → Hpa) (xs : List α) (ok : ∀ pre, okGs gs (h pre) = true)
    (hb : ∀ pre x post, xs = pre ++ x :: post → body (f x) (v pre) (h pre) = .nx (v (pre ++ [x])) (h (pre ++ [x]))) : loopL body gs (xs.map f) (v []) (h []) = .nx (v xs) (h xs) := by
  have go : ∀ (post pre : List α), xs = pre ++ post → loopL body gs (post.map f) (v pre) (h pre) = .nx (v xs) (h xs) := by
    intro post
    induction post with
    | nil =>
      intro pre e
      rw [List.append_nil] at e
      subst e
      show (if okGs gs (h xs) = true then SR.nx (v xs) (h xs) else .bad) = _
      rw [if_pos (ok xs)]
    | cons x post ih =>
      intro pre e
      show (if okGs gs (h pre) = true then (match body (f x) (v pre) (h pre) with
        | .nx v1 h1 => loopL body gs (post.map f) v1 h1
        | .ct v1 h1 => loopL body gs (post.map f) v1 h1
        | .bk v1 h1 => .nx v1 h1
        | r => r) else .bad) = _
      rw [if_pos (ok pre), hb pre x post e]
      exact ih (pre ++ [x]) (by rw [e]; simp)
  exact go xs [] rfl
theorem enum_idx {α : Type} (f : α → Mi.W) (xs : List α) : enumW (xs.map f) = xs.zipIdx.map fun p => .tup [.int (p.2 : Int), f p.1] := by
  apply List.ext_getElem?
  intro i
  unfold enumW pairs rngW
  rw [List.length_map]
  simp only [List.getElem?_map, List.getElem?_zipIdx]
  have : ((xs.length : Int) - 0).toNat = xs.length := by omega
  rw [this]
  by_cases hi : i < xs.length
  · simp [List.getElem?_zip_eq_some, hi, List.getElem?_eq_getElem, List.zip, List.getElem?_zipWith]
  · simp [hi, List.zip, List.getElem?_zipWith, List.getElem?_eq_none (Nat.le_of_not_lt hi)]
theorem zipIdx_split {α : Type} {xs : List α} {pre post : List (α × Nat)} {p : α × Nat} (e : xs.zipIdx = pre ++ p :: post) : p.2 = pre.length ∧ xs = pre.map (·.1) ++ p.1 :: post.map (·.1) := by
  have h1 : xs.zipIdx[pre.length]? = some p := by rw [e]; simp
  rw [List.getElem?_zipIdx] at h1
  refine ⟨?_, ?_⟩
  · cases q : xs[pre.length]? with
    | none => rw [q] at h1; cases h1
    | some x =>
      rw [q] at h1
      cases h1
      simp
  · have h2 : xs.zipIdx.map (·.1) = xs := by simp
    rw [← h2, e]
    simp
theorem loop_enum {α : Type} (f : α → Mi.W) (gs : List (Nat × List Mi.W)) (body : Mi.W → Mi.Env → Hpa → SR) (v : List α → Mi.Env) (h : List α → Hpa) (xs : List α) (ok : ∀ pre, okGs gs (h pre) = true)
    (hb : ∀ pre x post, xs = pre ++ x :: post → body (.tup [.int (pre.length : Int), f x]) (v pre) (h pre) = .nx (v (pre ++ [x])) (h (pre ++ [x]))) : loopL body gs (enumW (xs.map f)) (v []) (h []) = .nx (v xs) (h xs) := by
  have := loop_pre (fun (p : α × Nat) => Mi.W.tup [.int (p.2 : Int), f p.1]) gs body (fun pre => v (pre.map (·.1))) (fun pre => h (pre.map (·.1))) xs.zipIdx (fun pre => ok _) fun pre p post e => by
    obtain ⟨e1, e2⟩ := zipIdx_split e
    have q := hb (pre.map (·.1)) p.1 (post.map (·.1)) e2
    rw [List.length_map] at q
    rw [e1, List.map_append]
    exact q
  rw [← enum_idx] at this
  rw [show xs.zipIdx.map (·.1) = xs by simp] at this
  exact this
theorem loop_s {α σ : Type} (f : α → Mi.W) (gs : List (Nat × List Mi.W)) (body : Mi.W → Mi.Env → Hpa → SR) (v : List α → σ → Mi.Env) (h : List α → Hpa) (xs : List α) (ok : ∀ pre, okGs gs (h pre) = true)
    (hb : ∀ pre x post s, xs = pre ++ x :: post → ∃ s', body (f x) (v pre s) (h pre) = .nx (v (pre ++ [x]) s') (h (pre ++ [x]))) (s : σ) : ∃ s', loopL body gs (xs.map f) (v [] s) (h []) = .nx (v xs s') (h xs) := by
  have go : ∀ (post pre : List α) (s : σ), xs = pre ++ post → ∃ s', loopL body gs (post.map f) (v pre s) (h pre) = .nx (v xs s') (h xs) := by
    intro post
    induction post with
    | nil =>
      intro pre s e
      rw [List.append_nil] at e
      subst e
      refine ⟨s, ?_⟩
      show (if okGs gs (h xs) = true then SR.nx (v xs s) (h xs) else .bad) = _
      rw [if_pos (ok xs)]
    | cons x post ih =>
      intro pre s e
      obtain ⟨s1, e1⟩ := hb pre x post s e
      obtain ⟨s2, e2⟩ := ih (pre ++ [x]) s1 (by rw [e]; simp)
      refine ⟨s2, ?_⟩
      show (if okGs gs (h pre) = true then (match body (f x) (v pre s) (h pre) with
        | .nx v1 h1 => loopL body gs (post.map f) v1 h1
        | .ct v1 h1 => loopL body gs (post.map f) v1 h1
        | .bk v1 h1 => .nx v1 h1
        | r => r) else .bad) = _
      rw [if_pos (ok pre), e1]
      exact e2
  exact go xs [] s rfl
theorem loop_es {α σ : Type} (f : α → Mi.W) (gs : List (Nat × List Mi.W)) (body : Mi.W → Mi.Env → Hpa → SR) (v : List α → σ → Mi.Env) (h : List α → Hpa) (xs : List α) (ok : ∀ pre, okGs gs (h pre) = true)
    (hb : ∀ pre x post s, xs = pre ++ x :: post → ∃ s', body (.tup [.int (pre.length : Int), f x]) (v pre s) (h pre) = .nx (v (pre ++ [x]) s') (h (pre ++ [x]))) (s : σ) : ∃ s', loopL body gs (enumW (xs.map f)) (v [] s) (h []) = .nx (v xs s') (h xs) := by
  have := loop_s (fun (p : α × Nat) => Mi.W.tup [.int (p.2 : Int), f p.1]) gs body (fun pre => v (pre.map (·.1))) (fun pre => h (pre.map (·.1))) xs.zipIdx (fun pre => ok _) (fun pre p post s e => by
    obtain ⟨e1, e2⟩ := zipIdx_split e
    have q := hb (pre.map (·.1)) p.1 (post.map (·.1)) s e2
    rw [List.length_map] at q
    rw [e1, List.map_append]
    exact q) s
  rw [← enum_idx] at this
  rw [show xs.zipIdx.map (·.1) = xs by simp] at this
  exact this
theorem comp_map {α : Type} (f g : α → Mi.W) (body : Mi.W → Hpa → Mi.R (Option Mi.W)) (gs : List (Nat × List Mi.W)) (h : Hpa) (ok : okGs gs h = true) : ∀ (xs : List α), (∀ x ∈ xs, body (f x) h = .ok (some (g x)) h) → compL body gs (xs.map f) h = .ok (xs.map g) h
  | [], _ => by
    show (if okGs gs h = true then Mi.R.ok [] h else .bad) = _
    rw [if_pos ok]
    rfl
  | x :: xs, k => by
    have ih := comp_map f g body gs h ok xs fun y hy => k y (List.mem_cons_of_mem _ hy)
    show (if okGs gs h = true then ((body (f x) h).bind fun o h1 => (compL body gs (xs.map f) h1).bind fun ys h2 => .ok (match o with
      | some y => y :: ys
      | none => ys) h2) else .bad) = _
    rw [if_pos ok, k x List.mem_cons_self]
    show ((compL body gs (xs.map f) h).bind fun ys h2 => .ok (g x :: ys) h2) = _
    rw [ih]
    rfl
theorem comp_filter {α : Type} (f g : α → Mi.W) (p : α → Bool) (body : Mi.W → Hpa → Mi.R (Option Mi.W)) (gs : List (Nat × List Mi.W)) (h : Hpa) (ok : okGs gs h = true) : ∀ (xs : List α), (∀ x ∈ xs, body (f x) h = .ok (if p x = true then some (g x) else none) h) → compL body gs (xs.map f) h = .ok ((xs.filter p).map g) h
  | [], _ => by
    show (if okGs gs h = true then Mi.R.ok [] h else .bad) = _
    rw [if_pos ok]
    rfl
  | x :: xs, k => by
    have ih := comp_filter f g p body gs h ok xs fun y hy => k y (List.mem_cons_of_mem _ hy)
    show (if okGs gs h = true then ((body (f x) h).bind fun o h1 => (compL body gs (xs.map f) h1).bind fun ys h2 => .ok (match o with
      | some y => y :: ys
      | none => ys) h2) else .bad) = _
    rw [if_pos ok, k x List.mem_cons_self]
    show ((compL body gs (xs.map f) h).bind fun ys h2 => .ok (match (if p x = true then some (g x) else none) with
      | some y => y :: ys
      | none => ys) h2) = _
    rw [ih, List.filter_cons]
    cases p x <;> rfl
theorem okGs_nil {h : Hpa} : okGs [] h = true := rfl
theorem okGs_at {h : Hpa} {n : Nat} {xs : List Mi.W} (e : h[n]? = some (.lst xs)) : okGs [(n, xs)] h = true := by
  show (okG (some n) xs h && true) = true
  unfold okG
  dsimp only
  rw [e]
  dsimp only
  rw [W.sames_refl]
  rfl
theorem noEx_okk {α : Type} (a : α) (h : Hpa) : noEx (Mi.R.ok a h) = .ok a h := rfl
/-- a list of ours that grows -/
theorem app_ok {h : Hpa} {n lo : Nat} {xs : List Mi.W} {w : Mi.W} (e : h[n]? = some (.lst xs)) (l : xs.length < LIM) (p : w.pure = true) : mthW lo h .append (.ref n) [w] = .ok .non (h.set n (.lst (xs ++ [w]))) := by
  have ok : okSt lo n w = true := by unfold okSt; rw [p]; simp
  unfold mthW
  dsimp only
  rw [e]
  dsimp only
  rw [if_pos ⟨l, ok⟩]
theorem app_pre {h : Hpa} {n : Nat} {xs : List Mi.W} (e : h[n]? = some (.lst xs)) : mPre h .append (.ref n) = true := by
  unfold mPre
  dsimp only
  rw [e]
theorem asQ_ref {h : Hpa} {n : Nat} {xs : List Mi.W} (e : h[n]? = some (.lst xs)) : asQ h (.ref n) = some xs := by
  simp [asQ, asL, e]
theorem call_eq {P : Pg} {i n lo : Nat} {ws : List Mi.W} {h h' : Hpa} {w : Mi.W} {d : Fd} (x : Hpa) (hd : P.fd i = some d) (hk : d.keep = false) (e : ws.length = d.np) (hp : w.pure = true) (k : Kp h h')
    (E : exSs ⟨callF P n h.length, h.length, P.cst⟩ d.body (ws.map some ++ List.replicate (d.ns - d.np) none) h = .rt w (h' ++ x)) : callF P (n + 1) lo i ws h = .ok w h' := by
  rw [callF_fin hd hk e E]
  exact fin_kp k x hp
theorem eq_i {h : Hpa} {i j : Int} : cmpW h .eq (.int i) (.int j) = some (decide (i = j)) := by
  show some (PyData.eqv (.int i) (.int j)) = _
  congr 1
theorem ne_i {h : Hpa} {i j : Int} : cmpW h .ne (.int i) (.int j) = some (!decide (i = j)) := by
  show some (!PyData.eqv (.int i) (.int j)) = _
  congr 1
theorem lt_i {h : Hpa} {i j : Int} : cmpW h .lt (.int i) (.int j) = some (decide (i < j)) := rfl
theorem le_i {h : Hpa} {i j : Int} : cmpW h .le (.int i) (.int j) = some (decide (i ≤ j)) := rfl
theorem gt_i {h : Hpa} {i j : Int} : cmpW h .gt (.int i) (.int j) = some (decide (j < i)) := rfl
theorem ge_i {h : Hpa} {i j : Int} : cmpW h .ge (.int i) (.int j) = some (decide (j ≤ i)) := rfl
theorem eq_s {h : Hpa} {a b : Str} : cmpW h .eq (.str a) (.str b) = some (PyData.eqv (.str a) (.str b)) := rfl
theorem ne_s {h : Hpa} {a b : Str} : cmpW h .ne (.str a) (.str b) = some (!PyData.eqv (.str a) (.str b)) := rfl
theorem eqv_s {a b : Str} : PyData.eqv (.str a) (.str b) = decide (a = b) := by
  show (a == b) = _
  by_cases e : a = b
  · subst e
    simp
  · rw [decide_eq_false e]
    exact beq_eq_false_iff_ne.mpr e
/-- a loop that draws -/
theorem loop_m {α σ : Type} (f : α → Mi.W) (c : Nat) (body : Mi.W → Mi.Env → Hpa → SR) (v : σ → Mi.Env) (hb : ∀ x s h b, Mok h (b + c) → ∃ s' h', body (f x) (v s) h = .nx (v s') h' ∧ Mok h' b ∧ Kp h h') :
    ∀ (xs : List α) (s : σ) (h : Hpa) (b : Nat), Mok h (b + xs.length * c) → ∃ s' h', loopL body [] (xs.map f) (v s) h = .nx (v s') h' ∧ Mok h' b ∧ Kp h h'
  | [], s, h, b, m => ⟨s, h, rfl, m.le (by simp), .refl⟩
  | x :: xs, s, h, b, m => by
    rw [List.length_cons, Nat.succ_mul, ← Nat.add_assoc] at m
    obtain ⟨s1, h1, e1, m1, k1⟩ := hb x s h _ m
    obtain ⟨s2, h2, e2, m2, k2⟩ := loop_m f c body v hb xs s1 h1 b m1
    refine ⟨s2, h2, ?_, m2, k1.trans k2⟩
    show (match body (f x) (v s) h with
      | .nx v1 h1 => loopL body [] (xs.map f) v1 h1
      | .ct v1 h1 => loopL body [] (xs.map f) v1 h1
      | .bk v1 h1 => .nx v1 h1
      | r => r) = _
    rw [e1]
    exact e2
theorem rng_map (a b : Int) : rngW a b = (List.range (b - a).toNat).map fun (k : Nat) => Mi.W.int (a + (k : Int)) := rfl
end Lw

namespace Lk40
open PySem PySem.Spec PyProof.Rows L2 Mi
def top (i : Nat) : Stmt := PySem.Challenge.pw_weavehouse_k40_rows_there_and_back.main.body.getD i (.Pass ⟨0, 0, 0, 0⟩)
def CS : List (Nat × Str × W) := [(0, "FIGURES", (.str "0123456789")), (1, "MOST_FIGURES", (.int 2)), (2, "MOST_HAND", (.int 4)), (3, "MOST_TURNS", (.int 14)), (4, "MOST_AT", (.int 5)), (5, "MOST_PLACE", (.int 12)), (6, "MOST_PLACES", (.int 91)), (7, "EVENTS", (.dkw [.inr "short", .inr "event", .inr "link"] [(.int 0), (.int 1), (.int 2)]))]
def GM : Gm := ⟨[(0, "weaving_text"), (1, "event_text"), (2, "paper_text"), (3, "number_up_to"), (4, "event_in"), (5, "words_of"), (6, "numbers_in"), (7, "events_in"), (8, "weaving_in"), (9, "paper_in"), (10, "_law_mixed"), (11, "_law_folded"), (12, "_law_draw"), (13, "_law_begun"), (14, "_law_event"), (15, "_law_row"), (16, "_law_papers"), (17, "_law_right"), (18, "law")], [(0, "FIGURES"), (1, "MOST_FIGURES"), (2, "MOST_HAND"), (3, "MOST_TURNS"), (4, "MOST_AT"), (5, "MOST_PLACE"), (6, "MOST_PLACES"), (7, "EVENTS")]⟩
def fd_weaving_text : Fd := ⟨1, 2, false, (.cons (.ret (.ite (.cmp .ne (.var 0) (.tup .nil)) (.mth .join (.str " ") (.cons (.comp false (.blt .str_ (.cons (.var 1) .nil)) (.nm 1) (.of (.var 0)) (.bl true)) .nil)) (.str "-")))
.nil)⟩
def nn_weaving_text : List Str := ["weaving", "hand"]
def fd_event_text : Fd := ⟨1, 1, false, (.cons (.ret (.op .add (.op .add (.blt .str_ (.cons (.idx (.var 0) (.int 0)) .nil)) (.str ".")) (.blt .str_ (.cons (.idx (.var 0) (.int 1)) .nil))))
.nil)⟩
def nn_event_text : List Str := ["event"]
def fd_paper_text : Fd := ⟨1, 3, false, (.cons (.ite (.cmp .eq (.idx (.var 0) (.int 0)) (.str "alike"))
(.cons (.ret (.mth .join (.str " ") (.cons (.op .add (.lst false (.cons (.str "alike") .nil)) (.comp false (.blt .str_ (.cons (.var 2) .nil)) (.nm 2) (.of (.idx (.var 0) (.int 1))) (.bl true))) .nil)))
.nil)
.nil)
(.cons (.ret (.mth .join (.str " ") (.cons (.op .add (.lst false (.cons (.idx (.var 0) (.int 0)) .nil)) (.comp false (.call 1 (.cons (.var 1) .nil)) (.nm 1) (.of (.slc (.var 0) (.int 1) .no)) (.bl true))) .nil)))
.nil))⟩
def nn_paper_text : List Str := ["paper", "event", "place"]
def fd_number_up_to : Fd := ⟨2, 3, false, (.cons (.ite (.or (.not (.chain .le .le (.int 1) (.blt .len (.cons (.var 0) .nil)) (.cst 1))) (.one (.not (.blt .all_ (.cons (.comp false (.cmp .isin (.var 2) (.cst 0)) (.nm 2) (.of (.var 0)) (.bl true)) .nil)))))
(.cons (.ret .non)
.nil)
.nil)
(.cons (.ite (.and (.mth .startswith (.var 0) (.cons (.str "0") .nil)) (.one (.cmp .ne (.var 0) (.str "0"))))
(.cons (.ret .non)
.nil)
.nil)
(.cons (.ret (.ite (.cmp .le (.blt .int_ (.cons (.var 0) .nil)) (.var 1)) (.blt .int_ (.cons (.var 0) .nil)) .non))
.nil)))⟩
def nn_number_up_to : List Str := ["word", "most", "sign"]
def fd_event_in : Fd := ⟨1, 5, false, (.cons (.asg (.tp [2, 3, 4]) (.mth .partition (.var 0) (.cons (.str ".") .nil)))
(.cons (.asg (.nm 1) (.tup (.cons (.call 3 (.cons (.var 2) (.cons (.cst 2) .nil))) (.cons (.call 3 (.cons (.var 4) (.cons (.cst 4) .nil))) .nil))))
(.cons (.ret (.ite (.or (.cmp .eq (.var 3) (.str "")) (.one (.cmp .isin .non (.var 1)))) .non (.var 1)))
.nil)))⟩
def nn_event_in : List Str := ["word", "event", "hand", "sign", "at"]
def fd_words_of : Fd := ⟨1, 2, false, (.cons (.ite (.not (.inst .str (.var 0)))
(.cons .nope
.nil)
.nil)
(.cons (.asg (.nm 1) (.mth .split (.var 0) (.cons (.str " ") .nil)))
(.cons (.ite (.cmp .isin (.str "") (.var 1))
(.cons .nope
.nil)
.nil)
(.cons (.ret (.var 1))
.nil))))⟩
def nn_words_of : List Str := ["text", "words"]
def bd_numbers_in_1 : Ss := (.cons (.asg (.nm 7) (.call 3 (.cons (.var 6) (.cons (.var 2) .nil))))
(.cons (.ite (.or (.isN (.var 7)) (.one (.cmp .eq (.var 5) (.var 3))))
(.cons .nope
.nil)
.nil)
(.cons (.expr (.mth .append (.var 4) (.cons (.var 7) .nil)))
.nil)))
def st_numbers_in_1 : S := .loop (.tp [5, 6]) (.enm (.var 0)) bd_numbers_in_1
def fd_numbers_in : Fd := ⟨4, 8, false, (.cons (.asg (.nm 4) (.lst true .nil))
(.cons st_numbers_in_1
(.cons (.ret (.blt .tuple_ (.cons (.var 4) .nil)))
.nil)))⟩
def nn_numbers_in : List Str := ["words", "ahead", "most", "many", "found", "place", "word", "number"]
def bd_events_in_1 : Ss := (.cons (.asg (.nm 5) (.call 4 (.cons (.var 4) .nil)))
(.cons (.ite (.or (.isN (.var 5)) (.one (.cmp .eq (.var 3) (.var 1))))
(.cons .nope
.nil)
.nil)
(.cons (.expr (.mth .append (.var 2) (.cons (.var 5) .nil)))
.nil)))
def st_events_in_1 : S := .loop (.tp [3, 4]) (.enm (.var 0)) bd_events_in_1
def fd_events_in : Fd := ⟨2, 6, false, (.cons (.asg (.nm 2) (.lst true .nil))
(.cons st_events_in_1
(.cons (.ite (.cmp .lt (.blt .len (.cons (.var 2) .nil)) (.var 1))
(.cons .nope
.nil)
.nil)
(.cons (.ret (.blt .tuple_ (.cons (.var 2) .nil)))
.nil))))⟩
def nn_events_in : List Str := ["words", "many", "found", "place", "word", "event"]
def fd_weaving_in : Fd := ⟨1, 2, false, (.cons (.asg (.nm 1) (.call 5 (.cons (.var 0) .nil)))
(.cons (.ret (.ite (.cmp .eq (.var 1) (.lst false (.cons (.str "-") .nil))) (.tup .nil) (.call 6 (.cons (.var 1) (.cons (.int 0) (.cons (.cst 2) (.cons (.cst 3) .nil)))))))
.nil))⟩
def nn_weaving_in : List Str := ["text", "words"]
def fd_paper_in : Fd := ⟨1, 2, false, (.cons (.asg (.nm 1) (.call 5 (.cons (.var 0) .nil)))
(.cons (.ite (.cmp .eq (.idx (.var 1) (.int 0)) (.str "alike"))
(.cons (.ret (.tup (.cons (.str "alike") (.cons (.call 6 (.cons (.slc (.var 1) (.int 1) .no) (.cons (.int 1) (.cons (.cst 5) (.cons (.cst 6) .nil))))) .nil))))
.nil)
.nil)
(.cons (.ite (.cmp .notin (.idx (.var 1) (.int 0)) (.cst 7))
(.cons .nope
.nil)
.nil)
(.cons (.ret (.op .add (.tup (.cons (.idx (.var 1) (.int 0)) .nil)) (.call 7 (.cons (.slc (.var 1) (.int 1) .no) (.cons (.idx (.cst 7) (.idx (.var 1) (.int 0))) .nil)))))
.nil))))⟩
def nn_paper_in : List Str := ["text", "words"]
def fd__law_mixed : Fd := ⟨2, 3, false, (.cons (.asg (.nm 2) (.op .add (.op .add (.op .mod (.op .mul (.op .mul (.var 0) (.op .add (.int 1) (.op .mul (.int 2) (.var 1)))) (.int 48271)) (.int 2147483647)) (.op .mul (.op .mul (.int 7919) (.var 1)) (.var 1))) (.op .mul (.int 104729) (.var 1))))
(.cons (.ret (.op .fdiv (.op .mod (.op .mul (.var 2) (.int 69621)) (.int 2147483629)) (.int 7)))
.nil))⟩
def nn__law_mixed : List Str := ["_law_cell", "_law_k", "_law_number"]
def bd__law_folded_1 : Ss := (.cons (.asgSub (.var 1) (.var 2) (.op .mod (.op .add (.idx (.var 1) (.var 2)) (.op .mul (.idx (.var 1) (.op .sub (.var 2) (.int 1))) (.int 16807))) (.int 2147483647)))
.nil)
def st__law_folded_1 : S := .loop (.nm 2) (.rng2 (.int 1) (.int 64)) bd__law_folded_1
def bd__law_folded_2 : Ss := (.cons (.asgSub (.var 1) (.op .mod (.var 2) (.int 64)) (.op .mod (.op .add (.op .mul (.idx (.var 1) (.op .mod (.var 2) (.int 64))) (.int 48271)) (.var 3)) (.int 2147483647)))
.nil)
def st__law_folded_2 : S := .loop (.tp [2, 3]) (.enm (.var 0)) bd__law_folded_2
def fd__law_folded : Fd := ⟨1, 4, false, (.cons (.asg (.nm 1) (.comp true (.op .add (.int 17) (.var 2)) (.nm 2) (.rng1 (.int 64)) (.bl true)))
(.cons st__law_folded_2
(.cons st__law_folded_1
(.cons (.ret (.var 1))
.nil))))⟩
def nn__law_folded : List Str := ["_law_script", "_law_found", "_law_k", "_law_cell"]
def fd__law_draw : Fd := ⟨2, 5, false, (.cons (.asg (.nm 2) (.idx (.var 0) (.str "at")))
(.cons (.asgSub (.var 0) (.str "at") (.op .add (.var 2) (.int 1)))
(.cons (.ite (.cmp .ne (.idx (.var 0) (.str "left")) (.lst false .nil))
(.cons (.asg (.nm 3) (.op .mod (.var 2) (.blt .len (.cons (.idx (.var 0) (.str "left")) .nil))))
(.cons (.asg (.nm 4) (.idx (.idx (.var 0) (.str "left")) (.var 3)))
(.cons (.ite (.cmp .gt (.var 4) (.int 0))
(.cons (.asgSub (.idx (.var 0) (.str "left")) (.var 3) (.op .fdiv (.var 4) (.var 1)))
(.cons (.ret (.op .mod (.var 4) (.var 1)))
.nil))
.nil)
.nil)))
.nil)
(.cons (.ret (.op .mod (.call 10 (.cons (.call 10 (.cons (.op .add (.idx (.idx (.var 0) (.str "cells")) (.op .mod (.var 2) (.int 64))) (.op .mul (.int 31) (.op .fdiv (.var 2) (.int 64)))) (.cons (.var 2) .nil))) (.cons (.op .add (.var 2) (.int 7)) .nil))) (.var 1)))
.nil))))⟩
def nn__law_draw : List Str := ["_law_m", "_law_many", "_law_k", "_law_at", "_law_cell"]
def fd__law_begun : Fd := ⟨1, 3, true, (.cons (.asg (.nm 1) (.dsp true [.inr "cells", .inr "left", .inr "at"] (.cons (.call 11 (.cons (.var 0) .nil)) (.cons (.lst false .nil) (.cons (.int 0) .nil)))))
(.cons (.asgSub (.var 1) (.str "left") (.comp true (.ite (.cmp .ge (.var 2) (.op .pow (.int 10) (.int 18))) (.var 2) (.int 0)) (.nm 2) (.of (.var 0)) (.bl true)))
(.cons (.ret (.var 1))
.nil)))⟩
def nn__law_begun : List Str := ["_law_script", "_law_m", "_law_cell"]
def fd__law_event : Fd := ⟨1, 1, false, (.cons (.ret (.tup (.cons (.call 12 (.cons (.var 0) (.cons (.int 5) .nil))) (.cons (.call 12 (.cons (.var 0) (.cons (.int 6) .nil))) .nil))))
.nil)⟩
def nn__law_event : List Str := ["_law_m"]
def fd__law_row : Fd := ⟨1, 4, false, (.cons (.ite (.cmp .eq (.idx (.var 0) (.int 0)) (.str "alike"))
(.cons (.ret (.op .add (.str "alike") (.mth .join (.str "") (.cons (.comp false (.op .add (.str " ") (.blt .str_ (.cons (.var 1) .nil))) (.nm 1) (.of (.idx (.var 0) (.int 1))) (.bl true)) .nil))))
.nil)
.nil)
(.cons (.ret (.op .add (.idx (.var 0) (.int 0)) (.mth .join (.str "") (.cons (.comp false (.op .add (.op .add (.op .add (.str " ") (.blt .str_ (.cons (.var 2) .nil))) (.str ".")) (.blt .str_ (.cons (.var 3) .nil))) (.tp [2, 3]) (.of (.slc (.var 0) (.int 1) .no)) (.bl true)) .nil))))
.nil))⟩
def nn__law_row : List Str := ["_law_sheet", "_law_place", "_law_hand", "_law_at"]
def fd__law_papers : Fd := ⟨1, 4, false, (.cons (.asg (.nm 1) (.idx (.lst false (.cons (.int 0) (.cons (.int 1) (.cons (.int 2) (.cons (.int 5) (.cons (.int 30) (.cons (.int 91) .nil))))))) (.call 12 (.cons (.var 0) (.cons (.int 6) .nil)))))
(.cons (.asg (.nm 2) (.lst false (.cons (.tup (.cons (.str "alike") (.cons (.blt .tuple_ (.cons (.comp false (.call 12 (.cons (.var 0) (.cons (.int 13) .nil))) (.nm 3) (.rng1 (.var 1)) (.bl true)) .nil)) .nil))) (.cons (.tup (.cons (.str "short") .nil)) (.cons (.tup (.cons (.str "event") (.cons (.call 14 (.cons (.var 0) .nil)) .nil))) .nil)))))
(.cons (.ret (.op .add (.var 2) (.lst false (.cons (.tup (.cons (.str "link") (.cons (.call 14 (.cons (.var 0) .nil)) (.cons (.call 14 (.cons (.var 0) .nil)) .nil)))) .nil))))
.nil)))⟩
def nn__law_papers : List Str := ["_law_m", "_law_many", "_law_some", "_law_k"]
def bd__law_right_1 : Ss := (.cons (.ite (.cmp .ne (.call 0 (.cons (.var 0) .nil)) (.ite (.cmp .ne (.var 0) (.tup .nil)) (.var 2) (.str "-")))
(.cons (.ret (.bl false))
.nil)
.nil)
(.cons (.ite (.cmp .ne (.blt .repr_ (.cons (.call 8 (.cons (.call 0 (.cons (.var 0) .nil)) .nil)) .nil)) (.blt .repr_ (.cons (.var 0) .nil)))
(.cons (.ret (.bl false))
.nil)
.nil)
(.cons (.ite (.cmp .ne (.comp false (.call 2 (.cons (.var 5) .nil)) (.nm 5) (.of (.var 1)) (.bl true)) (.comp false (.call 15 (.cons (.var 5) .nil)) (.nm 5) (.of (.var 1)) (.bl true)))
(.cons (.ret (.bl false))
.nil)
.nil)
(.cons (.ite (.cmp .ne (.blt .repr_ (.cons (.comp false (.call 9 (.cons (.call 15 (.cons (.var 5) .nil)) .nil)) (.nm 5) (.of (.var 1)) (.bl true)) .nil)) (.blt .repr_ (.cons (.var 1) .nil)))
(.cons (.ret (.bl false))
.nil)
.nil)
.nil))))
def st__law_right_1 : S := .loop (.nm 3) (.rng1 (.int 2)) bd__law_right_1
def fd__law_right : Fd := ⟨2, 6, false, (.cons (.asg (.nm 2) (.slc (.mth .join (.str "") (.cons (.comp false (.op .add (.str " ") (.blt .str_ (.cons (.var 4) .nil))) (.nm 4) (.of (.var 0)) (.bl true)) .nil)) (.int 1) .no))
(.cons st__law_right_1
(.cons (.ret (.bl true))
.nil)))⟩
def nn__law_right : List Str := ["_law_weaving", "_law_papers_here", "_law_text", "_law_turn", "_law_hand", "_law_sheet"]
def bd_law_1 : Ss := (.cons (.ite (.not (.call 17 (.cons (.blt .tuple_ (.cons (.comp false (.call 12 (.cons (.var 1) (.cons (.int 5) .nil))) (.nm 4) (.rng1 (.call 12 (.cons (.var 1) (.cons (.int 15) .nil)))) (.bl true)) .nil)) (.cons (.call 16 (.cons (.var 1) .nil)) .nil))))
(.cons (.ret (.bl false))
.nil)
.nil)
.nil)
def st_law_1 : S := .loop (.nm 3) (.rng1 (.int 6)) bd_law_1
def fd_law : Fd := ⟨1, 5, false, (.cons (.asg (.nm 1) (.call 13 (.cons (.var 0) .nil)))
(.cons (.asg (.nm 2) (.lst false (.cons (.tup (.cons (.str "alike") (.cons (.tup .nil) .nil))) (.cons (.tup (.cons (.str "alike") (.cons (.op .mul (.tup (.cons (.int 12) .nil)) (.int 91)) .nil))) (.cons (.tup (.cons (.str "link") (.cons (.tup (.cons (.int 0) (.cons (.int 0) .nil))) (.cons (.tup (.cons (.int 4) (.cons (.int 5) .nil))) .nil)))) .nil)))))
(.cons (.asg (.nm 2) (.op .add (.var 2) (.lst false (.cons (.tup (.cons (.str "event") (.cons (.tup (.cons (.int 4) (.cons (.int 0) .nil))) .nil))) (.cons (.tup (.cons (.str "short") .nil)) .nil)))))
(.cons (.ite (.or (.not (.call 17 (.cons (.tup .nil) (.cons (.var 2) .nil)))) (.one (.not (.call 17 (.cons (.op .add (.op .mul (.tup (.cons (.int 4) (.cons (.int 0) (.cons (.int 1) (.cons (.int 2) (.cons (.int 3) .nil)))))) (.int 2)) (.tup (.cons (.int 4) (.cons (.int 4) (.cons (.int 4) (.cons (.int 0) .nil)))))) (.cons (.rev (.var 2)) .nil))))))
(.cons (.ret (.bl false))
.nil)
.nil)
(.cons st_law_1
(.cons (.ret (.bl true))
.nil))))))⟩
def nn_law : List Str := ["_law_script", "_law_m", "_law_known", "_law_turn", "_law_k"]
def FDS : List (Nat × Fd) := [(0, fd_weaving_text), (1, fd_event_text), (2, fd_paper_text), (3, fd_number_up_to), (4, fd_event_in), (5, fd_words_of), (6, fd_numbers_in), (7, fd_events_in), (8, fd_weaving_in), (9, fd_paper_in), (10, fd__law_mixed), (11, fd__law_folded), (12, fd__law_draw), (13, fd__law_begun), (14, fd__law_event), (15, fd__law_row), (16, fd__law_papers), (17, fd__law_right), (18, fd_law)]
def PR : Pg := ⟨fun i => FDS.lookup i, fun k => (CS.lookup k).map (·.2)⟩
theorem sc_weaving_text : FnScope nn_weaving_text ["weaving"] (defScope (top 1)) := ⟨rfl, rfl, rfl, by decide +kernel, rfl, by decide +kernel, by decide +kernel⟩
theorem ck_weaving_text : ckSs GM nn_weaving_text (defScope (top 1)) fd_weaving_text.body (defBody (top 1)) = true := by decide +kernel
theorem sc_event_text : FnScope nn_event_text ["event"] (defScope (top 2)) := ⟨rfl, rfl, rfl, by decide +kernel, rfl, by decide +kernel, by decide +kernel⟩
theorem ck_event_text : ckSs GM nn_event_text (defScope (top 2)) fd_event_text.body (defBody (top 2)) = true := by decide +kernel
theorem sc_paper_text : FnScope nn_paper_text ["paper"] (defScope (top 3)) := ⟨rfl, rfl, rfl, by decide +kernel, rfl, by decide +kernel, by decide +kernel⟩
theorem ck_paper_text : ckSs GM nn_paper_text (defScope (top 3)) fd_paper_text.body (defBody (top 3)) = true := by decide +kernel
theorem sc_number_up_to : FnScope nn_number_up_to ["word", "most"] (defScope (top 16)) := ⟨rfl, rfl, rfl, by decide +kernel, rfl, by decide +kernel, by decide +kernel⟩
theorem ck_number_up_to : ckSs GM nn_number_up_to (defScope (top 16)) fd_number_up_to.body (defBody (top 16)) = true := by decide +kernel
theorem sc_event_in : FnScope nn_event_in ["word"] (defScope (top 17)) := ⟨rfl, rfl, rfl, by decide +kernel, rfl, by decide +kernel, by decide +kernel⟩
theorem ck_event_in : ckSs GM nn_event_in (defScope (top 17)) fd_event_in.body (defBody (top 17)) = true := by decide +kernel
theorem sc_words_of : FnScope nn_words_of ["text"] (defScope (top 18)) := ⟨rfl, rfl, rfl, by decide +kernel, rfl, by decide +kernel, by decide +kernel⟩
theorem ck_words_of : ckSs GM nn_words_of (defScope (top 18)) fd_words_of.body (defBody (top 18)) = true := by decide +kernel
theorem sc_numbers_in : FnScope nn_numbers_in ["words", "ahead", "most", "many"] (defScope (top 19)) := ⟨rfl, rfl, rfl, by decide +kernel, rfl, by decide +kernel, by decide +kernel⟩
theorem ck_numbers_in : ckSs GM nn_numbers_in (defScope (top 19)) fd_numbers_in.body (defBody (top 19)) = true := by decide +kernel
theorem sc_events_in : FnScope nn_events_in ["words", "many"] (defScope (top 20)) := ⟨rfl, rfl, rfl, by decide +kernel, rfl, by decide +kernel, by decide +kernel⟩
theorem ck_events_in : ckSs GM nn_events_in (defScope (top 20)) fd_events_in.body (defBody (top 20)) = true := by decide +kernel
theorem sc_weaving_in : FnScope nn_weaving_in ["text"] (defScope (top 21)) := ⟨rfl, rfl, rfl, by decide +kernel, rfl, by decide +kernel, by decide +kernel⟩
theorem ck_weaving_in : ckSs GM nn_weaving_in (defScope (top 21)) fd_weaving_in.body (defBody (top 21)) = true := by decide +kernel
theorem sc_paper_in : FnScope nn_paper_in ["text"] (defScope (top 22)) := ⟨rfl, rfl, rfl, by decide +kernel, rfl, by decide +kernel, by decide +kernel⟩
theorem ck_paper_in : ckSs GM nn_paper_in (defScope (top 22)) fd_paper_in.body (defBody (top 22)) = true := by decide +kernel
theorem sc__law_mixed : FnScope nn__law_mixed ["_law_cell", "_law_k"] (defScope (top 24)) := ⟨rfl, rfl, rfl, by decide +kernel, rfl, by decide +kernel, by decide +kernel⟩
theorem ck__law_mixed : ckSs GM nn__law_mixed (defScope (top 24)) fd__law_mixed.body (defBody (top 24)) = true := by decide +kernel
theorem sc__law_folded : FnScope nn__law_folded ["_law_script"] (defScope (top 25)) := ⟨rfl, rfl, rfl, by decide +kernel, rfl, by decide +kernel, by decide +kernel⟩
theorem ck__law_folded : ckSs GM nn__law_folded (defScope (top 25)) fd__law_folded.body (defBody (top 25)) = true := by decide +kernel
theorem sc__law_draw : FnScope nn__law_draw ["_law_m", "_law_many"] (defScope (top 26)) := ⟨rfl, rfl, rfl, by decide +kernel, rfl, by decide +kernel, by decide +kernel⟩
theorem ck__law_draw : ckSs GM nn__law_draw (defScope (top 26)) fd__law_draw.body (defBody (top 26)) = true := by decide +kernel
theorem sc__law_begun : FnScope nn__law_begun ["_law_script"] (defScope (top 27)) := ⟨rfl, rfl, rfl, by decide +kernel, rfl, by decide +kernel, by decide +kernel⟩
theorem ck__law_begun : ckSs GM nn__law_begun (defScope (top 27)) fd__law_begun.body (defBody (top 27)) = true := by decide +kernel
theorem sc__law_event : FnScope nn__law_event ["_law_m"] (defScope (top 28)) := ⟨rfl, rfl, rfl, by decide +kernel, rfl, by decide +kernel, by decide +kernel⟩
theorem ck__law_event : ckSs GM nn__law_event (defScope (top 28)) fd__law_event.body (defBody (top 28)) = true := by decide +kernel
theorem sc__law_row : FnScope nn__law_row ["_law_sheet"] (defScope (top 29)) := ⟨rfl, rfl, rfl, by decide +kernel, rfl, by decide +kernel, by decide +kernel⟩
theorem ck__law_row : ckSs GM nn__law_row (defScope (top 29)) fd__law_row.body (defBody (top 29)) = true := by decide +kernel
theorem sc__law_papers : FnScope nn__law_papers ["_law_m"] (defScope (top 30)) := ⟨rfl, rfl, rfl, by decide +kernel, rfl, by decide +kernel, by decide +kernel⟩
theorem ck__law_papers : ckSs GM nn__law_papers (defScope (top 30)) fd__law_papers.body (defBody (top 30)) = true := by decide +kernel
theorem sc__law_right : FnScope nn__law_right ["_law_weaving", "_law_papers_here"] (defScope (top 31)) := ⟨rfl, rfl, rfl, by decide +kernel, rfl, by decide +kernel, by decide +kernel⟩
theorem ck__law_right : ckSs GM nn__law_right (defScope (top 31)) fd__law_right.body (defBody (top 31)) = true := by decide +kernel
theorem sc_law : FnScope nn_law ["_law_script"] (defScope (top 32)) := ⟨rfl, rfl, rfl, by decide +kernel, rfl, by decide +kernel, by decide +kernel⟩
theorem ck_law : ckSs GM nn_law (defScope (top 32)) fd_law.body (defBody (top 32)) = true := by decide +kernel
def fa : List He.Fa := [.glo "weaving_text", .glo "event_text", .glo "paper_text", .glo "number_up_to", .glo "event_in", .glo "words_of", .glo "numbers_in", .glo "events_in", .glo "weaving_in", .glo "paper_in", .glo "_law_mixed", .glo "_law_folded", .glo "_law_draw", .glo "_law_begun", .glo "_law_event", .glo "_law_row", .glo "_law_papers", .glo "_law_right", .glo "law"]
def fb : List He.Fa := bNames.map .free
def fn : List He.DefD := [dOf "weaving_text" (top 1), dOf "event_text" (top 2), dOf "paper_text" (top 3), dOf "number_up_to" (top 16), dOf "event_in" (top 17), dOf "words_of" (top 18), dOf "numbers_in" (top 19), dOf "events_in" (top 20), dOf "weaving_in" (top 21), dOf "paper_in" (top 22), dOf "_law_mixed" (top 24), dOf "_law_folded" (top 25), dOf "_law_draw" (top 26), dOf "_law_begun" (top 27), dOf "_law_event" (top 28), dOf "_law_row" (top 29), dOf "_law_papers" (top 30), dOf "_law_right" (top 31), dOf "law" (top 32)]
def ts : List He.Tab := [((fun K => He.ga K "EVENTS"), ["short", "event", "link"])]
def cs : List (Str × W) := CS.map (·.2)
def loose : List Str := ["weaving_text", "event_text", "paper_text", "WeaveError", "BadRow", "FIGURES", "MOST_FIGURES", "MOST_HAND", "MOST_TURNS", "MOST_AT", "MOST_PLACE", "MOST_PLACES", "EVENTS", "number_up_to", "event_in", "words_of", "numbers_in", "events_in", "weaving_in", "paper_in", "_law_mixed", "_law_folded", "_law_draw", "_law_begun", "_law_event", "_law_row", "_law_papers", "_law_right"]
def lawAt : Nat := 32
def lawNo : Nat := 18
theorem prog {K : PySem.W.Frag} {w : World} {P : Program} {h : Heap} {mg : Str → Option Value} (X : K.In h) (Gn : h.Ns mainGlobals mg) (c : SaysM (fa ++ fb) fn ts cs w K) : Prog P w K mg GM PR := by
  refine prog_of X Gn c ⟨def_is X Gn c (i := 0) (j := 0) (k := 0) rfl rfl sc_weaving_text (fun _ _ _ _ _ _ us hl => match us, hl with | [_], _ => rfl) rfl rfl rfl ck_weaving_text,
    def_is X Gn c (i := 1) (j := 1) (k := 1) rfl rfl sc_event_text (fun _ _ _ _ _ _ us hl => match us, hl with | [_], _ => rfl) rfl rfl rfl ck_event_text,
    def_is X Gn c (i := 2) (j := 2) (k := 2) rfl rfl sc_paper_text (fun _ _ _ _ _ _ us hl => match us, hl with | [_], _ => rfl) rfl rfl rfl ck_paper_text,
    def_is X Gn c (i := 3) (j := 3) (k := 3) rfl rfl sc_number_up_to (fun _ _ _ _ _ _ us hl => match us, hl with | [_, _], _ => rfl) rfl rfl rfl ck_number_up_to,
    def_is X Gn c (i := 4) (j := 4) (k := 4) rfl rfl sc_event_in (fun _ _ _ _ _ _ us hl => match us, hl with | [_], _ => rfl) rfl rfl rfl ck_event_in,
    def_is X Gn c (i := 5) (j := 5) (k := 5) rfl rfl sc_words_of (fun _ _ _ _ _ _ us hl => match us, hl with | [_], _ => rfl) rfl rfl rfl ck_words_of,
    def_is X Gn c (i := 6) (j := 6) (k := 6) rfl rfl sc_numbers_in (fun _ _ _ _ _ _ us hl => match us, hl with | [_, _, _, _], _ => rfl) rfl rfl rfl ck_numbers_in,
    def_is X Gn c (i := 7) (j := 7) (k := 7) rfl rfl sc_events_in (fun _ _ _ _ _ _ us hl => match us, hl with | [_, _], _ => rfl) rfl rfl rfl ck_events_in,
    def_is X Gn c (i := 8) (j := 8) (k := 8) rfl rfl sc_weaving_in (fun _ _ _ _ _ _ us hl => match us, hl with | [_], _ => rfl) rfl rfl rfl ck_weaving_in,
    def_is X Gn c (i := 9) (j := 9) (k := 9) rfl rfl sc_paper_in (fun _ _ _ _ _ _ us hl => match us, hl with | [_], _ => rfl) rfl rfl rfl ck_paper_in,
    def_is X Gn c (i := 10) (j := 10) (k := 10) rfl rfl sc__law_mixed (fun _ _ _ _ _ _ us hl => match us, hl with | [_, _], _ => rfl) rfl rfl rfl ck__law_mixed,
    def_is X Gn c (i := 11) (j := 11) (k := 11) rfl rfl sc__law_folded (fun _ _ _ _ _ _ us hl => match us, hl with | [_], _ => rfl) rfl rfl rfl ck__law_folded,
    def_is X Gn c (i := 12) (j := 12) (k := 12) rfl rfl sc__law_draw (fun _ _ _ _ _ _ us hl => match us, hl with | [_, _], _ => rfl) rfl rfl rfl ck__law_draw,
    def_is X Gn c (i := 13) (j := 13) (k := 13) rfl rfl sc__law_begun (fun _ _ _ _ _ _ us hl => match us, hl with | [_], _ => rfl) rfl rfl rfl ck__law_begun,
    def_is X Gn c (i := 14) (j := 14) (k := 14) rfl rfl sc__law_event (fun _ _ _ _ _ _ us hl => match us, hl with | [_], _ => rfl) rfl rfl rfl ck__law_event,
    def_is X Gn c (i := 15) (j := 15) (k := 15) rfl rfl sc__law_row (fun _ _ _ _ _ _ us hl => match us, hl with | [_], _ => rfl) rfl rfl rfl ck__law_row,
    def_is X Gn c (i := 16) (j := 16) (k := 16) rfl rfl sc__law_papers (fun _ _ _ _ _ _ us hl => match us, hl with | [_], _ => rfl) rfl rfl rfl ck__law_papers,
    def_is X Gn c (i := 17) (j := 17) (k := 17) rfl rfl sc__law_right (fun _ _ _ _ _ _ us hl => match us, hl with | [_, _], _ => rfl) rfl rfl rfl ck__law_right,
    def_is X Gn c (i := 18) (j := 18) (k := 18) rfl rfl sc_law (fun _ _ _ _ _ _ us hl => match us, hl with | [_], _ => rfl) rfl rfl rfl ck_law,
    trivial⟩ (fun k x v hx hv => ?_) (fun x ks ws hm => ?_) (fun x hx => List.mem_append_right _ (List.mem_map_of_mem hx))
  · exact cst_in (by rfl) hx hv
  · simp [cs, CS] at hm
    exact ⟨0, _, by rw [hm.1]; rfl⟩
abbrev hk : PySem.W.Hook := hookM 6 (fa ++ fb) fn ts cs
abbrev Row0 : PySem.W.OpenRow := PySem.W.OpenLaw.row PySem.Challenge.rw_weavehouse_k40_rows_there_and_back
end Lk40

namespace Lk40
open PySem PySem.Spec PyProof.Rows L2 Mi Lw TL
theorem has : Has PR := ⟨rfl, rfl, rfl, rfl⟩
def dS (i : Int) : Str := Str.ofString (toString i)
theorem str_i {i : Int} (h0 : 0 ≤ i) (h1 : i ≤ 12) (h : Hpa) : bltW h .str_ [.int i] = .ok (.str (dS i)) h := if_pos (Nat.lt_of_lt_of_le (int_show (by omega) (by omega)) (by decide))
theorem nu4 (n lo : Nat) (h : Hpa) {i : Int} (h0 : 0 ≤ i) (h1 : i ≤ 4) : callF PR (n + 1) lo 3 [.str (dS i), .int 4] h = .ok (.int i) h := by
  have : i = 0 ∨ i = 1 ∨ i = 2 ∨ i = 3 ∨ i = 4 := by omega
  rcases this with z | z | z | z | z <;> subst z <;> exact call_ret (d := fd_number_up_to) rfl rfl rfl rfl .refl (by kernel_rfl)
theorem nu5 (n lo : Nat) (h : Hpa) {i : Int} (h0 : 0 ≤ i) (h1 : i ≤ 5) : callF PR (n + 1) lo 3 [.str (dS i), .int 5] h = .ok (.int i) h := by
  have : i = 0 ∨ i = 1 ∨ i = 2 ∨ i = 3 ∨ i = 4 ∨ i = 5 := by omega
  rcases this with z | z | z | z | z | z <;> subst z <;> exact call_ret (d := fd_number_up_to) rfl rfl rfl rfl .refl (by kernel_rfl)
theorem nu12 (n lo : Nat) (h : Hpa) {i : Int} (h0 : 0 ≤ i) (h1 : i ≤ 12) : callF PR (n + 1) lo 3 [.str (dS i), .int 12] h = .ok (.int i) h := by
  have : i = 0 ∨ i = 1 ∨ i = 2 ∨ i = 3 ∨ i = 4 ∨ i = 5 ∨ i = 6 ∨ i = 7 ∨ i = 8 ∨ i = 9 ∨ i = 10 ∨ i = 11 ∨ i = 12 := by omega
  rcases this with z | z | z | z | z | z | z | z | z | z | z | z | z <;> subst z <;> exact call_ret (d := fd_number_up_to) rfl rfl rfl rfl .refl (by kernel_rfl)
/-- the signs of such numbers -/
theorem dS_ok : ∀ i : Fin 13, (dS (i.val : Int)).length ≤ 2 ∧ 1 ≤ (dS (i.val : Int)).length ∧ 32 ∉ tl (dS (i.val : Int)) ∧ 46 ∉ tl (dS (i.val : Int)) ∧ sOkB0 (dS (i.val : Int)) = true ∧ PyData.eqv (.str (dS (i.val : Int))) (.str "-") = false ∧ PyData.eqv (.str (dS (i.val : Int))) (.str "") = false := by decide +kernel
theorem dS_of {i : Int} (h0 : 0 ≤ i) (h1 : i ≤ 12) : (dS i).length ≤ 2 ∧ 1 ≤ (dS i).length ∧ 32 ∉ tl (dS i) ∧ 46 ∉ tl (dS i) ∧ sOkB0 (dS i) = true ∧ PyData.eqv (.str (dS i)) (.str "-") = false ∧ PyData.eqv (.str (dS i)) (.str "") = false := by
  have := dS_ok ⟨i.toNat, by omega⟩
  rwa [show (((⟨i.toNat, by omega⟩ : Fin 13).val : Nat) : Int) = i by simp; omega] at this
def evS (a b : Int) : Str := dS a ++ "." ++ dS b
theorem ev_ok : ∀ (a : Fin 5) (b : Fin 6), (evS (a.val : Int) (b.val : Int)).length = 3 ∧ 32 ∉ tl (evS (a.val : Int) (b.val : Int)) ∧ sOkB0 (evS (a.val : Int) (b.val : Int)) = true ∧ PyData.eqv (.str (evS (a.val : Int) (b.val : Int))) (.str "") = false ∧
    Txt.partition (evS (a.val : Int) (b.val : Int)) "." = (dS (a.val : Int), ("." : Str), dS (b.val : Int)) := by decide +kernel
theorem ev_of {a b : Int} (h : (0 ≤ a ∧ a < 5) ∧ 0 ≤ b ∧ b < 6) : (evS a b).length = 3 ∧ 32 ∉ tl (evS a b) ∧ sOkB0 (evS a b) = true ∧ PyData.eqv (.str (evS a b)) (.str "") = false ∧ Txt.partition (evS a b) "." = (dS a, ("." : Str), dS b) := by
  have := ev_ok ⟨a.toNat, by omega⟩ ⟨b.toNat, by omega⟩
  rwa [show (((⟨a.toNat, by omega⟩ : Fin 5).val : Nat) : Int) = a by simp; omega, show (((⟨b.toNat, by omega⟩ : Fin 6).val : Nat) : Int) = b by simp; omega] at this
theorem event_in_ok (n lo : Nat) (h : Hpa) {a b : Int} (r : (0 ≤ a ∧ a < 5) ∧ 0 ≤ b ∧ b < 6) : callF PR (n + 2) lo 4 [.str (evS a b)] h = .ok (.tup [.int a, .int b]) h := by
  obtain ⟨e1, e2, e3, e4, e5⟩ := ev_of r
  refine call_ret (d := fd_event_in) rfl rfl rfl rfl .refl ?_
  have p0 : mPre h .partition (.str (evS a b)) = true := rfl
  have p1 : mthW h.length h .partition (.str (evS a b)) [.str "."] = .ok (.tup [.str (dS a), .str ".", .str (dS b)]) h := by
    have o1 := (dS_of (i := a) (by omega) (by omega)).2.2.2.2.1
    have o2 := (dS_of (i := b) (by omega) (by omega)).2.2.2.2.1
    have c : (("." : Str).length == 0) = false ∧ (evS a b).length ≤ LIM ∧ (sOkB0 (Txt.partition (evS a b) ".").1 && sOkB0 (Txt.partition (evS a b) ".").2.1 && sOkB0 (Txt.partition (evS a b) ".").2.2) = true := by
      rw [e5, e1]
      dsimp only
      rw [o1, o2]
      decide +kernel
    show (if (("." : Str).length == 0) = false ∧ (evS a b).length ≤ LIM ∧ (sOkB0 (Txt.partition (evS a b) ".").1 && sOkB0 (Txt.partition (evS a b) ".").2.1 && sOkB0 (Txt.partition (evS a b) ".").2.2) = true then Mi.R.ok (Mi.W.tup [.str (Txt.partition (evS a b) ".").1, .str (Txt.partition (evS a b) ".").2.1, .str (Txt.partition (evS a b) ".").2.2]) h else .bad) = _
    rw [if_pos c, e5]
  have n4 := fun lo h => nu4 n lo h (i := a) (by omega) (by omega)
  have n5 := fun lo h => nu5 n lo h (i := b) (by omega) (by omega)
  have c2 : PR.cst 2 = some (.int 4) := rfl
  have c4 : PR.cst 4 = some (.int 5) := rfl
  have q1 : cmpW h .eq (.str ".") (.str "") = some false := by kernel_rfl
  have q2 : cmpW h .isin .non (.tup [.int a, .int b]) = some false := rfl
  simp (config := { decide := true }) only [fd_event_in, p0, p1, n4, n5, c2, c4, q1, q2, exSs, exS, evE, evEs, wipeE, tgs, List.map_cons, List.map_nil, List.cons_append, List.nil_append, List.replicate, Nat.sub_self, List.getElem?_cons_zero, List.getElem?_cons_succ, R.bind_ok, R.bind_bad, R.sv_ok, setTg, List.set_cons_zero, List.set_cons_succ, SR.seq_nx, SR.seq_rt, Bool.false_eq_true, if_false, op_add_i, op_sub_i, op_mul_i, op_mod_i, op_fdiv_i, Bool.true_or, Bool.or_true, if_true, ne_eq, not_false_eq_true, and_self, ofO_some, Option.map_some, Nat.reduceAdd, Nat.reduceSub, mkL_nil, mkL_f, mkT_f, List.length_cons, List.length_nil, List.zip_cons_cons, List.zip_nil_left, List.foldl_cons, List.foldl_nil, decide_true, decide_false, noEx_ok]
theorem event_text_ok (n lo : Nat) (h : Hpa) {a b : Int} (r : (0 ≤ a ∧ a < 5) ∧ 0 ≤ b ∧ b < 6) : callF PR (n + 1) lo 1 [.tup [.int a, .int b]] h = .ok (.str (evS a b)) h := by
  refine call_ret (d := fd_event_text) rfl rfl rfl rfl .refl ?_
  have s1 := str_i (i := a) (by omega) (by omega) h
  have s2 := str_i (i := b) (by omega) (by omega) h
  have l1 := (dS_of (i := a) (by omega) (by omega)).1
  have l2 := (dS_of (i := b) (by omega) (by omega)).1
  have ld : ("." : Str).length = 1 := by decide +kernel
  have big : (10 : Nat) ≤ LIM := by decide
  have a1 : opW h .add (.str (dS a)) (.str ".") = .ok (.str (dS a ++ ".")) h := op_add_s (by omega)
  have a2 : opW h .add (.str (dS a ++ ".")) (.str (dS b)) = .ok (.str (dS a ++ "." ++ dS b)) h := op_add_s (by rw [Str.length_append]; omega)
  have i0 : ∀ x y : Mi.W, idxW h (.tup [x, y]) (.int 0) = some x := fun _ _ => rfl
  have i1 : ∀ x y : Mi.W, idxW h (.tup [x, y]) (.int 1) = some y := fun _ _ => rfl
  simp (config := { decide := true }) only [fd_event_text, s1, s2, a1, a2, i0, i1, exSs, exS, evE, evEs, wipeE, tgs, List.map_cons, List.map_nil, List.cons_append, List.nil_append, List.replicate, Nat.sub_self, List.getElem?_cons_zero, List.getElem?_cons_succ, R.bind_ok, R.bind_bad, R.sv_ok, setTg, List.set_cons_zero, List.set_cons_succ, SR.seq_nx, SR.seq_rt, Bool.false_eq_true, if_false, op_add_i, op_sub_i, op_mul_i, op_mod_i, op_fdiv_i, Bool.true_or, Bool.or_true, if_true, ne_eq, not_false_eq_true, and_self, ofO_some, Option.map_some, Nat.reduceAdd, Nat.reduceSub, mkL_nil, mkL_f, mkT_f, List.length_cons, List.length_nil, List.zip_cons_cons, List.zip_nil_left, List.foldl_cons, List.foldl_nil, decide_true, decide_false, noEx_ok]
  rfl
end Lk40

namespace Lk40
open PySem PySem.Spec PyProof.Rows L2 Mi Lw TL
theorem sum_le {n : Nat} : ∀ {ys : List Str}, (∀ y ∈ ys, y.length ≤ n) → (ys.map (·.length)).sum ≤ ys.length * n
  | [], _ => Nat.zero_le _
  | y :: ys, h => by
    have h1 := h y List.mem_cons_self
    have h2 := sum_le (ys := ys) fun z hz => h z (List.mem_cons_of_mem _ hz)
    rw [List.map_cons, List.sum_cons, List.length_cons, Nat.succ_mul]
    omega
theorem one_len : (" " : Str).length = 1 := by decide +kernel
theorem join_le {ys : List Str} {n : Nat} (h : ∀ y ∈ ys, y.length ≤ n) : (Txt.join " " ys).length ≤ ys.length * n + ys.length := by
  have a := join_len " " ys
  have b := sum_le h
  rw [one_len] at a
  rw [TL.join_eq]
  omega
/-- words that may stand in a row -/
structure Pt (p : Str) : Prop where
  len : p.length ≤ 5
  sp : 32 ∉ tl p
  ok : sOkB0 p = true
  ne : PyData.eqv (.str p) (.str "") = false
theorem mapM_str {h : Hpa} {n : Nat} : ∀ ys : List Str, (ys.map Mi.W.str).mapM (toD h (n + 1)) = some (ys.map PyData.str)
  | [] => rfl
  | y :: ys => by
    rw [List.map_cons, List.mapM_cons, mapM_str ys]
    rfl
theorem pures_int : ∀ l : List Int, Mi.W.pures (l.map Mi.W.int) = true
  | [] => rfl
  | _ :: l => pures_int l
theorem join_run {h : Hpa} {lo : Nat} {ys : List Str} {n : Nat} (hy : ∀ y ∈ ys, y.length ≤ n) (b : ys.length * n + ys.length ≤ 100000) : mthW lo h .join (.str " ") [.lst (ys.map .str)] = .ok (.str (Txt.join " " ys)) h := by
  show (match allS (ys.map Mi.W.str) with
    | some (ys : List Str) => if (ys.map fun (y : Str) => y.length).sum + ys.length * (" " : Str).length ≤ LIM then Mi.R.ok (Mi.W.str (Txt.join " " ys)) h else .bad
    | none => .bad) = _
  rw [allS_str]
  have := sum_le hy
  exact if_pos (by rw [one_len]; have : (100000 : Nat) ≤ LIM := by decide
                   omega)
theorem words_of_ok (n lo : Nat) (h : Hpa) {ps : List Str} (ne : ps ≠ []) (hp : ∀ p ∈ ps, Pt p) (hl : ps.length ≤ 1000) : callF PR (n + 1) lo 5 [.str (Txt.join " " ps)] h = .ok (.lst (ps.map .str)) h := by
  have pure : (Mi.W.lst (ps.map .str)).pure = true := by
    show Mi.W.pures (ps.map Mi.W.str) = true
    clear ne hp hl
    induction ps with
    | nil => rfl
    | cons p ps ih => exact ih
  refine call_ret (d := fd_words_of) rfl rfl rfl pure .refl ?_
  have sp : Txt.split (Txt.join " " ps) " " = ps := TL.split_join (s := 32) (S := []) (by decide +kernel) (by decide +kernel) ne fun p h => (hp p h).sp
  have jl := join_le fun y hy => (hp y hy).len
  have s1 : mthW h.length h .split (.str (Txt.join " " ps)) [.str " "] = .ok (.lst (ps.map .str)) h := by
    show (if ((" " : Str).length == 0) = false ∧ (Txt.join " " ps).length + 2 ≤ LIM ∧ (Txt.split (Txt.join " " ps) " ").all sOkB0 = true then Mi.R.ok (Mi.W.lst ((Txt.split (Txt.join " " ps) " ").map .str)) h else .bad) = _
    rw [sp]
    refine if_pos ⟨by decide +kernel, ?_, List.all_eq_true.mpr fun p hq => (hp p hq).ok⟩
    have : (100000 : Nat) ≤ LIM := by decide
    omega
  have i1 : instW h .str (.str (Txt.join " " ps)) = some true := by kernel_rfl
  have i2 : cmpW h .isin (.str "") (.lst (ps.map .str)) = some false := by
    show inW h (.str "") (ps.map .str) = some false
    unfold inW
    rw [mapM_str]
    show some ((ps.map PyData.str).any fun z => PyData.eqv z (.str "")) = some false
    congr 1
    rw [List.any_map, List.any_eq_false]
    intro p hq
    show ¬ PyData.eqv (.str p) (.str "") = true
    rw [(hp p hq).ne]
    exact Bool.false_ne_true
  have m1 : mPre h .split (.str (Txt.join " " ps)) = true := rfl
  simp (config := { decide := true }) only [fd_words_of, s1, i1, i2, m1, Bool.not_true, exSs, exS, evE, evEs, wipeE, tgs, List.map_cons, List.map_nil, List.cons_append, List.nil_append, List.replicate, Nat.sub_self, List.getElem?_cons_zero, List.getElem?_cons_succ, R.bind_ok, R.bind_bad, R.sv_ok, setTg, List.set_cons_zero, List.set_cons_succ, SR.seq_nx, SR.seq_rt, Bool.false_eq_true, if_false, op_add_i, op_sub_i, op_mul_i, op_mod_i, op_fdiv_i, Bool.true_or, Bool.or_true, if_true, ne_eq, not_false_eq_true, and_self, ofO_some, Option.map_some, Nat.reduceAdd, Nat.reduceSub, mkL_nil, mkL_f, mkT_f, List.length_cons, List.length_nil, List.zip_cons_cons, List.zip_nil_left, List.foldl_cons, List.foldl_nil, decide_true, decide_false, noEx_ok]
/-! ### numbers -/
theorem num_in (n lo : Nat) (h : Hpa) (is : List Int) (ahead most many : Int) (hN : ∀ lo h, ∀ i ∈ is, callF PR (n + 1) lo 3 [.str (dS i), .int most] h = .ok (.int i) h) (hl : (is.length : Int) ≤ many) (h1 : is.length ≤ 1000) :
    callF PR (n + 2) lo 6 [.lst (is.map fun i => .str (dS i)), .int ahead, .int most, .int many] h = .ok (.tup (is.map .int)) h := by
  let V : List Int → (Option Mi.W × Option Mi.W × Option Mi.W) → Mi.Env := fun _ s => [some (.lst (is.map fun i => .str (dS i))), some (.int ahead), some (.int most), some (.int many), some (.ref h.length), s.1, s.2.1, s.2.2]
  obtain ⟨s', L⟩ := loop_es (fun i => Mi.W.str (dS i)) [] (loopB (.tp [5, 6]) fun v h' => exSs ⟨callF PR (n + 1) h.length, h.length, PR.cst⟩ bd_numbers_in_1 v h') V (fun pre => h ++ [.lst (pre.map Mi.W.int)]) is (fun _ => rfl) (fun pre x post s e => by
    have e1 := at_end h (.lst (pre.map Mi.W.int))
    have lp : pre.length < is.length := by rw [e]; simp
    have a1 := app_ok (lo := h.length) (w := .int x) e1 (by rw [List.length_map, LIM]; omega) rfl
    have a0 := app_pre e1
    have N := hN h.length (h ++ [.lst (pre.map Mi.W.int)]) x (by rw [e]; simp)
    have q : cmpW (h ++ [.lst (pre.map Mi.W.int)]) .eq (.int (pre.length : Int)) (.int many) = some false := by
      rw [eq_i, decide_eq_false (by omega)]
    refine ⟨(some (.int (pre.length : Int)), some (.str (dS x)), some (.int x)), ?_⟩
    have body : exSs ⟨callF PR (n + 1) h.length, h.length, PR.cst⟩ bd_numbers_in_1 [some (.lst (is.map fun i => .str (dS i))), some (.int ahead), some (.int most), some (.int many), some (.ref h.length), some (.int (pre.length : Int)), some (.str (dS x)), s.2.2] (h ++ [.lst (pre.map Mi.W.int)]) = .nx [some (.lst (is.map fun i => .str (dS i))), some (.int ahead), some (.int most), some (.int many), some (.ref h.length), some (.int (pre.length : Int)), some (.str (dS x)), some (.int x)] (h ++ [.lst ((pre ++ [x]).map Mi.W.int)]) := by
      simp (config := { decide := true }) only [bd_numbers_in_1, N, q, a0, a1, set_end, List.map_append, exSs, exS, evE, evEs, wipeE, tgs, List.map_cons, List.map_nil, List.cons_append, List.nil_append, List.replicate, Nat.sub_self, List.getElem?_cons_zero, List.getElem?_cons_succ, R.bind_ok, R.bind_bad, R.sv_ok, setTg, List.set_cons_zero, List.set_cons_succ, SR.seq_nx, SR.seq_rt, Bool.false_eq_true, if_false, op_add_i, op_sub_i, op_mul_i, op_mod_i, op_fdiv_i, Bool.true_or, Bool.or_true, if_true, ne_eq, not_false_eq_true, and_self, ofO_some, Option.map_some, Nat.reduceAdd, Nat.reduceSub, mkL_nil, mkL_f, mkT_f, List.length_cons, List.length_nil, List.zip_cons_cons, List.zip_nil_left, List.foldl_cons, List.foldl_nil, decide_true, decide_false, noEx_ok]
    exact body) (none, none, none)
  have T := call_eq (P := PR) (i := 6) (n := n + 1) (lo := lo) (ws := [.lst (is.map fun i => .str (dS i)), .int ahead, .int most, .int many]) (h := h) (h' := h) (w := .tup (is.map .int)) (d := fd_numbers_in) [.lst (is.map Mi.W.int)] rfl rfl rfl (pures_int is) .refl
  refine T ?_
  have tq : bltW (h ++ [.lst (is.map Mi.W.int)]) .tuple_ [.ref h.length] = .ok (.tup (is.map .int)) (h ++ [.lst (is.map Mi.W.int)]) := by
    show (match asQ (h ++ [Ob.lst (is.map Mi.W.int)]) (.ref h.length) with
      | some xs => mkT xs (h ++ [Ob.lst (is.map Mi.W.int)])
      | none => .bad) = _
    rw [asQ_ref (at_end h _)]
    exact mkT_f (by rw [List.length_map, LIM]; omega)
  have el : exS ⟨callF PR (n + 1) h.length, h.length, PR.cst⟩ st_numbers_in_1 (V [] (none, none, none)) (h ++ [.lst []]) = .nx (V is s') (h ++ [.lst (is.map Mi.W.int)]) := L
  have v4 : (V is s')[4]? = some (some (.ref h.length)) := rfl
  show exSs ⟨callF PR (n + 1) h.length, h.length, PR.cst⟩ fd_numbers_in.body [some (.lst (is.map fun i => .str (dS i))), some (.int ahead), some (.int most), some (.int many), none, none, none, none] h = _
  have st1 : exS ⟨callF PR (n + 1) h.length, h.length, PR.cst⟩ (.asg (.nm 4) (.lst true .nil)) [some (.lst (is.map fun i => .str (dS i))), some (.int ahead), some (.int most), some (.int many), none, none, none, none] h = .nx (V [] (none, none, none)) (h ++ [.lst []]) := rfl
  simp only [fd_numbers_in, exSs_cons, st1, SR.seq_nx, el, exS_ret, evE, evEs, v4, R.bind_ok, tq, R.sv_ok, SR.seq_rt]
end Lk40

namespace Lk40
open PySem PySem.Spec PyProof.Rows L2 Mi Lw TL
theorem cut1 (s : Str) : cutS ((" " : Str) ++ s) (some 1) none = s := by
  apply PySem.Str.ext'
  unfold cutS
  have e : ((" " : Str) ++ s).cps.toList = 32 :: s.cps.toList := by
    show ((" " : Str).cps ++ s.cps).toList = _
    rw [Array.toList_append]
    have : (" " : Str).cps.toList = [32] := by decide +kernel
    rw [this]
    rfl
  have l : ((" " : Str) ++ s).length = s.length + 1 := by
    rw [Str.length_append, one_len]
    omega
  rw [e, l]
  have q : HT.sIx (s.length + 1) 0 (some 1) = 1 := by
    show (if (1 : Int) < 0 then (1 + ((s.length + 1 : Nat) : Int)).toNat else min (1 : Int).toNat (s.length + 1)) = 1
    rw [if_neg (by decide)]
    show min 1 (s.length + 1) = 1
    omega
  rw [q, HT.sIx_none]
  have t : (s.cps.toList).take (s.length + 1 - 1) = s.cps.toList := by
    rw [show s.length + 1 - 1 = s.cps.toList.length by rw [Array.length_toList]; rfl, List.take_length]
  show ((List.drop 1 (32 :: s.cps.toList)).take (s.length + 1 - 1)).toArray = _
  show (s.cps.toList.take (s.length + 1 - 1)).toArray = _
  rw [t]
/-- blanks ahead -/
def bl (s : Str) : Str := (" " : Str) ++ s
theorem join_bl : ∀ (ws : List Str) (w : Str), Str.join " " (w :: ws) = w ++ Str.join "" (ws.map bl)
  | [], w => by
    show w = w ++ Str.empty
    rw [PySem.Str.append_empty]
  | x :: ws, w => by
    show w ++ " " ++ Str.join " " (x :: ws) = w ++ Str.join "" (bl x :: ws.map bl)
    rw [join_bl ws x]
    have : Str.join "" (bl x :: ws.map bl) = bl x ++ Str.join "" (ws.map bl) := by
      cases ws with
      | nil =>
        show bl x = bl x ++ Str.empty
        rw [PySem.Str.append_empty]
      | cons y r =>
        show bl x ++ Str.empty ++ Str.join "" (bl y :: r.map bl) = bl x ++ Str.join "" (bl y :: r.map bl)
        rw [PySem.Str.append_empty]
    rw [this]
    unfold bl
    rw [PySem.Str.append_assoc, PySem.Str.append_assoc]
theorem join_bl0 (ws : List Str) (w : Str) : Str.join "" ((w :: ws).map bl) = bl (Str.join " " (w :: ws)) := by
  rw [join_bl]
  cases ws with
  | nil =>
    show bl w = bl (w ++ Str.empty)
    rw [PySem.Str.append_empty]
  | cons y r =>
    show bl w ++ Str.empty ++ Str.join "" (bl y :: r.map bl) = bl (w ++ Str.join "" (bl y :: r.map bl))
    rw [PySem.Str.append_empty]
    unfold bl
    rw [PySem.Str.append_assoc]
theorem join0_run {h : Hpa} {lo : Nat} {ys : List Str} {n : Nat} (hy : ∀ y ∈ ys, y.length ≤ n) (b : ys.length * n ≤ 100000) : mthW lo h .join (.str "") [.lst (ys.map .str)] = .ok (.str (Txt.join "" ys)) h := by
  show (match allS (ys.map Mi.W.str) with
    | some (ys : List Str) => if (ys.map fun (y : Str) => y.length).sum + ys.length * ("" : Str).length ≤ LIM then Mi.R.ok (Mi.W.str (Txt.join "" ys)) h else .bad
    | none => .bad) = _
  rw [allS_str]
  have := sum_le hy
  have z : ("" : Str).length = 0 := by decide +kernel
  exact if_pos (by rw [z]; have : (100000 : Nat) ≤ LIM := by decide
                   omega)
theorem bl_len (s : Str) : (bl s).length = s.length + 1 := by
  unfold bl
  rw [Str.length_append, one_len]
  omega
/-! ### weavings -/
structure WvOk (ws : List Int) : Prop where
  rng : ∀ x ∈ ws, 0 ≤ x ∧ x ≤ 4
  len : ws.length ≤ 14
def wText (ws : List Int) : Str := if ws = [] then "-" else Txt.join " " (ws.map dS)
theorem dash_pt : Pt "-" := ⟨by decide +kernel, by decide +kernel, by decide +kernel, by decide +kernel⟩
theorem dS_pt {i : Int} (h0 : 0 ≤ i) (h1 : i ≤ 12) : Pt (dS i) := by
  obtain ⟨a, b, c, d, e, f, g⟩ := dS_of h0 h1
  exact ⟨by omega, c, e, g⟩
theorem comp_str {h : Hpa} (b : Mi.W → Hpa → Mi.R (Option Mi.W)) {ws : List Int} (hw : ∀ x ∈ ws, b (.int x) h = .ok (some (.str (dS x))) h) : compL b [] (ws.map Mi.W.int) h = .ok ((ws.map dS).map .str) h := by
  rw [comp_map Mi.W.int (fun x => Mi.W.str (dS x)) b [] h rfl ws hw, List.map_map]
  rfl
theorem ne_tup {h : Hpa} (ws : List Int) : cmpW h .ne (.tup (ws.map .int)) (.tup []) = some (!ws.isEmpty) := by
  have e : toD h DEP (.tup (ws.map Mi.W.int)) = some (.tuple (ws.map PyData.int)) := by
    show ((ws.map Mi.W.int).mapM (toD h (18 + 1))).map PyData.tuple = _
    rw [mapM_int]
    rfl
  have e2 : toD h DEP (.tup []) = some (.tuple []) := rfl
  show (eqD h (.tup (ws.map .int)) (.tup [])).map (!·) = _
  unfold eqD
  rw [e, e2]
  cases ws <;> rfl
theorem weaving_text_ok (n lo : Nat) (h : Hpa) {ws : List Int} (o : WvOk ws) : callF PR (n + 1) lo 0 [.tup (ws.map .int)] h = .ok (.str (wText ws)) h := by
  refine call_ret (d := fd_weaving_text) rfl rfl rfl rfl .refl ?_
  have jr : mthW h.length h .join (.str " ") [.lst ((ws.map dS).map .str)] = .ok (.str (Txt.join " " (ws.map dS))) h := join_run (n := 2) (fun y hy => by
    obtain ⟨x, hx, rfl⟩ := List.mem_map.mp hy
    exact (dS_of (o.rng x hx).1 (by have := o.rng x hx; omega)).1) (by rw [List.length_map]; have := o.len; omega)
  have cm := fun b hb => comp_str (h := h) b (ws := ws) hb
  have m0 : mPre h .join (.str " ") = true := rfl
  have ml : mkL false ((ws.map dS).map Mi.W.str) h = .ok (.lst ((ws.map dS).map .str)) h := mkL_f (by rw [List.length_map, List.length_map, LIM]; have := o.len; omega)
  have nt := ne_tup (h := h) ws
  have mt : mkT [] h = .ok (.tup []) h := rfl
  unfold wText
  cases hw : ws with
  | nil =>
    subst hw
    have nt : cmpW h .ne (.tup []) (.tup []) = some false := rfl
    simp (config := { decide := true }) only [fd_weaving_text, nt, mt, exSs, exS, evE, evEs, wipeE, tgs, List.map_cons, List.map_nil, List.cons_append, List.nil_append, List.replicate, Nat.sub_self, List.getElem?_cons_zero, List.getElem?_cons_succ, R.bind_ok, R.bind_bad, R.sv_ok, setTg, List.set_cons_zero, List.set_cons_succ, SR.seq_nx, SR.seq_rt, Bool.false_eq_true, if_false, op_add_i, op_sub_i, op_mul_i, op_mod_i, op_fdiv_i, Bool.true_or, Bool.or_true, if_true, ne_eq, not_false_eq_true, and_self, ofO_some, Option.map_some, Nat.reduceAdd, Nat.reduceSub, mkL_nil, mkL_f, mkT_f, List.length_cons, List.length_nil, List.zip_cons_cons, List.zip_nil_left, List.foldl_cons, List.foldl_nil, decide_true, decide_false, noEx_ok]
  | cons x r =>
    rw [← hw]
    have : ws.isEmpty = false := by rw [hw]; rfl
    have ne : ws ≠ [] := by rw [hw]; exact List.cons_ne_nil _ _
    rw [if_neg ne]
    simp (config := { decide := true }) only [fd_weaving_text, nt, mt, this, Bool.not_false, evI, wkOf, m0, exSs, exS, evE, evEs, wipeE, tgs, List.map_cons, List.map_nil, List.cons_append, List.nil_append, List.replicate, Nat.sub_self, List.getElem?_cons_zero, List.getElem?_cons_succ, R.bind_ok, R.bind_bad, R.sv_ok, setTg, List.set_cons_zero, List.set_cons_succ, SR.seq_nx, SR.seq_rt, Bool.false_eq_true, if_false, op_add_i, op_sub_i, op_mul_i, op_mod_i, op_fdiv_i, Bool.true_or, Bool.or_true, if_true, ne_eq, not_false_eq_true, and_self, ofO_some, Option.map_some, Nat.reduceAdd, Nat.reduceSub, mkL_nil, mkL_f, mkT_f, List.length_cons, List.length_nil, List.zip_cons_cons, List.zip_nil_left, List.foldl_cons, List.foldl_nil, decide_true, decide_false, noEx_ok]
    rw [cm _ fun x hx => by
      have := str_i (i := x) (o.rng x hx).1 (by have := o.rng x hx; omega) h
      simp (config := { decide := true }) only [this, exSs, exS, evE, evEs, wipeE, tgs, List.map_cons, List.map_nil, List.cons_append, List.nil_append, List.replicate, Nat.sub_self, List.getElem?_cons_zero, List.getElem?_cons_succ, R.bind_ok, R.bind_bad, R.sv_ok, setTg, List.set_cons_zero, List.set_cons_succ, SR.seq_nx, SR.seq_rt, Bool.false_eq_true, if_false, op_add_i, op_sub_i, op_mul_i, op_mod_i, op_fdiv_i, Bool.true_or, Bool.or_true, if_true, ne_eq, not_false_eq_true, and_self, ofO_some, Option.map_some, Nat.reduceAdd, Nat.reduceSub, mkL_nil, mkL_f, mkT_f, List.length_cons, List.length_nil, List.zip_cons_cons, List.zip_nil_left, List.foldl_cons, List.foldl_nil, decide_true, decide_false, noEx_ok]]
    simp (config := { decide := true }) only [ml, jr, exSs, exS, evE, evEs, wipeE, tgs, List.map_cons, List.map_nil, List.cons_append, List.nil_append, List.replicate, Nat.sub_self, List.getElem?_cons_zero, List.getElem?_cons_succ, R.bind_ok, R.bind_bad, R.sv_ok, setTg, List.set_cons_zero, List.set_cons_succ, SR.seq_nx, SR.seq_rt, Bool.false_eq_true, if_false, op_add_i, op_sub_i, op_mul_i, op_mod_i, op_fdiv_i, Bool.true_or, Bool.or_true, if_true, ne_eq, not_false_eq_true, and_self, ofO_some, Option.map_some, Nat.reduceAdd, Nat.reduceSub, mkL_nil, mkL_f, mkT_f, List.length_cons, List.length_nil, List.zip_cons_cons, List.zip_nil_left, List.foldl_cons, List.foldl_nil, decide_true, decide_false, noEx_ok]
theorem eq_lst {h : Hpa} (xs ys : List Str) : cmpW h .eq (.lst (xs.map .str)) (.lst (ys.map .str)) = some (PyData.eqv (.list (xs.map .str)) (.list (ys.map .str))) := by
  have e : ∀ zs : List Str, toD h DEP (.lst (zs.map Mi.W.str)) = some (.list (zs.map PyData.str)) := fun zs => by
    show ((zs.map Mi.W.str).mapM (toD h (18 + 1))).map PyData.list = _
    rw [Lk40.mapM_str]
    rfl
  show eqD h _ _ = _
  unfold eqD
  rw [e, e]
theorem weaving_in_ok (n lo : Nat) (h : Hpa) {ws : List Int} (o : WvOk ws) : callF PR (n + 3) lo 8 [.str (wText ws)] h = .ok (.tup (ws.map .int)) h := by
  refine call_ret (d := fd_weaving_in) rfl rfl rfl (pures_int ws) .refl ?_
  have c2 : PR.cst 2 = some (.int 4) := rfl
  have c3 : PR.cst 3 = some (.int 14) := rfl
  have ml : mkL false [Mi.W.str "-"] h = .ok (.lst [.str "-"]) h := rfl
  have mt : mkT [] h = .ok (.tup []) h := rfl
  cases hw : ws with
  | nil =>
    have w := words_of_ok (n + 1) h.length h (ps := ["-"]) (by simp) (fun p hp => by
      have : p = "-" := by simpa using hp
      rw [this]
      exact dash_pt) (by decide)
    have j : Txt.join " " ["-"] = ("-" : Str) := by decide +kernel
    rw [j] at w
    have q : cmpW h .eq (.lst [.str "-"]) (.lst [.str "-"]) = some true := by kernel_rfl
    have e : wText [] = "-" := rfl
    rw [e]
    have w : callF PR (n + 1 + 1) h.length 5 [.str "-"] h = .ok (.lst [.str "-"]) h := w
    simp (config := { decide := true }) only [fd_weaving_in, w, ml, mt, q, exSs, exS, evE, evEs, wipeE, tgs, List.map_cons, List.map_nil, List.cons_append, List.nil_append, List.replicate, Nat.sub_self, List.getElem?_cons_zero, List.getElem?_cons_succ, R.bind_ok, R.bind_bad, R.sv_ok, setTg, List.set_cons_zero, List.set_cons_succ, SR.seq_nx, SR.seq_rt, Bool.false_eq_true, if_false, op_add_i, op_sub_i, op_mul_i, op_mod_i, op_fdiv_i, Bool.true_or, Bool.or_true, if_true, ne_eq, not_false_eq_true, and_self, ofO_some, Option.map_some, Nat.reduceAdd, Nat.reduceSub, mkL_nil, mkL_f, mkT_f, List.length_cons, List.length_nil, List.zip_cons_cons, List.zip_nil_left, List.foldl_cons, List.foldl_nil, decide_true, decide_false, noEx_ok]
  | cons x r =>
    rw [← hw]
    have ne : ws ≠ [] := by rw [hw]; exact List.cons_ne_nil _ _
    have e : wText ws = Txt.join " " (ws.map dS) := if_neg ne
    have w := words_of_ok (n + 1) h.length h (ps := ws.map dS) (by rw [hw]; exact List.cons_ne_nil _ _) (fun p hp => by
      obtain ⟨y, hy, rfl⟩ := List.mem_map.mp hp
      exact dS_pt (o.rng y hy).1 (by have := o.rng y hy; omega)) (by rw [List.length_map]; have := o.len; omega)
    have q : cmpW h .eq (.lst ((ws.map dS).map .str)) (.lst [.str "-"]) = some false := by
      have := eq_lst (h := h) (ws.map dS) ["-"]
      rw [show (["-"] : List Str).map Mi.W.str = [Mi.W.str "-"] from rfl] at this
      rw [this, hw]
      have hx := (dS_of (i := x) (o.rng x (by rw [hw]; exact List.mem_cons_self)).1 (by have := o.rng x (by rw [hw]; exact List.mem_cons_self); omega)).2.2.2.2.2.1
      show some (PyData.eqv (.str (dS x)) (.str "-") && _) = some false
      rw [hx]
      rfl
    have N := num_in n h.length h ws 0 4 14 (fun lo h i hi => nu4 n lo h (o.rng i hi).1 (o.rng i hi).2) (by have := o.len; omega) (by have := o.len; omega)
    rw [e]
    have N : callF PR (n + 2) h.length 6 [.lst ((ws.map dS).map .str), .int 0, .int 4, .int 14] h = .ok (.tup (ws.map .int)) h := by
      rw [List.map_map]
      exact N
    have w : callF PR (n + 2) h.length 5 [.str (Txt.join " " (ws.map dS))] h = .ok (.lst ((ws.map dS).map .str)) h := w
    simp (config := { decide := true }) only [fd_weaving_in, w, ml, mt, q, N, c2, c3, exSs, exS, evE, evEs, wipeE, tgs, List.map_cons, List.map_nil, List.cons_append, List.nil_append, List.replicate, Nat.sub_self, List.getElem?_cons_zero, List.getElem?_cons_succ, R.bind_ok, R.bind_bad, R.sv_ok, setTg, List.set_cons_zero, List.set_cons_succ, SR.seq_nx, SR.seq_rt, Bool.false_eq_true, if_false, op_add_i, op_sub_i, op_mul_i, op_mod_i, op_fdiv_i, Bool.true_or, Bool.or_true, if_true, ne_eq, not_false_eq_true, and_self, ofO_some, Option.map_some, Nat.reduceAdd, Nat.reduceSub, mkL_nil, mkL_f, mkT_f, List.length_cons, List.length_nil, List.zip_cons_cons, List.zip_nil_left, List.foldl_cons, List.foldl_nil, decide_true, decide_false, noEx_ok]
end Lk40

namespace Lk40
open PySem PySem.Spec PyProof.Rows L2 Mi Lw TL
/-! ### papers -/
inductive Pap where
  | alike (ps : List Int) | short | event (a b : Int) | link (a b c d : Int)
abbrev EvR (a b : Int) : Prop := (0 ≤ a ∧ a < 5) ∧ 0 ≤ b ∧ b < 6
def Pap.Ok : Pap → Prop
  | .alike ps => (∀ x ∈ ps, 0 ≤ x ∧ x ≤ 12) ∧ ps.length ≤ 91
  | .short => True
  | .event a b => EvR a b
  | .link a b c d => EvR a b ∧ EvR c d
abbrev evW (a b : Int) : Mi.W := .tup [.int a, .int b]
def Pap.enc : Pap → Mi.W
  | .alike ps => .tup [.str "alike", .tup (ps.map .int)]
  | .short => .tup [.str "short"]
  | .event a b => .tup [.str "event", evW a b]
  | .link a b c d => .tup [.str "link", evW a b, evW c d]
def Pap.words : Pap → List Str
  | .alike ps => "alike" :: ps.map dS
  | .short => ["short"]
  | .event a b => ["event", evS a b]
  | .link a b c d => ["link", evS a b, evS c d]
def Pap.text (p : Pap) : Str := Txt.join " " p.words
theorem ev_pt {a b : Int} (r : EvR a b) : Pt (evS a b) := by
  obtain ⟨x, y, z, u, _⟩ := ev_of r
  exact ⟨by omega, y, z, u⟩
theorem pt_alike : Pt "alike" := ⟨by decide +kernel, by decide +kernel, by decide +kernel, by decide +kernel⟩
theorem pt_short : Pt "short" := ⟨by decide +kernel, by decide +kernel, by decide +kernel, by decide +kernel⟩
theorem pt_event : Pt "event" := ⟨by decide +kernel, by decide +kernel, by decide +kernel, by decide +kernel⟩
theorem pt_link : Pt "link" := ⟨by decide +kernel, by decide +kernel, by decide +kernel, by decide +kernel⟩
theorem Pap.pts {p : Pap} (o : p.Ok) : (∀ w ∈ p.words, Pt w) ∧ p.words.length ≤ 92 := by
  cases p with
  | alike ps =>
    refine ⟨fun w hw => ?_, ?_⟩
    · rcases List.mem_cons.mp hw with e | e
      · rw [e]; exact pt_alike
      · obtain ⟨x, hx, rfl⟩ := List.mem_map.mp e
        exact dS_pt (o.1 x hx).1 (o.1 x hx).2
    · show (ps.map dS).length + 1 ≤ 92
      rw [List.length_map]
      have := o.2
      omega
  | short => exact ⟨fun w hw => by rw [show w = "short" by simpa [Pap.words] using hw]; exact pt_short, by decide⟩
  | event a b =>
    refine ⟨fun w hw => ?_, by show 2 ≤ 92; decide⟩
    rcases List.mem_cons.mp hw with e | e
    · rw [e]; exact pt_event
    · rw [show w = evS a b by simpa using e]; exact ev_pt o
  | link a b c d =>
    refine ⟨fun w hw => ?_, by show 3 ≤ 92; decide⟩
    rcases List.mem_cons.mp hw with e | e
    · rw [e]; exact pt_link
    · rcases List.mem_cons.mp e with e | e
      · rw [e]; exact ev_pt o.1
      · rw [show w = evS c d by simpa using e]; exact ev_pt o.2
theorem add_l {h : Hpa} {a b : List Mi.W} (l : (a ++ b).length ≤ LIM) : opW h .add (.lst a) (.lst b) = .ok (.lst (a ++ b)) h := by
  show mkL false (a ++ b) h = _
  exact mkL_f l
theorem ix0 {h : Hpa} {x : Mi.W} {xs : List Mi.W} : idxW h (.tup (x :: xs)) (.int 0) = some x := by
  show atI (x :: xs) 0 = some x
  unfold atI
  rw [ixN_at (by decide) (by simp)]
  rfl
theorem q_al {h : Hpa} : cmpW h .eq (.str "alike") (.str "alike") = some true := by kernel_rfl
theorem q_sh {h : Hpa} : cmpW h .eq (.str "short") (.str "alike") = some false := by kernel_rfl
theorem q_ev {h : Hpa} : cmpW h .eq (.str "event") (.str "alike") = some false := by kernel_rfl
theorem q_li {h : Hpa} : cmpW h .eq (.str "link") (.str "alike") = some false := by kernel_rfl
theorem sl_tup {h : Hpa} {x : Mi.W} {xs : List Mi.W} (l : xs.length ≤ 5) : slcW h (.tup (x :: xs)) (some 1) none = some (.tup xs) := by
  match xs, l with
  | [], _ => rfl
  | [a], _ => rfl
  | [a, b], _ => rfl
  | [a, b, c], _ => rfl
  | [a, b, c, d], _ => rfl
  | [a, b, c, d, e], _ => rfl
theorem paper_text_ok (n lo : Nat) (h : Hpa) {p : Pap} (o : p.Ok) : callF PR (n + 2) lo 2 [p.enc] h = .ok (.str p.text) h := by
  refine call_ret (d := fd_paper_text) rfl rfl rfl rfl .refl ?_
  have jr : mthW h.length h .join (.str " ") [.lst (p.words.map .str)] = .ok (.str p.text) h := join_run (n := 5) (fun y hy => ((Pap.pts o).1 y hy).len) (by have := (Pap.pts o).2; omega)
  have m0 : mPre h .join (.str " ") = true := rfl
  have one : ∀ x : Mi.W, mkL false [x] h = .ok (.lst [x]) h := fun _ => rfl
  have two : ∀ x y : Mi.W, mkL false [x, y] h = .ok (.lst [x, y]) h := fun _ _ => rfl
  have nn : (1 < 0 : Bool) = false := rfl
  cases p with
  | alike ps =>
    have ml : mkL false ((ps.map dS).map Mi.W.str) h = .ok (.lst ((ps.map dS).map .str)) h := mkL_f (by rw [List.length_map, List.length_map, LIM]; have := o.2; omega)
    have i1 : idxW h (.tup [.str "alike", .tup (ps.map .int)]) (.int 1) = some (.tup (ps.map .int)) := rfl
    have ad : opW h .add (.lst [.str "alike"]) (.lst ((ps.map dS).map .str)) = .ok (.lst ((Pap.alike ps).words.map .str)) h := add_l (by
      simp only [List.length_append, List.length_map, List.length_cons, List.length_nil, LIM]
      have := o.2
      omega)
    simp (config := { decide := true }) only [fd_paper_text, Pap.enc, ix0, q_al, i1, evI, wkOf, one, m0, exSs, exS, evE, evEs, wipeE, tgs, List.map_cons, List.map_nil, List.cons_append, List.nil_append, List.replicate, Nat.sub_self, List.getElem?_cons_zero, List.getElem?_cons_succ, R.bind_ok, R.bind_bad, R.sv_ok, setTg, List.set_cons_zero, List.set_cons_succ, SR.seq_nx, SR.seq_rt, Bool.false_eq_true, if_false, op_add_i, op_sub_i, op_mul_i, op_mod_i, op_fdiv_i, Bool.true_or, Bool.or_true, if_true, ne_eq, not_false_eq_true, and_self, ofO_some, Option.map_some, Nat.reduceAdd, Nat.reduceSub, mkL_nil, mkL_f, mkT_f, List.length_cons, List.length_nil, List.zip_cons_cons, List.zip_nil_left, List.foldl_cons, List.foldl_nil, decide_true, decide_false, noEx_ok]
    rw [comp_str (h := h) _ (ws := ps) fun x hx => by
      have := str_i (i := x) (o.1 x hx).1 (o.1 x hx).2 h
      simp (config := { decide := true }) only [this, exSs, exS, evE, evEs, wipeE, tgs, List.map_cons, List.map_nil, List.cons_append, List.nil_append, List.replicate, Nat.sub_self, List.getElem?_cons_zero, List.getElem?_cons_succ, R.bind_ok, R.bind_bad, R.sv_ok, setTg, List.set_cons_zero, List.set_cons_succ, SR.seq_nx, SR.seq_rt, Bool.false_eq_true, if_false, op_add_i, op_sub_i, op_mul_i, op_mod_i, op_fdiv_i, Bool.true_or, Bool.or_true, if_true, ne_eq, not_false_eq_true, and_self, ofO_some, Option.map_some, Nat.reduceAdd, Nat.reduceSub, mkL_nil, mkL_f, mkT_f, List.length_cons, List.length_nil, List.zip_cons_cons, List.zip_nil_left, List.foldl_cons, List.foldl_nil, decide_true, decide_false, noEx_ok]]
    simp (config := { decide := true }) only [ml, ad, jr, exSs, exS, evE, evEs, wipeE, tgs, List.map_cons, List.map_nil, List.cons_append, List.nil_append, List.replicate, Nat.sub_self, List.getElem?_cons_zero, List.getElem?_cons_succ, R.bind_ok, R.bind_bad, R.sv_ok, setTg, List.set_cons_zero, List.set_cons_succ, SR.seq_nx, SR.seq_rt, Bool.false_eq_true, if_false, op_add_i, op_sub_i, op_mul_i, op_mod_i, op_fdiv_i, Bool.true_or, Bool.or_true, if_true, ne_eq, not_false_eq_true, and_self, ofO_some, Option.map_some, Nat.reduceAdd, Nat.reduceSub, mkL_nil, mkL_f, mkT_f, List.length_cons, List.length_nil, List.zip_cons_cons, List.zip_nil_left, List.foldl_cons, List.foldl_nil, decide_true, decide_false, noEx_ok]
  | short =>
    have ad : opW h .add (.lst [.str "short"]) (.lst []) = .ok (.lst (Pap.short.words.map .str)) h := rfl
    simp (config := { decide := true }) only [fd_paper_text, Pap.enc, ix0, q_sh, evI, wkOf, one, m0, isNo, ixO, sl_tup, compL, okGs_nil, ad, jr, exSs, exS, evE, evEs, wipeE, tgs, List.map_cons, List.map_nil, List.cons_append, List.nil_append, List.replicate, Nat.sub_self, List.getElem?_cons_zero, List.getElem?_cons_succ, R.bind_ok, R.bind_bad, R.sv_ok, setTg, List.set_cons_zero, List.set_cons_succ, SR.seq_nx, SR.seq_rt, Bool.false_eq_true, if_false, op_add_i, op_sub_i, op_mul_i, op_mod_i, op_fdiv_i, Bool.true_or, Bool.or_true, if_true, ne_eq, not_false_eq_true, and_self, ofO_some, Option.map_some, Nat.reduceAdd, Nat.reduceSub, mkL_nil, mkL_f, mkT_f, List.length_cons, List.length_nil, List.zip_cons_cons, List.zip_nil_left, List.foldl_cons, List.foldl_nil, decide_true, decide_false, noEx_ok]
  | event a b =>
    have ad : opW h .add (.lst [.str "event"]) (.lst [.str (evS a b)]) = .ok (.lst ((Pap.event a b).words.map .str)) h := rfl
    have e1 := fun lo h => event_text_ok n lo h (a := a) (b := b) o
    simp (config := { decide := true }) only [fd_paper_text, Pap.enc, ix0, q_ev, evI, wkOf, one, m0, isNo, ixO, sl_tup, compL, okGs_nil, e1, ad, jr, exSs, exS, evE, evEs, wipeE, tgs, List.map_cons, List.map_nil, List.cons_append, List.nil_append, List.replicate, Nat.sub_self, List.getElem?_cons_zero, List.getElem?_cons_succ, R.bind_ok, R.bind_bad, R.sv_ok, setTg, List.set_cons_zero, List.set_cons_succ, SR.seq_nx, SR.seq_rt, Bool.false_eq_true, if_false, op_add_i, op_sub_i, op_mul_i, op_mod_i, op_fdiv_i, Bool.true_or, Bool.or_true, if_true, ne_eq, not_false_eq_true, and_self, ofO_some, Option.map_some, Nat.reduceAdd, Nat.reduceSub, mkL_nil, mkL_f, mkT_f, List.length_cons, List.length_nil, List.zip_cons_cons, List.zip_nil_left, List.foldl_cons, List.foldl_nil, decide_true, decide_false, noEx_ok]
  | link a b c d =>
    have ad : opW h .add (.lst [.str "link"]) (.lst [.str (evS a b), .str (evS c d)]) = .ok (.lst ((Pap.link a b c d).words.map .str)) h := rfl
    have e1 := fun lo h => event_text_ok n lo h (a := a) (b := b) o.1
    have e2 := fun lo h => event_text_ok n lo h (a := c) (b := d) o.2
    simp (config := { decide := true }) only [fd_paper_text, Pap.enc, ix0, q_li, evI, wkOf, one, two, m0, isNo, ixO, sl_tup, compL, okGs_nil, e1, e2, ad, jr, exSs, exS, evE, evEs, wipeE, tgs, List.map_cons, List.map_nil, List.cons_append, List.nil_append, List.replicate, Nat.sub_self, List.getElem?_cons_zero, List.getElem?_cons_succ, R.bind_ok, R.bind_bad, R.sv_ok, setTg, List.set_cons_zero, List.set_cons_succ, SR.seq_nx, SR.seq_rt, Bool.false_eq_true, if_false, op_add_i, op_sub_i, op_mul_i, op_mod_i, op_fdiv_i, Bool.true_or, Bool.or_true, if_true, ne_eq, not_false_eq_true, and_self, ofO_some, Option.map_some, Nat.reduceAdd, Nat.reduceSub, mkL_nil, mkL_f, mkT_f, List.length_cons, List.length_nil, List.zip_cons_cons, List.zip_nil_left, List.foldl_cons, List.foldl_nil, decide_true, decide_false, noEx_ok]
end Lk40

namespace Lk40
open PySem PySem.Spec PyProof.Rows L2 Mi Lw TL
theorem ixl0 {h : Hpa} {x : Mi.W} {xs : List Mi.W} : idxW h (.lst (x :: xs)) (.int 0) = some x := by
  show atI (x :: xs) 0 = some x
  unfold atI
  rw [ixN_at (by decide) (by simp)]
  rfl
theorem sl_lst {h : Hpa} {x : Mi.W} {xs : List Mi.W} : slcW h (.lst (x :: xs)) (some 1) none = some (.lst xs) := by
  show some (Mi.W.lst (cutL (x :: xs) (some 1) none)) = _
  congr 2
  unfold cutL
  have q : HT.sIx (x :: xs).length 0 (some 1) = 1 := by
    show (if (1 : Int) < 0 then (1 + (((x :: xs).length : Nat) : Int)).toNat else min (1 : Int).toNat (x :: xs).length) = 1
    rw [if_neg (by decide)]
    show min 1 (xs.length + 1) = 1
    omega
  rw [q, HT.sIx_none]
  show xs.take (xs.length + 1 - 1) = xs
  rw [Nat.add_sub_cancel, List.take_length]
theorem pures_ev : ∀ es : List (Int × Int), Mi.W.pures (es.map fun (e : Int × Int) => evW e.1 e.2) = true
  | [] => rfl
  | _ :: es => pures_ev es
theorem events_in_ok (n lo : Nat) (h : Hpa) (es : List (Int × Int)) (he : ∀ e ∈ es, EvR e.1 e.2) (h1 : es.length ≤ 1000) :
    callF PR (n + 3) lo 7 [.lst (es.map fun (e : Int × Int) => Mi.W.str (evS e.1 e.2)), .int es.length] h = .ok (.tup (es.map fun (e : Int × Int) => evW e.1 e.2)) h := by
  let V : List (Int × Int) → (Option Mi.W × Option Mi.W × Option Mi.W) → Mi.Env := fun _ s => [some (.lst (es.map fun (e : Int × Int) => Mi.W.str (evS e.1 e.2))), some (.int es.length), some (.ref h.length), s.1, s.2.1, s.2.2]
  obtain ⟨s', L⟩ := loop_es (fun (e : Int × Int) => Mi.W.str (evS e.1 e.2)) [] (loopB (.tp [3, 4]) fun v h' => exSs ⟨callF PR (n + 2) h.length, h.length, PR.cst⟩ bd_events_in_1 v h') V (fun pre => h ++ [.lst (pre.map fun (e : Int × Int) => evW e.1 e.2)]) es (fun _ => rfl) (fun pre x post s e => by
    have e1 := at_end h (.lst (pre.map fun (e : Int × Int) => evW e.1 e.2))
    have lp : pre.length < es.length := by rw [e]; simp
    have a1 := app_ok (lo := h.length) (w := evW x.1 x.2) e1 (by rw [List.length_map, LIM]; omega) rfl
    have a0 := app_pre e1
    have N := event_in_ok n h.length (h ++ [.lst (pre.map fun (e : Int × Int) => evW e.1 e.2)]) (he x (by rw [e]; simp))
    have q : cmpW (h ++ [.lst (pre.map fun (e : Int × Int) => evW e.1 e.2)]) .eq (.int (pre.length : Int)) (.int (es.length : Int)) = some false := by
      rw [eq_i, decide_eq_false (by omega)]
    refine ⟨(some (.int (pre.length : Int)), some (.str (evS x.1 x.2)), some (evW x.1 x.2)), ?_⟩
    have body : exSs ⟨callF PR (n + 2) h.length, h.length, PR.cst⟩ bd_events_in_1 [some (.lst (es.map fun (e : Int × Int) => Mi.W.str (evS e.1 e.2))), some (.int es.length), some (.ref h.length), some (.int (pre.length : Int)), some (.str (evS x.1 x.2)), s.2.2] (h ++ [.lst (pre.map fun (e : Int × Int) => evW e.1 e.2)]) = .nx [some (.lst (es.map fun (e : Int × Int) => Mi.W.str (evS e.1 e.2))), some (.int es.length), some (.ref h.length), some (.int (pre.length : Int)), some (.str (evS x.1 x.2)), some (evW x.1 x.2)] (h ++ [.lst ((pre ++ [x]).map fun (e : Int × Int) => evW e.1 e.2)]) := by
      simp (config := { decide := true }) only [bd_events_in_1, N, q, a0, a1, set_end, List.map_append, exSs, exS, evE, evEs, wipeE, tgs, List.map_cons, List.map_nil, List.cons_append, List.nil_append, List.replicate, Nat.sub_self, List.getElem?_cons_zero, List.getElem?_cons_succ, R.bind_ok, R.bind_bad, R.sv_ok, setTg, List.set_cons_zero, List.set_cons_succ, SR.seq_nx, SR.seq_rt, Bool.false_eq_true, if_false, op_add_i, op_sub_i, op_mul_i, op_mod_i, op_fdiv_i, Bool.true_or, Bool.or_true, if_true, ne_eq, not_false_eq_true, and_self, ofO_some, Option.map_some, Nat.reduceAdd, Nat.reduceSub, mkL_nil, mkL_f, mkT_f, List.length_cons, List.length_nil, List.zip_cons_cons, List.zip_nil_left, List.foldl_cons, List.foldl_nil, decide_true, decide_false, noEx_ok]
    exact body) (none, none, none)
  have T := call_eq (P := PR) (i := 7) (n := n + 2) (lo := lo) (ws := [.lst (es.map fun (e : Int × Int) => Mi.W.str (evS e.1 e.2)), .int es.length]) (h := h) (h' := h) (w := .tup (es.map fun (e : Int × Int) => evW e.1 e.2)) (d := fd_events_in) [.lst (es.map fun (e : Int × Int) => evW e.1 e.2)] rfl rfl rfl (pures_ev es) .refl
  refine T ?_
  have tq : bltW (h ++ [.lst (es.map fun (e : Int × Int) => evW e.1 e.2)]) .tuple_ [.ref h.length] = .ok (.tup (es.map fun (e : Int × Int) => evW e.1 e.2)) (h ++ [.lst (es.map fun (e : Int × Int) => evW e.1 e.2)]) := by
    show (match asQ (h ++ [Ob.lst (es.map fun (e : Int × Int) => evW e.1 e.2)]) (.ref h.length) with
      | some xs => mkT xs (h ++ [Ob.lst (es.map fun (e : Int × Int) => evW e.1 e.2)])
      | none => .bad) = _
    rw [asQ_ref (at_end h _)]
    exact mkT_f (by rw [List.length_map, LIM]; omega)
  have lq : bltW (h ++ [.lst (es.map fun (e : Int × Int) => evW e.1 e.2)]) .len [.ref h.length] = .ok (.int es.length) (h ++ [.lst (es.map fun (e : Int × Int) => evW e.1 e.2)]) := by
    show (match asQ (h ++ [Ob.lst (es.map fun (e : Int × Int) => evW e.1 e.2)]) (.ref h.length) with
      | some xs => Mi.R.ok (Mi.W.int xs.length) (h ++ [Ob.lst (es.map fun (e : Int × Int) => evW e.1 e.2)])
      | none => .bad) = _
    rw [asQ_ref (at_end h _)]
    show Mi.R.ok (Mi.W.int ((es.map fun (e : Int × Int) => evW e.1 e.2).length : Nat)) _ = _
    rw [List.length_map]
  have el : exS ⟨callF PR (n + 2) h.length, h.length, PR.cst⟩ st_events_in_1 (V [] (none, none, none)) (h ++ [.lst []]) = .nx (V es s') (h ++ [.lst (es.map fun (e : Int × Int) => evW e.1 e.2)]) := L
  have v2 : (V es s')[2]? = some (some (.ref h.length)) := rfl
  have v1 : (V es s')[1]? = some (some (.int es.length)) := rfl
  have st1 : exS ⟨callF PR (n + 2) h.length, h.length, PR.cst⟩ (.asg (.nm 2) (.lst true .nil)) [some (.lst (es.map fun (e : Int × Int) => Mi.W.str (evS e.1 e.2))), some (.int es.length), none, none, none, none] h = .nx (V [] (none, none, none)) (h ++ [.lst []]) := rfl
  show exSs ⟨callF PR (n + 2) h.length, h.length, PR.cst⟩ fd_events_in.body [some (.lst (es.map fun (e : Int × Int) => Mi.W.str (evS e.1 e.2))), some (.int es.length), none, none, none, none] h = _
  have df : decide ((es.length : Int) < (es.length : Int)) = false := decide_eq_false (Int.lt_irrefl _)
  have ite_ : ∀ (cx : Cxt) (c : E) (a b : Ss) (v : Mi.Env) (h : Hpa), exS cx (.ite c a b) v h = (evE cx c v h).sv v fun x h1 => (match x with
    | .bl true => exSs cx a v h1
    | .bl false => exSs cx b v h1
    | _ => .bad) := fun _ _ _ _ _ _ => rfl
  simp only [fd_events_in, exSs_cons, exSs_nil, st1, SR.seq_nx, el, ite_, exS_ret, evE, evEs, v1, v2, R.bind_ok, lq, lt_i, df, Option.map_some, ofO_some, tq, R.sv_ok, SR.seq_rt]
theorem tup_add {h : Hpa} {a b : List Mi.W} (l : (a ++ b).length ≤ LIM) : opW h .add (.tup a) (.tup b) = .ok (.tup (a ++ b)) h := mkT_f l
theorem paper_in_ok (n lo : Nat) (h : Hpa) {p : Pap} (o : p.Ok) : callF PR (n + 4) lo 9 [.str p.text] h = .ok p.enc h := by
  have pp : p.enc.pure = true := by
    cases p with
    | alike ps => show (true && (Mi.W.pures (ps.map Mi.W.int) && true)) = true; rw [pures_int]; rfl
    | _ => rfl
  refine call_ret (d := fd_paper_in) rfl rfl rfl pp .refl ?_
  have w := words_of_ok (n + 2) h.length h (ps := p.words) (by cases p <;> exact List.cons_ne_nil _ _) (Pap.pts o).1 (by have := (Pap.pts o).2; omega)
  have w : callF PR (n + 3) h.length 5 [.str p.text] h = .ok (.lst (p.words.map .str)) h := w
  have c5 : PR.cst 5 = some (.int 12) := rfl
  have c6 : PR.cst 6 = some (.int 91) := rfl
  have c7 : PR.cst 7 = some (.dkw [.inr "short", .inr "event", .inr "link"] [(.int 0), (.int 1), (.int 2)]) := rfl
  cases p with
  | alike ps =>
    have N := num_in (n + 1) h.length h ps 1 12 91 (fun lo h i hi => nu12 (n + 1) lo h (o.1 i hi).1 (o.1 i hi).2) (by have := o.2; omega) (by have := o.2; omega)
    have N : callF PR (n + 3) h.length 6 [.lst ((ps.map dS).map .str), .int 1, .int 12, .int 91] h = .ok (.tup (ps.map .int)) h := by
      rw [List.map_map]
      exact N
    have ew : (Pap.alike ps).words.map Mi.W.str = .str "alike" :: (ps.map dS).map .str := rfl
    rw [ew] at w
    simp (config := { decide := true }) only [fd_paper_in, w, ixl0, q_al, isNo, ixO, sl_lst, N, c5, c6, exSs, exS, evE, evEs, wipeE, tgs, List.map_cons, List.map_nil, List.cons_append, List.nil_append, List.replicate, Nat.sub_self, List.getElem?_cons_zero, List.getElem?_cons_succ, R.bind_ok, R.bind_bad, R.sv_ok, setTg, List.set_cons_zero, List.set_cons_succ, SR.seq_nx, SR.seq_rt, Bool.false_eq_true, if_false, op_add_i, op_sub_i, op_mul_i, op_mod_i, op_fdiv_i, Bool.true_or, Bool.or_true, if_true, ne_eq, not_false_eq_true, and_self, ofO_some, Option.map_some, Nat.reduceAdd, Nat.reduceSub, mkL_nil, mkL_f, mkT_f, List.length_cons, List.length_nil, List.zip_cons_cons, List.zip_nil_left, List.foldl_cons, List.foldl_nil, decide_true, decide_false, noEx_ok]
    rfl
  | short =>
    have N := events_in_ok n h.length h [] (fun _ z => nomatch z) (by decide)
    have N : callF PR (n + 3) h.length 7 [.lst [], .int 0] h = .ok (.tup []) h := N
    have ew : Pap.short.words.map Mi.W.str = [.str "short"] := rfl
    rw [ew] at w
    have k1 : cmpW h .notin (.str "short") (.dkw [.inr "short", .inr "event", .inr "link"] [(.int 0), (.int 1), (.int 2)]) = some false := by kernel_rfl
    have k2 : idxW h (.dkw [.inr "short", .inr "event", .inr "link"] [(.int 0), (.int 1), (.int 2)]) (.str "short") = some (.int 0) := by kernel_rfl
    have ta : opW h .add (.tup [.str "short"]) (.tup []) = .ok (.tup [.str "short"]) h := rfl
    simp (config := { decide := true }) only [fd_paper_in, w, ixl0, q_sh, isNo, ixO, sl_lst, N, c7, k1, k2, ta, exSs, exS, evE, evEs, wipeE, tgs, List.map_cons, List.map_nil, List.cons_append, List.nil_append, List.replicate, Nat.sub_self, List.getElem?_cons_zero, List.getElem?_cons_succ, R.bind_ok, R.bind_bad, R.sv_ok, setTg, List.set_cons_zero, List.set_cons_succ, SR.seq_nx, SR.seq_rt, Bool.false_eq_true, if_false, op_add_i, op_sub_i, op_mul_i, op_mod_i, op_fdiv_i, Bool.true_or, Bool.or_true, if_true, ne_eq, not_false_eq_true, and_self, ofO_some, Option.map_some, Nat.reduceAdd, Nat.reduceSub, mkL_nil, mkL_f, mkT_f, List.length_cons, List.length_nil, List.zip_cons_cons, List.zip_nil_left, List.foldl_cons, List.foldl_nil, decide_true, decide_false, noEx_ok]
    rfl
  | event a b =>
    have N := events_in_ok n h.length h [(a, b)] (fun e z => by rw [show e = (a, b) by simpa using z]; exact o) (by show 1 ≤ 1000; decide)
    have N : callF PR (n + 3) h.length 7 [.lst [.str (evS a b)], .int 1] h = .ok (.tup [evW a b]) h := N
    have ew : (Pap.event a b).words.map Mi.W.str = [.str "event", .str (evS a b)] := rfl
    rw [ew] at w
    have k1 : cmpW h .notin (.str "event") (.dkw [.inr "short", .inr "event", .inr "link"] [(.int 0), (.int 1), (.int 2)]) = some false := by kernel_rfl
    have k2 : idxW h (.dkw [.inr "short", .inr "event", .inr "link"] [(.int 0), (.int 1), (.int 2)]) (.str "event") = some (.int 1) := by kernel_rfl
    have ta : opW h .add (.tup [.str "event"]) (.tup [evW a b]) = .ok (.tup [.str "event", evW a b]) h := rfl
    simp (config := { decide := true }) only [fd_paper_in, w, ixl0, q_ev, isNo, ixO, sl_lst, N, c7, k1, k2, ta, exSs, exS, evE, evEs, wipeE, tgs, List.map_cons, List.map_nil, List.cons_append, List.nil_append, List.replicate, Nat.sub_self, List.getElem?_cons_zero, List.getElem?_cons_succ, R.bind_ok, R.bind_bad, R.sv_ok, setTg, List.set_cons_zero, List.set_cons_succ, SR.seq_nx, SR.seq_rt, Bool.false_eq_true, if_false, op_add_i, op_sub_i, op_mul_i, op_mod_i, op_fdiv_i, Bool.true_or, Bool.or_true, if_true, ne_eq, not_false_eq_true, and_self, ofO_some, Option.map_some, Nat.reduceAdd, Nat.reduceSub, mkL_nil, mkL_f, mkT_f, List.length_cons, List.length_nil, List.zip_cons_cons, List.zip_nil_left, List.foldl_cons, List.foldl_nil, decide_true, decide_false, noEx_ok]
    rfl
  | link a b c d =>
    have N := events_in_ok n h.length h [(a, b), (c, d)] (fun e z => by
      rcases List.mem_cons.mp z with q | q
      · rw [q]; exact o.1
      · rw [show e = (c, d) by simpa using q]; exact o.2) (by show 2 ≤ 1000; decide)
    have N : callF PR (n + 3) h.length 7 [.lst [.str (evS a b), .str (evS c d)], .int 2] h = .ok (.tup [evW a b, evW c d]) h := N
    have ew : (Pap.link a b c d).words.map Mi.W.str = [.str "link", .str (evS a b), .str (evS c d)] := rfl
    rw [ew] at w
    have k1 : cmpW h .notin (.str "link") (.dkw [.inr "short", .inr "event", .inr "link"] [(.int 0), (.int 1), (.int 2)]) = some false := by kernel_rfl
    have k2 : idxW h (.dkw [.inr "short", .inr "event", .inr "link"] [(.int 0), (.int 1), (.int 2)]) (.str "link") = some (.int 2) := by kernel_rfl
    have ta : opW h .add (.tup [.str "link"]) (.tup [evW a b, evW c d]) = .ok (.tup [.str "link", evW a b, evW c d]) h := rfl
    simp (config := { decide := true }) only [fd_paper_in, w, ixl0, q_li, isNo, ixO, sl_lst, N, c7, k1, k2, ta, exSs, exS, evE, evEs, wipeE, tgs, List.map_cons, List.map_nil, List.cons_append, List.nil_append, List.replicate, Nat.sub_self, List.getElem?_cons_zero, List.getElem?_cons_succ, R.bind_ok, R.bind_bad, R.sv_ok, setTg, List.set_cons_zero, List.set_cons_succ, SR.seq_nx, SR.seq_rt, Bool.false_eq_true, if_false, op_add_i, op_sub_i, op_mul_i, op_mod_i, op_fdiv_i, Bool.true_or, Bool.or_true, if_true, ne_eq, not_false_eq_true, and_self, ofO_some, Option.map_some, Nat.reduceAdd, Nat.reduceSub, mkL_nil, mkL_f, mkT_f, List.length_cons, List.length_nil, List.zip_cons_cons, List.zip_nil_left, List.foldl_cons, List.foldl_nil, decide_true, decide_false, noEx_ok]
    rfl
/-! ### the law's own row -/
theorem comp_bl {h : Hpa} (b : Mi.W → Hpa → Mi.R (Option Mi.W)) {ws : List Int} (hw : ∀ x ∈ ws, b (.int x) h = .ok (some (.str (bl (dS x)))) h) : compL b [] (ws.map Mi.W.int) h = .ok (((ws.map dS).map bl).map .str) h := by
  rw [comp_map Mi.W.int (fun x => Mi.W.str (bl (dS x))) b [] h rfl ws hw, List.map_map, List.map_map]
  rfl
theorem bl_add {h : Hpa} {s : Str} (l : s.length ≤ 10) : opW h .add (.str " ") (.str s) = .ok (.str (bl s)) h := op_add_s (by
  rw [one_len]
  have : (100 : Nat) ≤ LIM := by decide
  omega)
theorem row_text (w : Str) (ws : List Str) : w ++ Str.join "" (ws.map bl) = Txt.join " " (w :: ws) := by
  rw [TL.join_eq, join_bl]
theorem law_row_ok (n lo : Nat) (h : Hpa) {p : Pap} (o : p.Ok) : callF PR (n + 1) lo 15 [p.enc] h = .ok (.str p.text) h := by
  refine call_ret (d := fd__law_row) rfl rfl rfl rfl .refl ?_
  have m0 : mPre h .join (.str "") = true := rfl
  have ld : ("." : Str).length = 1 := by decide +kernel
  have big : (100000 : Nat) ≤ LIM := by decide
  have one : ∀ x : Mi.W, mkL false [x] h = .ok (.lst [x]) h := fun _ => rfl
  have two : ∀ x y : Mi.W, mkL false [x, y] h = .ok (.lst [x, y]) h := fun _ _ => rfl
  have ev : ∀ {a b : Int}, EvR a b → opW h .add (.str (bl (dS a))) (.str ".") = .ok (.str (bl (dS a) ++ ".")) h ∧ opW h .add (.str (bl (dS a) ++ ".")) (.str (dS b)) = .ok (.str (bl (evS a b))) h ∧ opW h .add (.str " ") (.str (dS a)) = .ok (.str (bl (dS a))) h ∧ bltW h .str_ [.int a] = .ok (.str (dS a)) h ∧ bltW h .str_ [.int b] = .ok (.str (dS b)) h := fun {a b} r => by
    have l1 := (dS_of (i := a) (by omega) (by omega)).1
    have l2 := (dS_of (i := b) (by omega) (by omega)).1
    refine ⟨op_add_s (by rw [bl_len, ld]; omega), ?_, bl_add (by omega), str_i (by omega) (by omega) h, str_i (by omega) (by omega) h⟩
    rw [op_add_s (by rw [Str.length_append, bl_len, ld]; omega)]
    unfold bl evS
    rw [PySem.Str.append_assoc, PySem.Str.append_assoc, PySem.Str.append_assoc]
  have jl : ∀ ys : List Str, (∀ y ∈ ys, y.length ≤ 6) → ys.length ≤ 100 → mthW h.length h .join (.str "") [.lst (ys.map .str)] = .ok (.str (Str.join "" ys)) h ∧ (Str.join "" ys).length ≤ 700 := fun ys h1 h2 => by
    have a := join0_run (h := h) (lo := h.length) h1 (by omega)
    rw [TL.join_eq] at a
    have b := join_len "" ys
    have c := sum_le h1
    have z : ("" : Str).length = 0 := by decide +kernel
    rw [z] at b
    exact ⟨a, by omega⟩
  cases p with
  | alike ps =>
    have i1 : idxW h (.tup [.str "alike", .tup (ps.map .int)]) (.int 1) = some (.tup (ps.map .int)) := rfl
    have ml : mkL false (((ps.map dS).map bl).map Mi.W.str) h = .ok (.lst (((ps.map dS).map bl).map .str)) h := mkL_f (by rw [List.length_map, List.length_map, List.length_map, LIM]; have := o.2; omega)
    obtain ⟨j1, j2⟩ := jl ((ps.map dS).map bl) (fun y hy => by
      obtain ⟨x, hx, rfl⟩ := List.mem_map.mp hy
      obtain ⟨z, hz, rfl⟩ := List.mem_map.mp hx
      rw [bl_len]
      have := (dS_of (o.1 z hz).1 (o.1 z hz).2).1
      omega) (by rw [List.length_map, List.length_map]; have := o.2; omega)
    have la : ("alike" : Str).length = 5 := by decide +kernel
    have ad : opW h .add (.str "alike") (.str (Str.join "" ((ps.map dS).map bl))) = .ok (.str (Pap.alike ps).text) h := by
      rw [op_add_s (by omega), row_text]
      rfl
    simp (config := { decide := true }) only [fd__law_row, Pap.enc, ix0, q_al, i1, evI, wkOf, m0, exSs, exS, evE, evEs, wipeE, tgs, List.map_cons, List.map_nil, List.cons_append, List.nil_append, List.replicate, Nat.sub_self, List.getElem?_cons_zero, List.getElem?_cons_succ, R.bind_ok, R.bind_bad, R.sv_ok, setTg, List.set_cons_zero, List.set_cons_succ, SR.seq_nx, SR.seq_rt, Bool.false_eq_true, if_false, op_add_i, op_sub_i, op_mul_i, op_mod_i, op_fdiv_i, Bool.true_or, Bool.or_true, if_true, ne_eq, not_false_eq_true, and_self, ofO_some, Option.map_some, Nat.reduceAdd, Nat.reduceSub, mkL_nil, mkL_f, mkT_f, List.length_cons, List.length_nil, List.zip_cons_cons, List.zip_nil_left, List.foldl_cons, List.foldl_nil, decide_true, decide_false, noEx_ok]
    rw [comp_bl (h := h) _ (ws := ps) fun x hx => by
      have := str_i (i := x) (o.1 x hx).1 (o.1 x hx).2 h
      have l1 := (dS_of (o.1 x hx).1 (o.1 x hx).2).1
      have b1 := bl_add (h := h) (s := dS x) (by omega)
      simp (config := { decide := true }) only [this, b1, exSs, exS, evE, evEs, wipeE, tgs, List.map_cons, List.map_nil, List.cons_append, List.nil_append, List.replicate, Nat.sub_self, List.getElem?_cons_zero, List.getElem?_cons_succ, R.bind_ok, R.bind_bad, R.sv_ok, setTg, List.set_cons_zero, List.set_cons_succ, SR.seq_nx, SR.seq_rt, Bool.false_eq_true, if_false, op_add_i, op_sub_i, op_mul_i, op_mod_i, op_fdiv_i, Bool.true_or, Bool.or_true, if_true, ne_eq, not_false_eq_true, and_self, ofO_some, Option.map_some, Nat.reduceAdd, Nat.reduceSub, mkL_nil, mkL_f, mkT_f, List.length_cons, List.length_nil, List.zip_cons_cons, List.zip_nil_left, List.foldl_cons, List.foldl_nil, decide_true, decide_false, noEx_ok]]
    simp (config := { decide := true }) only [ml, j1, ad, exSs, exS, evE, evEs, wipeE, tgs, List.map_cons, List.map_nil, List.cons_append, List.nil_append, List.replicate, Nat.sub_self, List.getElem?_cons_zero, List.getElem?_cons_succ, R.bind_ok, R.bind_bad, R.sv_ok, setTg, List.set_cons_zero, List.set_cons_succ, SR.seq_nx, SR.seq_rt, Bool.false_eq_true, if_false, op_add_i, op_sub_i, op_mul_i, op_mod_i, op_fdiv_i, Bool.true_or, Bool.or_true, if_true, ne_eq, not_false_eq_true, and_self, ofO_some, Option.map_some, Nat.reduceAdd, Nat.reduceSub, mkL_nil, mkL_f, mkT_f, List.length_cons, List.length_nil, List.zip_cons_cons, List.zip_nil_left, List.foldl_cons, List.foldl_nil, decide_true, decide_false, noEx_ok]
  | short =>
    obtain ⟨j1, j2⟩ := jl [] (fun _ z => nomatch z) (by decide)
    have j1 : mthW h.length h .join (.str "") [.lst []] = .ok (.str (Str.join "" [])) h := j1
    have la : ("short" : Str).length = 5 := by decide +kernel
    have ad : opW h .add (.str "short") (.str (Str.join "" [])) = .ok (.str Pap.short.text) h := by
      rw [op_add_s (by omega)]
      have := row_text "short" []
      rw [show ([] : List Str).map bl = [] from rfl] at this
      rw [this]
      rfl
    simp (config := { decide := true }) only [fd__law_row, Pap.enc, ix0, q_sh, evI, wkOf, m0, isNo, ixO, sl_tup, compL, okGs_nil, j1, ad, exSs, exS, evE, evEs, wipeE, tgs, List.map_cons, List.map_nil, List.cons_append, List.nil_append, List.replicate, Nat.sub_self, List.getElem?_cons_zero, List.getElem?_cons_succ, R.bind_ok, R.bind_bad, R.sv_ok, setTg, List.set_cons_zero, List.set_cons_succ, SR.seq_nx, SR.seq_rt, Bool.false_eq_true, if_false, op_add_i, op_sub_i, op_mul_i, op_mod_i, op_fdiv_i, Bool.true_or, Bool.or_true, if_true, ne_eq, not_false_eq_true, and_self, ofO_some, Option.map_some, Nat.reduceAdd, Nat.reduceSub, mkL_nil, mkL_f, mkT_f, List.length_cons, List.length_nil, List.zip_cons_cons, List.zip_nil_left, List.foldl_cons, List.foldl_nil, decide_true, decide_false, noEx_ok]
  | event a b =>
    obtain ⟨x1, x2, x3, x4, x5⟩ := ev o
    obtain ⟨j1, j2⟩ := jl ([evS a b].map bl) (fun y hy => by
      rw [show y = bl (evS a b) by simpa using hy, bl_len]
      have := (ev_of o).1
      omega) (by show 1 ≤ 100; decide)
    have j1 : mthW h.length h .join (.str "") [.lst [.str (bl (evS a b))]] = .ok (.str (Str.join "" ([evS a b].map bl))) h := j1
    have la : ("event" : Str).length = 5 := by decide +kernel
    have ad : opW h .add (.str "event") (.str (Str.join "" ([evS a b].map bl))) = .ok (.str (Pap.event a b).text) h := by
      rw [op_add_s (by omega), row_text]
      rfl
    simp (config := { decide := true }) only [fd__law_row, Pap.enc, ix0, q_ev, evI, wkOf, m0, one, isNo, ixO, sl_tup, compL, okGs_nil, x1, x2, x3, x4, x5, j1, exSs, exS, evE, evEs, wipeE, tgs, List.map_cons, List.map_nil, List.cons_append, List.nil_append, List.replicate, Nat.sub_self, List.getElem?_cons_zero, List.getElem?_cons_succ, R.bind_ok, R.bind_bad, R.sv_ok, setTg, List.set_cons_zero, List.set_cons_succ, SR.seq_nx, SR.seq_rt, Bool.false_eq_true, if_false, op_add_i, op_sub_i, op_mul_i, op_mod_i, op_fdiv_i, Bool.true_or, Bool.or_true, if_true, ne_eq, not_false_eq_true, and_self, ofO_some, Option.map_some, Nat.reduceAdd, Nat.reduceSub, mkL_nil, mkL_f, mkT_f, List.length_cons, List.length_nil, List.zip_cons_cons, List.zip_nil_left, List.foldl_cons, List.foldl_nil, decide_true, decide_false, noEx_ok]
    exact congrArg (fun r => (Mi.R.sv r _ fun x h1 => SR.rt x h1).seq _) ad
  | link a b c d =>
    obtain ⟨x1, x2, x3, x4, x5⟩ := ev o.1
    obtain ⟨y1, y2, y3, y4, y5⟩ := ev o.2
    obtain ⟨j1, j2⟩ := jl ([evS a b, evS c d].map bl) (fun y hy => by
      have e1 := (ev_of o.1).1
      have e2 := (ev_of o.2).1
      rcases List.mem_cons.mp hy with q | q
      · rw [q, bl_len]; omega
      · rw [show y = bl (evS c d) by simpa using q, bl_len]; omega) (by show 2 ≤ 100; decide)
    have j1 : mthW h.length h .join (.str "") [.lst [.str (bl (evS a b)), .str (bl (evS c d))]] = .ok (.str (Str.join "" ([evS a b, evS c d].map bl))) h := j1
    have la : ("link" : Str).length = 4 := by decide +kernel
    have ad : opW h .add (.str "link") (.str (Str.join "" ([evS a b, evS c d].map bl))) = .ok (.str (Pap.link a b c d).text) h := by
      rw [op_add_s (by omega), row_text]
      rfl
    simp (config := { decide := true }) only [fd__law_row, Pap.enc, ix0, q_li, evI, wkOf, m0, one, two, isNo, ixO, sl_tup, compL, okGs_nil, x1, x2, x3, x4, x5, y1, y2, y3, y4, y5, j1, exSs, exS, evE, evEs, wipeE, tgs, List.map_cons, List.map_nil, List.cons_append, List.nil_append, List.replicate, Nat.sub_self, List.getElem?_cons_zero, List.getElem?_cons_succ, R.bind_ok, R.bind_bad, R.sv_ok, setTg, List.set_cons_zero, List.set_cons_succ, SR.seq_nx, SR.seq_rt, Bool.false_eq_true, if_false, op_add_i, op_sub_i, op_mul_i, op_mod_i, op_fdiv_i, Bool.true_or, Bool.or_true, if_true, ne_eq, not_false_eq_true, and_self, ofO_some, Option.map_some, Nat.reduceAdd, Nat.reduceSub, mkL_nil, mkL_f, mkT_f, List.length_cons, List.length_nil, List.zip_cons_cons, List.zip_nil_left, List.foldl_cons, List.foldl_nil, decide_true, decide_false, noEx_ok]
    exact congrArg (fun r => (Mi.R.sv r _ fun x h1 => SR.rt x h1).seq _) ad
end Lk40

namespace Lk40
open PySem PySem.Spec PyProof.Rows L2 Mi Lw TL
theorem eqvAll_str : ∀ xs : List Str, PyData.eqvAll (xs.map .str) (xs.map .str) = true
  | [] => rfl
  | x :: xs => by
    rw [List.map_cons, PyData.eqvAll, eqv_s, eqvAll_str xs]
    simp
theorem ne_lst {h : Hpa} (xs : List Str) : cmpW h .ne (.lst (xs.map .str)) (.lst (xs.map .str)) = some false := by
  have := eq_lst (h := h) xs xs
  show (cmpW h .eq (.lst (xs.map .str)) (.lst (xs.map .str))).map (!·) = _
  rw [this]
  show some (!PyData.eqv (.list (xs.map .str)) (.list (xs.map .str))) = _
  rw [show PyData.eqv (.list (xs.map .str)) (.list (xs.map .str)) = PyData.eqvAll (xs.map .str) (xs.map .str) from by simp only [PyData.eqv], eqvAll_str]
  rfl
theorem sm_ints {ws : List Int} (h : ∀ x ∈ ws, 0 ≤ x ∧ x ≤ 12) : smBs (ws.map Mi.W.int) = true := by
  rw [smBs_all, List.all_map, List.all_eq_true]
  intro x hx
  have := h x hx
  show (decide (-1000000000 < x) && decide (x < 1000000000)) = true
  rw [decide_eq_true (by omega), decide_eq_true (by omega)]
  rfl
theorem dp_ints : ∀ ws : List Int, dpts (ws.map Mi.W.int) = 0
  | [] => rfl
  | _ :: ws => by
    show max 0 (dpts (ws.map Mi.W.int)) = 0
    rw [dp_ints ws]
    rfl
theorem wt_ints : ∀ ws : List Int, wts (ws.map Mi.W.int) = ws.length * 33
  | [] => rfl
  | _ :: ws => by
    show 32 + 1 + wts (ws.map Mi.W.int) = _
    rw [wt_ints ws, List.length_cons, Nat.succ_mul]
    omega
theorem smB_i {x : Int} (h : 0 ≤ x ∧ x ≤ 12) : smB (.int x) = true := by
  show (decide (-1000000000 < x) && decide (x < 1000000000)) = true
  rw [decide_eq_true (by omega), decide_eq_true (by omega)]
  rfl
theorem sB (s : Str) (e : sOkB0 s = true) : smB (.str s) = true := e
theorem Pap.sm {p : Pap} (o : p.Ok) : smB p.enc = true ∧ dpt p.enc ≤ 3 ∧ wt p.enc ≤ 4000 := by
  have evs : ∀ {a b : Int}, EvR a b → smB (evW a b) = true := fun {a b} r => by
    show (smB (.int a) && (smB (.int b) && true)) = true
    rw [smB_i (by omega), smB_i (by omega)]
    rfl
  cases p with
  | alike ps =>
    refine ⟨?_, ?_, ?_⟩
    · show (smB (.str "alike") && (smBs (ps.map Mi.W.int) && true)) = true
      rw [sB _ pt_alike.ok, sm_ints o.1]
      rfl
    · show max 0 (max (dpts (ps.map Mi.W.int) + 1) 0) + 1 ≤ 3
      rw [dp_ints]
      decide
    · show ("alike" : Str).length + 1 + (wts (ps.map Mi.W.int) + 1 + 0) ≤ 4000
      rw [wt_ints]
      have := pt_alike.len
      have := o.2
      omega
  | short => exact ⟨by decide +kernel, by decide +kernel, by decide +kernel⟩
  | event a b =>
    refine ⟨?_, by show max 0 (max (max 0 (max 0 0) + 1) 0) + 1 ≤ 3; decide, ?_⟩
    · show (smB (.str "event") && (smB (evW a b) && true)) = true
      rw [sB _ pt_event.ok, evs o]
      rfl
    · show ("event" : Str).length + 1 + ((32 + 1 + (32 + 1 + 0)) + 1 + 0) ≤ 4000
      have := pt_event.len
      omega
  | link a b c d =>
    refine ⟨?_, by show max 0 (max (max 0 (max 0 0) + 1) (max (max 0 (max 0 0) + 1) 0)) + 1 ≤ 3; decide, ?_⟩
    · show (smB (.str "link") && (smB (evW a b) && (smB (evW c d) && true))) = true
      rw [sB _ pt_link.ok, evs o.1, evs o.2]
      rfl
    · show ("link" : Str).length + 1 + ((32 + 1 + (32 + 1 + 0)) + 1 + ((32 + 1 + (32 + 1 + 0)) + 1 + 0)) ≤ 4000
      have := pt_link.len
      omega
theorem rep_w {ws : List Int} (o : WvOk ws) : ∃ r, ∀ h, bltW h .repr_ [.tup (ws.map .int)] = .ok (.rep r) h := by
  refine ⟨_, fun h => rep_ok (w := .tup (ws.map .int)) ?_ ?_ ?_ h⟩
  · exact sm_ints fun x hx => by have := o.rng x hx; omega
  · show dpts (ws.map Mi.W.int) + 1 < 20
    rw [dp_ints]
    decide
  · show wts (ws.map Mi.W.int) ≤ 1000000
    rw [wt_ints]
    have := o.len
    omega
structure PsOk (ps : List Pap) : Prop where
  ok : ∀ p ∈ ps, p.Ok
  len : ps.length ≤ 5
theorem rep_p {ps : List Pap} (o : PsOk ps) : ∃ r, ∀ h, bltW h .repr_ [.lst (ps.map Pap.enc)] = .ok (.rep r) h := by
  refine ⟨_, fun h => rep_ok (w := .lst (ps.map Pap.enc)) ?_ ?_ ?_ h⟩
  · show smBs (ps.map Pap.enc) = true
    rw [smBs_all, List.all_map, List.all_eq_true]
    exact fun p hp => (Pap.sm (o.ok p hp)).1
  · have : dpts (ps.map Pap.enc) ≤ 3 := dpts_le fun x hx => by
      obtain ⟨p, hp, rfl⟩ := List.mem_map.mp hx
      exact (Pap.sm (o.ok p hp)).2.1
    show dpts (ps.map Pap.enc) + 1 < 20
    omega
  · have : wts (ps.map Pap.enc) ≤ (ps.map Pap.enc).length * (4000 + 1) := wts_le fun x hx => by
      obtain ⟨p, hp, rfl⟩ := List.mem_map.mp hx
      exact (Pap.sm (o.ok p hp)).2.2
    rw [List.length_map] at this
    show wts (ps.map Pap.enc) ≤ 1000000
    have := o.len
    omega
theorem rep_ne_same {h : Hpa} {r : Str} : cmpW h .ne (.rep r) (.rep r) = some false := by
  rw [rep_ne]
  simp
theorem ne_s_same {h : Hpa} {r : Str} : cmpW h .ne (.str r) (.str r) = some false := by
  rw [ne_s, eqv_s]
  simp
theorem right_ok (n lo : Nat) (h : Hpa) {ws : List Int} {ps : List Pap} (o : WvOk ws) (q : PsOk ps) : callF PR (n + 5) lo 17 [.tup (ws.map .int), .lst (ps.map Pap.enc)] h = .ok (.bl true) h := by
  refine call_ret (d := fd__law_right) rfl rfl rfl rfl .refl ?_
  obtain ⟨rw_, R1⟩ := rep_w o
  obtain ⟨rp, R2⟩ := rep_p q
  have W1 := weaving_text_ok (n + 3) h.length h o
  have W2 := weaving_in_ok (n + 1) h.length h o
  have W1 : callF PR (n + 4) h.length 0 [.tup (ws.map .int)] h = .ok (.str (wText ws)) h := W1
  have W2 : callF PR (n + 4) h.length 8 [.str (wText ws)] h = .ok (.tup (ws.map .int)) h := W2
  -- the text
  let TX : Str := cutS (Str.join "" ((ws.map dS).map bl)) (some 1) none
  have ht : ws ≠ [] → TX = wText ws := fun ne => by
    show cutS (Str.join "" ((ws.map dS).map bl)) (some 1) none = wText ws
    cases hw : ws with
    | nil => exact absurd hw ne
    | cons x r =>
      rw [List.map_cons, join_bl0]
      unfold bl
      rw [cut1]
      unfold wText
      rw [if_neg (List.cons_ne_nil _ _), TL.join_eq]
      rfl
  have m0 : mPre h .join (.str "") = true := rfl
  have l2 : ∀ y ∈ ((ws.map dS).map bl), y.length ≤ 3 := fun y hy => by
    obtain ⟨x, hx, rfl⟩ := List.mem_map.mp hy
    obtain ⟨z, hz, rfl⟩ := List.mem_map.mp hx
    rw [bl_len]
    have := o.rng z hz
    have := (dS_of (i := z) (by omega) (by omega)).1
    omega
  have ll : ((ws.map dS).map bl).length ≤ 14 := by rw [List.length_map, List.length_map]; exact o.len
  have j1 : mthW h.length h .join (.str "") [.lst (((ws.map dS).map bl).map .str)] = .ok (.str (Str.join "" ((ws.map dS).map bl))) h := by
    have a := join0_run (h := h) (lo := h.length) l2 (by omega)
    rwa [TL.join_eq] at a
  have j2 : (Str.join "" ((ws.map dS).map bl)).length ≤ LIM := by
    have b := join_len "" ((ws.map dS).map bl)
    have c := sum_le l2
    have z : ("" : Str).length = 0 := by decide +kernel
    rw [z] at b
    have : (100000 : Nat) ≤ LIM := by decide
    omega
  have ml : mkL false (((ws.map dS).map bl).map Mi.W.str) h = .ok (.lst (((ws.map dS).map bl).map .str)) h := mkL_f (by rw [List.length_map, LIM]; omega)
  have sc : slcW h (.str (Str.join "" ((ws.map dS).map bl))) (some 1) none = some (.str TX) := slc_s j2 _ _
  have st1 : exS ⟨callF PR (n + 4) h.length, h.length, PR.cst⟩ (.asg (.nm 2) (.slc (.mth .join (.str "") (.cons (.comp false (.op .add (.str " ") (.blt .str_ (.cons (.var 4) .nil))) (.nm 4) (.of (.var 0)) (.bl true)) .nil)) (.int 1) .no)) [some (.tup (ws.map .int)), some (.lst (ps.map Pap.enc)), none, none, none, none] h = .nx [some (.tup (ws.map .int)), some (.lst (ps.map Pap.enc)), some (.str TX), none, none, none] h := by
    simp (config := { decide := true }) only [evI, wkOf, m0, isNo, ixO, exSs, exS, evE, evEs, wipeE, tgs, List.map_cons, List.map_nil, List.cons_append, List.nil_append, List.replicate, Nat.sub_self, List.getElem?_cons_zero, List.getElem?_cons_succ, R.bind_ok, R.bind_bad, R.sv_ok, setTg, List.set_cons_zero, List.set_cons_succ, SR.seq_nx, SR.seq_rt, Bool.false_eq_true, if_false, op_add_i, op_sub_i, op_mul_i, op_mod_i, op_fdiv_i, Bool.true_or, Bool.or_true, if_true, ne_eq, not_false_eq_true, and_self, ofO_some, Option.map_some, Nat.reduceAdd, Nat.reduceSub, mkL_nil, mkL_f, mkT_f, List.length_cons, List.length_nil, List.zip_cons_cons, List.zip_nil_left, List.foldl_cons, List.foldl_nil, decide_true, decide_false, noEx_ok]
    rw [comp_bl (h := h) _ (ws := ws) fun x hx => by
      have r := o.rng x hx
      have this := str_i (i := x) r.1 (by omega) h
      have l1 := (dS_of (i := x) r.1 (by omega)).1
      have b1 := bl_add (h := h) (s := dS x) (by omega)
      simp (config := { decide := true }) only [this, b1, exSs, exS, evE, evEs, wipeE, tgs, List.map_cons, List.map_nil, List.cons_append, List.nil_append, List.replicate, Nat.sub_self, List.getElem?_cons_zero, List.getElem?_cons_succ, R.bind_ok, R.bind_bad, R.sv_ok, setTg, List.set_cons_zero, List.set_cons_succ, SR.seq_nx, SR.seq_rt, Bool.false_eq_true, if_false, op_add_i, op_sub_i, op_mul_i, op_mod_i, op_fdiv_i, Bool.true_or, Bool.or_true, if_true, ne_eq, not_false_eq_true, and_self, ofO_some, Option.map_some, Nat.reduceAdd, Nat.reduceSub, mkL_nil, mkL_f, mkT_f, List.length_cons, List.length_nil, List.zip_cons_cons, List.zip_nil_left, List.foldl_cons, List.foldl_nil, decide_true, decide_false, noEx_ok]]
    simp (config := { decide := true }) only [ml, j1, isNo, ixO, sc, exSs, exS, evE, evEs, wipeE, tgs, List.map_cons, List.map_nil, List.cons_append, List.nil_append, List.replicate, Nat.sub_self, List.getElem?_cons_zero, List.getElem?_cons_succ, R.bind_ok, R.bind_bad, R.sv_ok, setTg, List.set_cons_zero, List.set_cons_succ, SR.seq_nx, SR.seq_rt, Bool.false_eq_true, if_false, op_add_i, op_sub_i, op_mul_i, op_mod_i, op_fdiv_i, Bool.true_or, Bool.or_true, if_true, ne_eq, not_false_eq_true, and_self, ofO_some, Option.map_some, Nat.reduceAdd, Nat.reduceSub, mkL_nil, mkL_f, mkT_f, List.length_cons, List.length_nil, List.zip_cons_cons, List.zip_nil_left, List.foldl_cons, List.foldl_nil, decide_true, decide_false, noEx_ok]
  -- a turn
  have P1 : ∀ body, (∀ p ∈ ps, body p.enc h = .ok (some (.str p.text)) h) → compL body [] (ps.map Pap.enc) h = .ok ((ps.map Pap.text).map .str) h := fun body hb => by
    rw [comp_map Pap.enc (fun p => Mi.W.str p.text) body [] h rfl ps hb, List.map_map]
    rfl
  have P2 : ∀ body, (∀ p ∈ ps, body p.enc h = .ok (some p.enc) h) → compL body [] (ps.map Pap.enc) h = .ok (ps.map Pap.enc) h := fun body hb => comp_map Pap.enc Pap.enc body [] h rfl ps hb
  have mp : mkL false ((ps.map Pap.text).map Mi.W.str) h = .ok (.lst ((ps.map Pap.text).map .str)) h := mkL_f (by rw [List.length_map, List.length_map, LIM]; have := q.len; omega)
  have mq : mkL false (ps.map Pap.enc) h = .ok (.lst (ps.map Pap.enc)) h := mkL_f (by rw [List.length_map, LIM]; have := q.len; omega)
  have nt := ne_tup (h := h) ws
  have mt : mkT [] h = .ok (.tup []) h := rfl
  have nl := ne_lst (h := h) (ps.map Pap.text)
  have T2 := fun p hp => paper_text_ok (n + 2) h.length h (p := p) (q.ok p hp)
  have T15 := fun p hp => law_row_ok (n + 3) h.length h (p := p) (q.ok p hp)
  have T9 := fun p hp => paper_in_ok n h.length h (p := p) (q.ok p hp)
  have c1 : ∀ (cx : Cxt) (v : Mi.Env), v[1]? = some (some (.lst (ps.map Pap.enc))) → evI cx (.of (.var 1)) v h = .ok ⟨ps.map Pap.enc, []⟩ h := fun cx v hv => by
    simp only [evI, evE, hv, R.bind_ok, wkOf, asL, gOn, Option.map_some, ofO_some]
  have turn : ∀ t : Int, exSs ⟨callF PR (n + 4) h.length, h.length, PR.cst⟩ bd__law_right_1 [some (.tup (ws.map .int)), some (.lst (ps.map Pap.enc)), some (.str TX), some (.int t), none, none] h = .nx [some (.tup (ws.map .int)), some (.lst (ps.map Pap.enc)), some (.str TX), some (.int t), none, none] h := fun t => by
    have e3 : evE ⟨callF PR (n + 4) h.length, h.length, PR.cst⟩ (.comp false (.call 2 (.cons (.var 5) .nil)) (.nm 5) (.of (.var 1)) (.bl true)) [some (.tup (ws.map .int)), some (.lst (ps.map Pap.enc)), some (.str TX), some (.int t), none, none] h = .ok (.lst ((ps.map Pap.text).map .str)) h := by
      simp (config := { decide := true }) only [evI, wkOf, asL, gOn, exSs, exS, evE, evEs, wipeE, tgs, List.map_cons, List.map_nil, List.cons_append, List.nil_append, List.replicate, Nat.sub_self, List.getElem?_cons_zero, List.getElem?_cons_succ, R.bind_ok, R.bind_bad, R.sv_ok, setTg, List.set_cons_zero, List.set_cons_succ, SR.seq_nx, SR.seq_rt, Bool.false_eq_true, if_false, op_add_i, op_sub_i, op_mul_i, op_mod_i, op_fdiv_i, Bool.true_or, Bool.or_true, if_true, ne_eq, not_false_eq_true, and_self, ofO_some, Option.map_some, Nat.reduceAdd, Nat.reduceSub, mkL_nil, mkL_f, mkT_f, List.length_cons, List.length_nil, List.zip_cons_cons, List.zip_nil_left, List.foldl_cons, List.foldl_nil, decide_true, decide_false, noEx_ok]
      rw [P1 _ fun p hp => by
        have := T2 p hp
        simp (config := { decide := true }) only [this, exSs, exS, evE, evEs, wipeE, tgs, List.map_cons, List.map_nil, List.cons_append, List.nil_append, List.replicate, Nat.sub_self, List.getElem?_cons_zero, List.getElem?_cons_succ, R.bind_ok, R.bind_bad, R.sv_ok, setTg, List.set_cons_zero, List.set_cons_succ, SR.seq_nx, SR.seq_rt, Bool.false_eq_true, if_false, op_add_i, op_sub_i, op_mul_i, op_mod_i, op_fdiv_i, Bool.true_or, Bool.or_true, if_true, ne_eq, not_false_eq_true, and_self, ofO_some, Option.map_some, Nat.reduceAdd, Nat.reduceSub, mkL_nil, mkL_f, mkT_f, List.length_cons, List.length_nil, List.zip_cons_cons, List.zip_nil_left, List.foldl_cons, List.foldl_nil, decide_true, decide_false, noEx_ok]]
      simp only [noEx_ok, R.bind_ok, mp]
    have e4 : evE ⟨callF PR (n + 4) h.length, h.length, PR.cst⟩ (.comp false (.call 15 (.cons (.var 5) .nil)) (.nm 5) (.of (.var 1)) (.bl true)) [some (.tup (ws.map .int)), some (.lst (ps.map Pap.enc)), some (.str TX), some (.int t), none, none] h = .ok (.lst ((ps.map Pap.text).map .str)) h := by
      simp (config := { decide := true }) only [evI, wkOf, asL, gOn, exSs, exS, evE, evEs, wipeE, tgs, List.map_cons, List.map_nil, List.cons_append, List.nil_append, List.replicate, Nat.sub_self, List.getElem?_cons_zero, List.getElem?_cons_succ, R.bind_ok, R.bind_bad, R.sv_ok, setTg, List.set_cons_zero, List.set_cons_succ, SR.seq_nx, SR.seq_rt, Bool.false_eq_true, if_false, op_add_i, op_sub_i, op_mul_i, op_mod_i, op_fdiv_i, Bool.true_or, Bool.or_true, if_true, ne_eq, not_false_eq_true, and_self, ofO_some, Option.map_some, Nat.reduceAdd, Nat.reduceSub, mkL_nil, mkL_f, mkT_f, List.length_cons, List.length_nil, List.zip_cons_cons, List.zip_nil_left, List.foldl_cons, List.foldl_nil, decide_true, decide_false, noEx_ok]
      rw [P1 _ fun p hp => by
        have := T15 p hp
        simp (config := { decide := true }) only [this, exSs, exS, evE, evEs, wipeE, tgs, List.map_cons, List.map_nil, List.cons_append, List.nil_append, List.replicate, Nat.sub_self, List.getElem?_cons_zero, List.getElem?_cons_succ, R.bind_ok, R.bind_bad, R.sv_ok, setTg, List.set_cons_zero, List.set_cons_succ, SR.seq_nx, SR.seq_rt, Bool.false_eq_true, if_false, op_add_i, op_sub_i, op_mul_i, op_mod_i, op_fdiv_i, Bool.true_or, Bool.or_true, if_true, ne_eq, not_false_eq_true, and_self, ofO_some, Option.map_some, Nat.reduceAdd, Nat.reduceSub, mkL_nil, mkL_f, mkT_f, List.length_cons, List.length_nil, List.zip_cons_cons, List.zip_nil_left, List.foldl_cons, List.foldl_nil, decide_true, decide_false, noEx_ok]]
      simp only [noEx_ok, R.bind_ok, mp]
    have e5 : evE ⟨callF PR (n + 4) h.length, h.length, PR.cst⟩ (.comp false (.call 9 (.cons (.call 15 (.cons (.var 5) .nil)) .nil)) (.nm 5) (.of (.var 1)) (.bl true)) [some (.tup (ws.map .int)), some (.lst (ps.map Pap.enc)), some (.str TX), some (.int t), none, none] h = .ok (.lst (ps.map Pap.enc)) h := by
      simp (config := { decide := true }) only [evI, wkOf, asL, gOn, exSs, exS, evE, evEs, wipeE, tgs, List.map_cons, List.map_nil, List.cons_append, List.nil_append, List.replicate, Nat.sub_self, List.getElem?_cons_zero, List.getElem?_cons_succ, R.bind_ok, R.bind_bad, R.sv_ok, setTg, List.set_cons_zero, List.set_cons_succ, SR.seq_nx, SR.seq_rt, Bool.false_eq_true, if_false, op_add_i, op_sub_i, op_mul_i, op_mod_i, op_fdiv_i, Bool.true_or, Bool.or_true, if_true, ne_eq, not_false_eq_true, and_self, ofO_some, Option.map_some, Nat.reduceAdd, Nat.reduceSub, mkL_nil, mkL_f, mkT_f, List.length_cons, List.length_nil, List.zip_cons_cons, List.zip_nil_left, List.foldl_cons, List.foldl_nil, decide_true, decide_false, noEx_ok]
      rw [P2 _ fun p hp => by
        have h1 := T15 p hp
        have h2 := T9 p hp
        simp (config := { decide := true }) only [h1, h2, exSs, exS, evE, evEs, wipeE, tgs, List.map_cons, List.map_nil, List.cons_append, List.nil_append, List.replicate, Nat.sub_self, List.getElem?_cons_zero, List.getElem?_cons_succ, R.bind_ok, R.bind_bad, R.sv_ok, setTg, List.set_cons_zero, List.set_cons_succ, SR.seq_nx, SR.seq_rt, Bool.false_eq_true, if_false, op_add_i, op_sub_i, op_mul_i, op_mod_i, op_fdiv_i, Bool.true_or, Bool.or_true, if_true, ne_eq, not_false_eq_true, and_self, ofO_some, Option.map_some, Nat.reduceAdd, Nat.reduceSub, mkL_nil, mkL_f, mkT_f, List.length_cons, List.length_nil, List.zip_cons_cons, List.zip_nil_left, List.foldl_cons, List.foldl_nil, decide_true, decide_false, noEx_ok]]
      simp only [noEx_ok, R.bind_ok, mq]
    have e1 : evE ⟨callF PR (n + 4) h.length, h.length, PR.cst⟩ (.ite (.cmp .ne (.var 0) (.tup .nil)) (.var 2) (.str "-")) [some (.tup (ws.map .int)), some (.lst (ps.map Pap.enc)), some (.str TX), some (.int t), none, none] h = .ok (.str (wText ws)) h := by
      cases hw : ws.isEmpty with
      | true =>
        have : ws = [] := List.isEmpty_iff.mp hw
        have e : wText ws = "-" := if_pos this
        simp (config := { decide := true }) only [nt, mt, hw, Bool.not_true, e, exSs, exS, evE, evEs, wipeE, tgs, List.map_cons, List.map_nil, List.cons_append, List.nil_append, List.replicate, Nat.sub_self, List.getElem?_cons_zero, List.getElem?_cons_succ, R.bind_ok, R.bind_bad, R.sv_ok, setTg, List.set_cons_zero, List.set_cons_succ, SR.seq_nx, SR.seq_rt, Bool.false_eq_true, if_false, op_add_i, op_sub_i, op_mul_i, op_mod_i, op_fdiv_i, Bool.true_or, Bool.or_true, if_true, ne_eq, not_false_eq_true, and_self, ofO_some, Option.map_some, Nat.reduceAdd, Nat.reduceSub, mkL_nil, mkL_f, mkT_f, List.length_cons, List.length_nil, List.zip_cons_cons, List.zip_nil_left, List.foldl_cons, List.foldl_nil, decide_true, decide_false, noEx_ok]
      | false =>
        have : ws ≠ [] := fun z => by rw [z] at hw; cases hw
        simp (config := { decide := true }) only [nt, mt, hw, Bool.not_false, ht this, exSs, exS, evE, evEs, wipeE, tgs, List.map_cons, List.map_nil, List.cons_append, List.nil_append, List.replicate, Nat.sub_self, List.getElem?_cons_zero, List.getElem?_cons_succ, R.bind_ok, R.bind_bad, R.sv_ok, setTg, List.set_cons_zero, List.set_cons_succ, SR.seq_nx, SR.seq_rt, Bool.false_eq_true, if_false, op_add_i, op_sub_i, op_mul_i, op_mod_i, op_fdiv_i, Bool.true_or, Bool.or_true, if_true, ne_eq, not_false_eq_true, and_self, ofO_some, Option.map_some, Nat.reduceAdd, Nat.reduceSub, mkL_nil, mkL_f, mkT_f, List.length_cons, List.length_nil, List.zip_cons_cons, List.zip_nil_left, List.foldl_cons, List.foldl_nil, decide_true, decide_false, noEx_ok]
    have s0 : ∀ (cx : Cxt) (c : E) (a b : Ss) (v : Mi.Env) (h : Hpa), exS cx (.ite c a b) v h = (evE cx c v h).sv v fun x h1 => (match x with
      | .bl true => exSs cx a v h1
      | .bl false => exSs cx b v h1
      | _ => .bad) := fun _ _ _ _ _ _ => rfl
    have cm : ∀ (cx : Cxt) (c : C2) (a b : E) (v : Mi.Env) (h : Hpa), evE cx (.cmp c a b) v h = (evE cx a v h).bind fun x h1 => (evE cx b v h1).bind fun y h2 => ofO ((cmpW h2 c x y).map .bl) h2 := fun _ _ _ _ _ _ => rfl
    have bt : ∀ (cx : Cxt) (f : Bt) (es : Es) (v : Mi.Env) (h : Hpa), evE cx (.blt f es) v h = (evEs cx es v h).bind fun ws h1 => bltW h1 f ws := fun _ _ _ _ _ => rfl
    have cl : ∀ (cx : Cxt) (f : Nat) (es : Es) (v : Mi.Env) (h : Hpa), evE cx (.call f es) v h = (evEs cx es v h).bind fun ws h1 => cx.call f ws h1 := fun _ _ _ _ _ => rfl
    have ec : ∀ (cx : Cxt) (e : E) (es : Es) (v : Mi.Env) (h : Hpa), evEs cx (.cons e es) v h = (evE cx e v h).bind fun x h1 => (evEs cx es v h1).bind fun xs h2 => .ok (x :: xs) h2 := fun _ _ _ _ _ => rfl
    have en : ∀ (cx : Cxt) (v : Mi.Env) (h : Hpa), evEs cx .nil v h = .ok [] h := fun _ _ _ => rfl
    have va : ∀ (cx : Cxt) (i : Nat) (v : Mi.Env) (h : Hpa), evE cx (.var i) v h = (match v[i]? with
      | some (some w) => .ok w h
      | _ => .bad) := fun _ _ _ _ => rfl
    simp only [bd__law_right_1, exSs_cons, exSs_nil, s0, cm, bt, cl, ec, en, va, e1, e3, e4, e5, List.getElem?_cons_zero, List.getElem?_cons_succ, R.bind_ok, R.sv_ok, SR.seq_nx, W1, W2, R1, R2, rep_ne_same, ne_s_same, nl, Option.map_some, ofO_some]
  have s2 : small62 2 = true := by decide
  have r2 : rngW 0 2 = [.int (0 + (0 : Nat)), .int (0 + (1 : Nat))] := rfl
  have lp : exS ⟨callF PR (n + 4) h.length, h.length, PR.cst⟩ st__law_right_1 [some (.tup (ws.map .int)), some (.lst (ps.map Pap.enc)), some (.str TX), none, none, none] h = .nx [some (.tup (ws.map .int)), some (.lst (ps.map Pap.enc)), some (.str TX), some (.int (0 + (1 : Nat))), none, none] h := by
    simp only [st__law_right_1, exS, evI, evE, s2, r2, if_true, R.bind_ok, R.sv_ok, loopL, okGs, List.all_nil, setTg, List.set_cons_zero, List.set_cons_succ, turn]
  show exSs ⟨callF PR (n + 4) h.length, h.length, PR.cst⟩ fd__law_right.body [some (.tup (ws.map .int)), some (.lst (ps.map Pap.enc)), none, none, none, none] h = _
  simp only [fd__law_right, exSs_cons, st1, lp, SR.seq_nx, exS_ret, evE, R.sv_ok, SR.seq_rt]
end Lk40

namespace Lk40
open PySem PySem.Spec PyProof.Rows L2 Mi Lw TL
theorem event_d (n lo : Nat) {h : Hpa} {b : Nat} (m : Mok h (b + 2)) : ∃ (x y : Int) (h' : Hpa), EvR x y ∧ callF PR (n + 4) lo 14 [.ref 0] h = .ok (evW x y) h' ∧ Mok h' b ∧ Kp h h' := by
  obtain ⟨x, h1, D1, r1, r2, m1, k1⟩ := draw_m has n h.length (b := b + 1) (many := 5) m (by decide) (by decide)
  obtain ⟨y, h2, D2, r3, r4, m2, k2⟩ := draw_m has n h.length (b := b) (many := 6) m1 (by decide) (by decide)
  refine ⟨x, y, h2, ⟨⟨r1, r2⟩, r3, r4⟩, call_ret (d := fd__law_event) rfl rfl rfl rfl (k1.trans k2) ?_, m2, k1.trans k2⟩
  have mt : mkT [Mi.W.int x, .int y] h2 = .ok (evW x y) h2 := rfl
  simp (config := { decide := true }) only [fd__law_event, D1, D2, mt, exSs, exS, evE, evEs, wipeE, tgs, List.map_cons, List.map_nil, List.cons_append, List.nil_append, List.replicate, Nat.sub_self, List.getElem?_cons_zero, List.getElem?_cons_succ, R.bind_ok, R.bind_bad, R.sv_ok, setTg, List.set_cons_zero, List.set_cons_succ, SR.seq_nx, SR.seq_rt, Bool.false_eq_true, if_false, op_add_i, op_sub_i, op_mul_i, op_mod_i, op_fdiv_i, Bool.true_or, Bool.or_true, if_true, ne_eq, not_false_eq_true, and_self, ofO_some, Option.map_some, Nat.reduceAdd, Nat.reduceSub, mkL_nil, mkL_f, mkT_f, List.length_cons, List.length_nil, List.zip_cons_cons, List.zip_nil_left, List.foldl_cons, List.foldl_nil, decide_true, decide_false, noEx_ok]
theorem ints_of : ∀ {ys : List Mi.W} {n : Int}, (∀ y ∈ ys, ∃ v : Int, y = .int v ∧ 0 ≤ v ∧ v < n) → ∃ vs : List Int, ys = vs.map .int ∧ ∀ v ∈ vs, 0 ≤ v ∧ v < n
  | [], _, _ => ⟨[], rfl, fun _ z => nomatch z⟩
  | y :: ys, n, h => by
    obtain ⟨v, e, r⟩ := h y List.mem_cons_self
    obtain ⟨vs, e2, r2⟩ := ints_of (ys := ys) fun z hz => h z (List.mem_cons_of_mem _ hz)
    refine ⟨v :: vs, by rw [e, e2]; rfl, fun x hx => ?_⟩
    rcases List.mem_cons.mp hx with q | q
    · rw [q]; exact r
    · exact r2 x q
/-- [draw(m, many) for k in range(..)] -/
theorem draws (n lo : Nat) (many : Int) (h1 : 1 ≤ many) (h2 : many < 2 ^ 20) (v0 v1 v2 v3 v4 : Option Mi.W) (body : Mi.W → Hpa → Mi.R (Option Mi.W)) (hb : ∀ (k : Nat) h, body (.int (0 + (k : Int))) h = (callF PR (n + 3) lo 12 [.ref 0, .int many] h).bind fun y h4 => .ok (some y) h4) (t : Int) (ht : 0 ≤ t) (h : Hpa) (b : Nat) (m : Mok h (b + t.toNat)) :
    ∃ (vs : List Int) (h' : Hpa), compL body [] (rngW 0 t) h = .ok (vs.map Mi.W.int) h' ∧ vs.length = t.toNat ∧ (∀ v ∈ vs, 0 ≤ v ∧ v < many) ∧ Mok h' b ∧ Kp h h' := by
  obtain ⟨ys, h', e, l, g, m', k'⟩ := comp_m (fun (k : Nat) => Mi.W.int (0 + (k : Int))) (fun y => ∃ v : Int, y = .int v ∧ 0 ≤ v ∧ v < many) 1 body (fun x h b m => by
    obtain ⟨v, h1', D, r1, r2, m1, k1⟩ := draw_m has n lo (b := b) m h1 h2
    refine ⟨.int v, h1', ?_, ⟨v, rfl, r1, r2⟩, m1, k1⟩
    rw [hb, D]
    rfl) (List.range (t - 0).toNat) h b (by rw [List.length_range, Nat.mul_one, Int.sub_zero]; exact m)
  obtain ⟨vs, ev, rv⟩ := ints_of g
  refine ⟨vs, h', ?_, ?_, rv, m', k'⟩
  · rw [rng_map, e, ev]
  · rw [ev, List.length_map, List.length_range, Int.sub_zero] at l
    exact l
theorem sm62 {t : Int} (h0 : 0 ≤ t) (h1 : t < 1000000) : small62 t = true := by
  unfold small62
  rw [Bool.and_eq_true]
  exact ⟨decide_eq_true (by omega), decide_eq_true (by omega)⟩
theorem tuple_l {h : Hpa} {xs : List Mi.W} (l : xs.length ≤ LIM) : bltW h .tuple_ [.lst xs] = .ok (.tup xs) h := mkT_f l
theorem papers_d (n lo : Nat) {h : Hpa} {b : Nat} (m : Mok h (b + 100)) : ∃ (ps : List Pap) (h' : Hpa), PsOk ps ∧ callF PR (n + 5) lo 16 [.ref 0] h = .ok (.lst (ps.map Pap.enc)) h' ∧ Mok h' b ∧ Kp h h' := by
  obtain ⟨v, h1, D1, r1, r2, m1, k1⟩ := draw_m has (n + 1) h.length (b := b + 99) (many := 6) m (by decide) (by decide)
  have ix : ∃ t : Int, (0 ≤ t ∧ t ≤ 91) ∧ ∀ hh, idxW hh (.lst [.int 0, .int 1, .int 2, .int 5, .int 30, .int 91]) (.int v) = some (.int t) := by
    have : v = 0 ∨ v = 1 ∨ v = 2 ∨ v = 3 ∨ v = 4 ∨ v = 5 := by omega
    rcases this with z | z | z | z | z | z <;> rw [z]
    · exact ⟨0, by decide, fun _ => rfl⟩
    · exact ⟨1, by decide, fun _ => rfl⟩
    · exact ⟨2, by decide, fun _ => rfl⟩
    · exact ⟨5, by decide, fun _ => rfl⟩
    · exact ⟨30, by decide, fun _ => rfl⟩
    · exact ⟨91, by decide, fun _ => rfl⟩
  obtain ⟨t, ht, ix⟩ := ix
  have C : ∀ body, (∀ (k : Nat) h', body (.int (0 + (k : Int))) h' = (callF PR (n + 4) h.length 12 [.ref 0, .int 13] h').bind fun y h4 => .ok (some y) h4) → ∃ (vs : List Int) (h' : Hpa), compL body [] (rngW 0 t) h1 = .ok (vs.map Mi.W.int) h' ∧ vs.length = t.toNat ∧ (∀ v ∈ vs, 0 ≤ v ∧ v < 13) ∧ Mok h' (b + 6) ∧ Kp h1 h' := fun body hb => draws (n + 1) h.length 13 (by decide) (by decide) none none none none none body hb t ht.1 h1 (b + 6) (m1.le (by omega))
  have mk6 : ∀ h : Hpa, mkL false [Mi.W.int 0, .int 1, .int 2, .int 5, .int 30, .int 91] h = .ok (.lst [.int 0, .int 1, .int 2, .int 5, .int 30, .int 91]) h := fun _ => rfl
  have s1 : exS ⟨callF PR (n + 4) h.length, h.length, PR.cst⟩ (.asg (.nm 1) (.idx (.lst false (.cons (.int 0) (.cons (.int 1) (.cons (.int 2) (.cons (.int 5) (.cons (.int 30) (.cons (.int 91) .nil))))))) (.call 12 (.cons (.var 0) (.cons (.int 6) .nil))))) [some (.ref 0), none, none, none] h = .nx [some (.ref 0), some (.int t), none, none] h1 := by
    simp (config := { decide := true }) only [mk6, D1, ix, exSs, exS, evE, evEs, wipeE, tgs, List.map_cons, List.map_nil, List.cons_append, List.nil_append, List.replicate, Nat.sub_self, List.getElem?_cons_zero, List.getElem?_cons_succ, R.bind_ok, R.bind_bad, R.sv_ok, setTg, List.set_cons_zero, List.set_cons_succ, SR.seq_nx, SR.seq_rt, Bool.false_eq_true, if_false, op_add_i, op_sub_i, op_mul_i, op_mod_i, op_fdiv_i, Bool.true_or, Bool.or_true, if_true, ne_eq, not_false_eq_true, and_self, ofO_some, Option.map_some, Nat.reduceAdd, Nat.reduceSub, mkL_nil, mkL_f, mkT_f, List.length_cons, List.length_nil, List.zip_cons_cons, List.zip_nil_left, List.foldl_cons, List.foldl_nil, decide_true, decide_false, noEx_ok]
  let bd : Mi.W → Hpa → Mi.R (Option Mi.W) := fun x h2 => (callF PR (n + 4) h.length 12 [.ref 0, .int 13] h2).bind fun y h4 => .ok (some y) h4
  obtain ⟨vs, h2, e2, l2, r3, m2, k2⟩ := C bd fun k h' => rfl
  obtain ⟨a1, b1, h3, q3, D3, m3, k3⟩ := event_d n h.length (b := b + 4) m2
  obtain ⟨a2, b2, h4, q4, D4, m4, k4⟩ := event_d n h.length (b := b + 2) m3
  obtain ⟨a3, b3, h5, q5, D5, m5, k5⟩ := event_d n h.length (b := b) m4
  let ps : List Pap := [.alike vs, .short, .event a1 b1, .link a2 b2 a3 b3]
  have lv : vs.length ≤ 91 := by rw [l2]; omega
  have op : PsOk ps := ⟨fun p hp => by
    rcases List.mem_cons.mp hp with e | hp
    · rw [e]; exact ⟨fun x hx => by have := r3 x hx; omega, lv⟩
    · rcases List.mem_cons.mp hp with e | hp
      · rw [e]; exact trivial
      · rcases List.mem_cons.mp hp with e | hp
        · rw [e]; exact q3
        · rw [show p = .link a2 b2 a3 b3 by simpa using hp]; exact ⟨q4, q5⟩, by show 4 ≤ 5; decide⟩
  have pp : (Mi.W.lst (ps.map Pap.enc)).pure = true := by
    show (((true && (Mi.W.pures (vs.map Mi.W.int) && true)) && _) : Bool) = true
    rw [pures_int]
    rfl
  refine ⟨ps, h5, op, call_ret (d := fd__law_papers) rfl rfl rfl pp (k1.trans (k2.trans (k3.trans (k4.trans k5)))) ?_, m5, k1.trans (k2.trans (k3.trans (k4.trans k5)))⟩
  have sm := sm62 ht.1 (by omega)
  have ml : mkL false (vs.map Mi.W.int) h2 = .ok (.lst (vs.map .int)) h2 := mkL_f (by rw [List.length_map, LIM]; omega)
  have tl := tuple_l (h := h2) (xs := vs.map .int) (by rw [List.length_map, LIM]; omega)
  have t1 : mkT [Mi.W.str "alike", .tup (vs.map .int)] h2 = .ok (Pap.alike vs).enc h2 := rfl
  have t2 : mkT [Mi.W.str "short"] h2 = .ok Pap.short.enc h2 := rfl
  have t3 : mkT [Mi.W.str "event", evW a1 b1] h3 = .ok (Pap.event a1 b1).enc h3 := rfl
  have t4 : mkT [Mi.W.str "link", evW a2 b2, evW a3 b3] h5 = .ok (Pap.link a2 b2 a3 b3).enc h5 := rfl
  have ad : opW h5 .add (.lst [(Pap.alike vs).enc, Pap.short.enc, (Pap.event a1 b1).enc]) (.lst [(Pap.link a2 b2 a3 b3).enc]) = .ok (.lst (ps.map Pap.enc)) h5 := rfl
  have l3 : ∀ (h : Hpa) (x y z : Mi.W), mkL false [x, y, z] h = .ok (.lst [x, y, z]) h := fun _ _ _ _ => rfl
  have l1 : ∀ (h : Hpa) (x : Mi.W), mkL false [x] h = .ok (.lst [x]) h := fun _ _ => rfl
  have ec : ∀ v2 v3, evE ⟨callF PR (n + 4) h.length, h.length, PR.cst⟩ (.comp false (.call 12 (.cons (.var 0) (.cons (.int 13) .nil))) (.nm 3) (.rng1 (.var 1)) (.bl true)) [some (.ref 0), some (.int t), v2, v3] h1 = .ok (.lst (vs.map .int)) h2 := fun v2 v3 => by
    have ee : evE ⟨callF PR (n + 4) h.length, h.length, PR.cst⟩ (.comp false (.call 12 (.cons (.var 0) (.cons (.int 13) .nil))) (.nm 3) (.rng1 (.var 1)) (.bl true)) [some (.ref 0), some (.int t), v2, v3] h1 = (noEx (compL bd [] (rngW 0 t) h1)).bind (mkL false) := by
      simp (config := { decide := true }) only [evI, sm, exSs, exS, evE, evEs, wipeE, tgs, List.map_cons, List.map_nil, List.cons_append, List.nil_append, List.replicate, Nat.sub_self, List.getElem?_cons_zero, List.getElem?_cons_succ, R.bind_ok, R.bind_bad, R.sv_ok, setTg, List.set_cons_zero, List.set_cons_succ, SR.seq_nx, SR.seq_rt, Bool.false_eq_true, if_false, op_add_i, op_sub_i, op_mul_i, op_mod_i, op_fdiv_i, Bool.true_or, Bool.or_true, if_true, ne_eq, not_false_eq_true, and_self, ofO_some, Option.map_some, Nat.reduceAdd, Nat.reduceSub, mkL_nil, mkL_f, mkT_f, List.length_cons, List.length_nil, List.zip_cons_cons, List.zip_nil_left, List.foldl_cons, List.foldl_nil, decide_true, decide_false, noEx_ok]
      rfl
    rw [ee, e2]
    exact ml
  show exSs ⟨callF PR (n + 4) h.length, h.length, PR.cst⟩ fd__law_papers.body [some (.ref 0), none, none, none] h = _
  have s2 : exS ⟨callF PR (n + 4) h.length, h.length, PR.cst⟩ (.asg (.nm 2) (.lst false (.cons (.tup (.cons (.str "alike") (.cons (.blt .tuple_ (.cons (.comp false (.call 12 (.cons (.var 0) (.cons (.int 13) .nil))) (.nm 3) (.rng1 (.var 1)) (.bl true)) .nil)) .nil))) (.cons (.tup (.cons (.str "short") .nil)) (.cons (.tup (.cons (.str "event") (.cons (.call 14 (.cons (.var 0) .nil)) .nil))) .nil))))) [some (.ref 0), some (.int t), none, none] h1 = .nx [some (.ref 0), some (.int t), some (.lst [(Pap.alike vs).enc, Pap.short.enc, (Pap.event a1 b1).enc]), none] h3 := by
    have ex : ∀ (cx : Cxt) (t : Tg) (e : E) v h, exS cx (.asg t e) v h = (evE cx e v h).sv v (fun x h1 => match setTg t x v with | some v1 => .nx v1 h1 | none => .bad) := fun _ _ _ _ _ => rfl
    have lst_ : ∀ (cx : Cxt) (m : Bool) (es : Es) v h, evE cx (.lst m es) v h = (evEs cx es v h).bind (mkL m) := fun _ _ _ _ _ => rfl
    have tup_ : ∀ (cx : Cxt) (es : Es) v h, evE cx (.tup es) v h = (evEs cx es v h).bind mkT := fun _ _ _ _ => rfl
    have bt : ∀ (cx : Cxt) (f : Bt) (es : Es) (v : Mi.Env) (h : Hpa), evE cx (.blt f es) v h = (evEs cx es v h).bind fun ws h1 => bltW h1 f ws := fun _ _ _ _ _ => rfl
    have cl : ∀ (cx : Cxt) (f : Nat) (es : Es) (v : Mi.Env) (h : Hpa), evE cx (.call f es) v h = (evEs cx es v h).bind fun ws h1 => cx.call f ws h1 := fun _ _ _ _ _ => rfl
    have ec1 : ∀ (cx : Cxt) (e : E) (es : Es) (v : Mi.Env) (h : Hpa), evEs cx (.cons e es) v h = (evE cx e v h).bind fun x h1 => (evEs cx es v h1).bind fun xs h2 => .ok (x :: xs) h2 := fun _ _ _ _ _ => rfl
    have en : ∀ (cx : Cxt) (v : Mi.Env) (h : Hpa), evEs cx .nil v h = .ok [] h := fun _ _ _ => rfl
    have st_ : ∀ (cx : Cxt) (s : Str) (v : Mi.Env) (h : Hpa), evE cx (.str s) v h = .ok (.str s) h := fun _ _ _ _ => rfl
    have va : ∀ (cx : Cxt) (i : Nat) (v : Mi.Env) (h : Hpa), evE cx (.var i) v h = (match v[i]? with
      | some (some w) => .ok w h
      | _ => .bad) := fun _ _ _ _ => rfl
    simp only [ex, lst_, tup_, bt, cl, ec1, en, st_, va, ec, D3, tl, t1, t2, t3, l3, List.getElem?_cons_zero, List.getElem?_cons_succ, R.bind_ok, R.sv_ok, setTg, List.set_cons_zero, List.set_cons_succ]
  simp (config := { decide := true }) only [fd__law_papers, exSs_cons, s1, s2, SR.seq_nx]
  simp (config := { decide := true }) only [D4, D5, t4, l1, ad, exSs, exS, evE, evEs, wipeE, tgs, List.map_cons, List.map_nil, List.cons_append, List.nil_append, List.replicate, Nat.sub_self, List.getElem?_cons_zero, List.getElem?_cons_succ, R.bind_ok, R.bind_bad, R.sv_ok, setTg, List.set_cons_zero, List.set_cons_succ, SR.seq_nx, SR.seq_rt, Bool.false_eq_true, if_false, op_add_i, op_sub_i, op_mul_i, op_mod_i, op_fdiv_i, Bool.true_or, Bool.or_true, if_true, ne_eq, not_false_eq_true, and_self, ofO_some, Option.map_some, Nat.reduceAdd, Nat.reduceSub, mkL_nil, mkL_f, mkT_f, List.length_cons, List.length_nil, List.zip_cons_cons, List.zip_nil_left, List.foldl_cons, List.foldl_nil, decide_true, decide_false, noEx_ok]
end Lk40

namespace Lk40
open PySem PySem.Spec PyProof.Rows L2 Mi Lw TL
theorem law_turn (n : Nat) (sc k : Option Mi.W) (t : Mi.W) (v4 : Option Mi.W) {h : Hpa} {b : Nat} (m : Mok h (b + 120)) :
    ∃ h', exSs ⟨callF PR (n + 5) 0, 0, PR.cst⟩ bd_law_1 [sc, some (.ref 0), k, some t, v4] h = .nx [sc, some (.ref 0), k, some t, v4] h' ∧ Mok h' b ∧ Kp h h' := by
  obtain ⟨v, h1, D1, r1, r2, m1, k1⟩ := draw_m has (n + 2) 0 (b := b + 119) (many := 15) m (by decide) (by decide)
  let bd : Mi.W → Hpa → Mi.R (Option Mi.W) := fun x h2 => (callF PR (n + 2 + 3) 0 12 [.ref 0, .int 5] h2).bind fun y h4 => .ok (some y) h4
  obtain ⟨vs, h2, e2, l2, r3, m2, k2⟩ := draws (n + 2) 0 5 (by decide) (by decide) none none none none none bd (fun _ _ => rfl) v r1 h1 (b + 105) (m1.le (by omega))
  obtain ⟨ps, h3, op, D3, m3, k3⟩ := papers_d n 0 (b := b) (m2.le (by omega))
  have wo : WvOk vs := ⟨fun x hx => by have := r3 x hx; omega, by rw [l2]; omega⟩
  have RT := right_ok n 0 h3 wo op
  refine ⟨h3, ?_, m3, k1.trans (k2.trans k3)⟩
  have sm := sm62 r1 (by omega)
  have ml : mkL false (vs.map Mi.W.int) h2 = .ok (.lst (vs.map .int)) h2 := mkL_f (by rw [List.length_map, LIM]; have := wo.len; omega)
  have tl := tuple_l (h := h2) (xs := vs.map .int) (by rw [List.length_map, LIM]; have := wo.len; omega)
  have ec : evE ⟨callF PR (n + 5) 0, 0, PR.cst⟩ (.comp false (.call 12 (.cons (.var 1) (.cons (.int 5) .nil))) (.nm 4) (.rng1 (.call 12 (.cons (.var 1) (.cons (.int 15) .nil)))) (.bl true)) [sc, some (.ref 0), k, some t, v4] h = .ok (.lst (vs.map .int)) h2 := by
    have D1 : callF PR (n + 5) 0 12 [.ref 0, .int 15] h = .ok (.int v) h1 := D1
    have ee : evE ⟨callF PR (n + 5) 0, 0, PR.cst⟩ (.comp false (.call 12 (.cons (.var 1) (.cons (.int 5) .nil))) (.nm 4) (.rng1 (.call 12 (.cons (.var 1) (.cons (.int 15) .nil)))) (.bl true)) [sc, some (.ref 0), k, some t, v4] h = (noEx (compL bd [] (rngW 0 v) h1)).bind (mkL false) := by
      simp (config := { decide := true }) only [evI, sm, D1, exSs, exS, evE, evEs, wipeE, tgs, List.map_cons, List.map_nil, List.cons_append, List.nil_append, List.replicate, Nat.sub_self, List.getElem?_cons_zero, List.getElem?_cons_succ, R.bind_ok, R.bind_bad, R.sv_ok, setTg, List.set_cons_zero, List.set_cons_succ, SR.seq_nx, SR.seq_rt, Bool.false_eq_true, if_false, op_add_i, op_sub_i, op_mul_i, op_mod_i, op_fdiv_i, Bool.true_or, Bool.or_true, if_true, ne_eq, not_false_eq_true, and_self, ofO_some, Option.map_some, Nat.reduceAdd, Nat.reduceSub, mkL_nil, mkL_f, mkT_f, List.length_cons, List.length_nil, List.zip_cons_cons, List.zip_nil_left, List.foldl_cons, List.foldl_nil, decide_true, decide_false, noEx_ok]
      rfl
    rw [ee, e2]
    exact ml
  have bt : ∀ (cx : Cxt) (f : Bt) (es : Es) (v : Mi.Env) (h : Hpa), evE cx (.blt f es) v h = (evEs cx es v h).bind fun ws h1 => bltW h1 f ws := fun _ _ _ _ _ => rfl
  have cl : ∀ (cx : Cxt) (f : Nat) (es : Es) (v : Mi.Env) (h : Hpa), evE cx (.call f es) v h = (evEs cx es v h).bind fun ws h1 => cx.call f ws h1 := fun _ _ _ _ _ => rfl
  have ec1 : ∀ (cx : Cxt) (e : E) (es : Es) (v : Mi.Env) (h : Hpa), evEs cx (.cons e es) v h = (evE cx e v h).bind fun x h1 => (evEs cx es v h1).bind fun xs h2 => .ok (x :: xs) h2 := fun _ _ _ _ _ => rfl
  have en : ∀ (cx : Cxt) (v : Mi.Env) (h : Hpa), evEs cx .nil v h = .ok [] h := fun _ _ _ => rfl
  have va : ∀ (cx : Cxt) (i : Nat) (v : Mi.Env) (h : Hpa), evE cx (.var i) v h = (match v[i]? with
    | some (some w) => .ok w h
    | _ => .bad) := fun _ _ _ _ => rfl
  have s0 : ∀ (cx : Cxt) (c : E) (a b : Ss) (v : Mi.Env) (h : Hpa), exS cx (.ite c a b) v h = (evE cx c v h).sv v fun x h1 => (match x with
    | .bl true => exSs cx a v h1
    | .bl false => exSs cx b v h1
    | _ => .bad) := fun _ _ _ _ _ _ => rfl
  have nt : ∀ (cx : Cxt) (a : E) (v : Mi.Env) (h : Hpa), evE cx (.not a) v h = (evE cx a v h).bind fun x h1 => (match x with
    | .bl b => .ok (.bl (!b)) h1
    | _ => .bad) := fun _ _ _ _ => rfl
  simp only [bd_law_1, exSs_cons, exSs_nil, s0, nt, bt, cl, ec1, en, va, ec, tl, D3, RT, List.getElem?_cons_zero, List.getElem?_cons_succ, R.bind_ok, R.sv_ok, SR.seq_nx, Bool.not_true]
def KN : List Pap := [.alike [], .alike (List.replicate 91 12), .link 0 0 4 5, .event 4 0, .short]
theorem kn_ok : PsOk KN := ⟨fun p hp => by
  simp only [KN, List.mem_cons, List.not_mem_nil, or_false] at hp
  rcases hp with e | e | e | e | e <;> rw [e]
  · exact ⟨fun _ z => (nomatch z), by decide⟩
  · exact ⟨fun x hx => by rw [List.eq_of_mem_replicate hx]; decide, by rw [List.length_replicate]; omega⟩
  · exact ⟨⟨by decide, by decide⟩, by decide, by decide⟩
  · exact ⟨by decide, by decide⟩
  · exact trivial, by decide⟩
theorem kn_rev : PsOk KN.reverse := ⟨fun p hp => kn_ok.ok p (List.mem_reverse.mp hp), by rw [List.length_reverse]; exact kn_ok.len⟩
def W14 : List Int := [4, 0, 1, 2, 3, 4, 0, 1, 2, 3, 4, 4, 4, 0]
theorem w14_ok : WvOk W14 := ⟨by decide, by decide⟩
theorem w0_ok : WvOk [] := ⟨fun _ z => (nomatch z), by decide⟩
theorem known (cx : Cxt) (sc : Option Mi.W) (h : Hpa) : exS cx (.asg (.nm 2) (.lst false (.cons (.tup (.cons (.str "alike") (.cons (.tup .nil) .nil))) (.cons (.tup (.cons (.str "alike") (.cons (.op .mul (.tup (.cons (.int 12) .nil)) (.int 91)) .nil))) (.cons (.tup (.cons (.str "link") (.cons (.tup (.cons (.int 0) (.cons (.int 0) .nil))) (.cons (.tup (.cons (.int 4) (.cons (.int 5) .nil))) .nil)))) .nil))))) [sc, some (.ref 0), none, none, none] h = .nx [sc, some (.ref 0), some (.lst [(Pap.alike []).enc, (Pap.alike (List.replicate 91 12)).enc, (Pap.link 0 0 4 5).enc]), none, none] h := by kernel_rfl
theorem known2 (cx : Cxt) (sc : Option Mi.W) (h : Hpa) : exS cx (.asg (.nm 2) (.op .add (.var 2) (.lst false (.cons (.tup (.cons (.str "event") (.cons (.tup (.cons (.int 4) (.cons (.int 0) .nil))) .nil))) (.cons (.tup (.cons (.str "short") .nil)) .nil))))) [sc, some (.ref 0), some (.lst [(Pap.alike []).enc, (Pap.alike (List.replicate 91 12)).enc, (Pap.link 0 0 4 5).enc]), none, none] h = .nx [sc, some (.ref 0), some (.lst (KN.map Pap.enc)), none, none] h := by kernel_rfl
theorem w14_ev (cx : Cxt) (v : Mi.Env) (h : Hpa) : evE cx (.op .add (.op .mul (.tup (.cons (.int 4) (.cons (.int 0) (.cons (.int 1) (.cons (.int 2) (.cons (.int 3) .nil)))))) (.int 2)) (.tup (.cons (.int 4) (.cons (.int 4) (.cons (.int 4) (.cons (.int 0) .nil)))))) v h = .ok (.tup (W14.map .int)) h := by kernel_rfl
theorem rev_ev (cx : Cxt) (sc : Option Mi.W) (h : Hpa) : evE cx (.rev (.var 2)) [sc, some (.ref 0), some (.lst (KN.map Pap.enc)), none, none] h = .ok (.lst (KN.reverse.map Pap.enc)) h := by
  show ofO (some (Mi.W.lst (KN.map Pap.enc).reverse)) h = _
  rw [← List.map_reverse]
  rfl
theorem two_rights (cx : Cxt) (sc : Option Mi.W) (h : Hpa) (R1 : cx.call 17 [.tup [], .lst (KN.map Pap.enc)] h = .ok (.bl true) h) (R2 : cx.call 17 [.tup (W14.map .int), .lst (KN.reverse.map Pap.enc)] h = .ok (.bl true) h) :
    exS cx (.ite (.or (.not (.call 17 (.cons (.tup .nil) (.cons (.var 2) .nil)))) (.one (.not (.call 17 (.cons (.op .add (.op .mul (.tup (.cons (.int 4) (.cons (.int 0) (.cons (.int 1) (.cons (.int 2) (.cons (.int 3) .nil)))))) (.int 2)) (.tup (.cons (.int 4) (.cons (.int 4) (.cons (.int 4) (.cons (.int 0) .nil)))))) (.cons (.rev (.var 2)) .nil))))))
      (.cons (.ret (.bl false)) .nil) .nil) [sc, some (.ref 0), some (.lst (KN.map Pap.enc)), none, none] h = .nx [sc, some (.ref 0), some (.lst (KN.map Pap.enc)), none, none] h := by
  have mt : mkT [] h = .ok (.tup []) h := rfl
  have cl : ∀ (f : Nat) (es : Es) (v : Mi.Env) (h : Hpa), evE cx (.call f es) v h = (evEs cx es v h).bind fun ws h1 => cx.call f ws h1 := fun _ _ _ _ => rfl
  have ec1 : ∀ (e : E) (es : Es) (v : Mi.Env) (h : Hpa), evEs cx (.cons e es) v h = (evE cx e v h).bind fun x h1 => (evEs cx es v h1).bind fun xs h2 => .ok (x :: xs) h2 := fun _ _ _ _ => rfl
  have en : ∀ (v : Mi.Env) (h : Hpa), evEs cx .nil v h = .ok [] h := fun _ _ => rfl
  have va : ∀ (i : Nat) (v : Mi.Env) (h : Hpa), evE cx (.var i) v h = (match v[i]? with
    | some (some w) => .ok w h
    | _ => .bad) := fun _ _ _ => rfl
  have s0 : ∀ (c : E) (a b : Ss) (v : Mi.Env) (h : Hpa), exS cx (.ite c a b) v h = (evE cx c v h).sv v fun x h1 => (match x with
    | .bl true => exSs cx a v h1
    | .bl false => exSs cx b v h1
    | _ => .bad) := fun _ _ _ _ _ => rfl
  have nt : ∀ (a : E) (v : Mi.Env) (h : Hpa), evE cx (.not a) v h = (evE cx a v h).bind fun x h1 => (match x with
    | .bl b => .ok (.bl (!b)) h1
    | _ => .bad) := fun _ _ _ => rfl
  have or_ : ∀ (a b : E) (v : Mi.Env) (h : Hpa), evE cx (.or a b) v h = (evE cx a v h).bind fun x h1 => (match x with
    | .bl true => .ok (.bl true) h1
    | .bl false => evE cx b v h1
    | _ => .bad) := fun _ _ _ _ => rfl
  have one_ : ∀ (a : E) (v : Mi.Env) (h : Hpa), evE cx (.one a) v h = evE cx a v h := fun _ _ _ => rfl
  have tn : ∀ (v : Mi.Env) (h : Hpa), evE cx (.tup .nil) v h = .ok (.tup []) h := fun _ _ => rfl
  simp only [s0, or_, one_, nt, cl, ec1, en, tn, va, w14_ev, rev_ev, List.getElem?_cons_zero, List.getElem?_cons_succ, R.bind_ok, R1, R2, Bool.not_true, R.sv_ok, exSs_nil]
theorem law_loop (n : Nat) (sc k : Option Mi.W) {h : Hpa} (m : Mok h 1000) : ∃ t h', exS ⟨callF PR (n + 5) 0, 0, PR.cst⟩ st_law_1 [sc, some (.ref 0), k, none, none] h = .nx [sc, some (.ref 0), k, t, none] h' := by
  obtain ⟨t, h', e, m', _⟩ := loop_m (fun (j : Nat) => Mi.W.int (0 + (j : Int))) 120 (loopB (.nm 3) fun v h' => exSs ⟨callF PR (n + 5) 0, 0, PR.cst⟩ bd_law_1 v h') (fun (s : Option Mi.W) => [sc, some (.ref 0), k, s, none]) (fun j s h b m => by
    obtain ⟨h', e, m', k'⟩ := law_turn n sc k (.int (0 + (j : Int))) none m
    exact ⟨some (.int (0 + (j : Int))), h', e, m', k'⟩) (List.range 6) none h 0 (m.le (by rw [List.length_range]; decide))
  refine ⟨t, h', ?_⟩
  have s6 : small62 6 = true := by decide
  have ei : evI ⟨callF PR (n + 5) 0, 0, PR.cst⟩ (.rng1 (.int 6)) [sc, some (.ref 0), k, none, none] h = .ok ⟨rngW 0 6, []⟩ h := by
    simp only [evI, evE, R.bind_ok, s6, if_true]
  show ((evI ⟨callF PR (n + 5) 0, 0, PR.cst⟩ (.rng1 (.int 6)) [sc, some (.ref 0), k, none, none] h).sv [sc, some (.ref 0), k, none, none] fun wk h1 => loopL (loopB (.nm 3) fun v h' => exSs ⟨callF PR (n + 5) 0, 0, PR.cst⟩ bd_law_1 v h') wk.g wk.xs [sc, some (.ref 0), k, none, none] h1) = _
  rw [ei]
  exact e
theorem law_body (cx : Cxt) (sc : Mi.W) (h1 h2 : Hpa) (t : Option Mi.W) (B : cx.call 13 [sc] [] = .ok (.ref 0) h1)
    (R1 : cx.call 17 [.tup [], .lst (KN.map Pap.enc)] h1 = .ok (.bl true) h1) (R2 : cx.call 17 [.tup (W14.map .int), .lst (KN.reverse.map Pap.enc)] h1 = .ok (.bl true) h1)
    (L : exS cx st_law_1 [some sc, some (.ref 0), some (.lst (KN.map Pap.enc)), none, none] h1 = .nx [some sc, some (.ref 0), some (.lst (KN.map Pap.enc)), t, none] h2) :
    exSs cx fd_law.body [some sc, none, none, none, none] [] = .rt (.bl true) h2 := by
  have K1 := known cx (some sc) h1
  have K2 := known2 cx (some sc) h1
  have T := two_rights cx (some sc) h1 R1 R2
  have s1 : exS cx (.asg (.nm 1) (.call 13 (.cons (.var 0) .nil))) [some sc, none, none, none, none] [] = .nx [some sc, some (.ref 0), none, none, none] h1 := by
    show ((cx.call 13 [sc] []).sv _ fun x h1 => _) = _
    rw [B]
    rfl
  simp only [fd_law, exSs_cons, s1, SR.seq_nx, K1, K2, T, L, exS_ret, evE, R.sv_ok, SR.seq_rt]
theorem law_fin (ns : List Int) (hh : Hpa) (E : exSs ⟨callF PR 11 0, 0, PR.cst⟩ fd_law.body [some (.lsk (ns.map .int)), none, none, none, none] [] = .rt (.bl true) hh) : callF PR 12 0 lawNo [.lsk (ns.map .int)] [] = .ok (.bl true) [] := by
  rw [callF_fin (P := PR) (n := 11) (lo := 0) (i := lawNo) (ws := [.lsk (ns.map .int)]) (h := []) (d := fd_law) (w := .bl true) (h' := hh) rfl rfl rfl E]
  rfl
theorem facts (n N : Nat) (hN : N = n + 6) (ns : List Int) (hl : ns.length ≤ 63) : ∃ (h1 h2 : Hpa) (t : Option Mi.W), callF PR N 0 13 [.lsk (ns.map .int)] [] = .ok (.ref 0) h1 ∧ callF PR N 0 17 [.tup [], .lst (KN.map Pap.enc)] h1 = .ok (.bl true) h1 ∧
    callF PR N 0 17 [.tup (W14.map .int), .lst (KN.reverse.map Pap.enc)] h1 = .ok (.bl true) h1 ∧ exS ⟨callF PR N 0, 0, PR.cst⟩ st_law_1 [some (.lsk (ns.map .int)), some (.ref 0), some (.lst (KN.map Pap.enc)), none, none] h1 = .nx [some (.lsk (ns.map .int)), some (.ref 0), some (.lst (KN.map Pap.enc)), t, none] h2 := by
  subst hN
  obtain ⟨h1, B, m, _⟩ := begun_m has (n + 4) ns hl
  obtain ⟨t, h2, L⟩ := law_loop (n + 1) (some (.lsk (ns.map .int))) (some (.lst (KN.map Pap.enc))) (m.le (c := 1000) (by decide))
  exact ⟨h1, h2, t, B, right_ok (n + 1) 0 h1 (ws := []) w0_ok kn_ok, right_ok (n + 1) 0 h1 w14_ok kn_rev, L⟩
theorem law_ok (ns : List Int) (hl : ns.length ≤ 63) : ∃ h', callF PR 12 0 lawNo [.lsk (ns.map .int)] [] = .ok (.bl true) h' := by
  obtain ⟨h1, h2, t, B, R1, R2, L⟩ := facts 5 11 rfl ns hl
  refine ⟨[], law_fin ns h2 ?_⟩
  generalize callF PR 11 0 = cf at B R1 R2 L ⊢
  exact law_body ⟨cf, 0, PR.cst⟩ (.lsk (ns.map .int)) h1 h2 t B R1 R2 L
end Lk40

open PySem PySem.W PySem.Calls PyProof.Rows Mi
set_option maxRecDepth 100000 in
set_option maxHeartbeats 8000000 in
theorem PySem.Challenge.cw_weavehouse_k40_rows_there_and_back_holds : PySem.Challenge.rw_weavehouse_k40_rows_there_and_back.Holds := by
  w_on; o_law
  o_head Lk40.hk
  case hw => w_witness2
  case hc =>
    refine walkM (l := PySem.Challenge.rw_weavehouse_k40_rows_there_and_back) (n := 63) (k := 12) rfl (by decide) (by kernel_rfl) ⟨rfl, by decide, by decide⟩ ?F
    intro w mg fa h Y G hmg0
    obtain ⟨K, KX, c⟩ := Y
    have hmg : mg ("law" : PySem.Str) = some (.ref fa) := by
      have e : (HandSHeadRun.topDef Lk40.Row0.prog Lk40.lawAt).name = ("law" : PySem.Str) := by kernel_rfl
      rw [← e]
      exact hmg0
    exact law_of (xr := fun _ _ _ _ => True) (i := Lk40.lawNo) KX (Lk40.prog KX G c) (by rfl) hmg Lk40.law_ok (fun d hd => by cases hd; rfl)
