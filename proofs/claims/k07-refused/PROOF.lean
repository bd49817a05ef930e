import PyProof.Rows.All
import Wide.All
import OpenK.AllK
import Wide.FinOn
import PyProof.Dict
import PyProof.StrBlockL
import PyProof.StrCalls6
import PySem.Builtin.Tuple.Common
import KE.SortData
import HandS.ExcInit
import HandS.ExcField
import HandS.Lambda
import KE.KExcSuper
import KE.KSuper
import HandS.HeadHook4
import OpenK.KWalk
import HandS.HeadEnd
import HandS.HeadHook1
import HandS.Words
import KE.KStateDown
import HandS.Head0
import HandS.Head1
import HandS.Head2
import HandS.ForMost
import HandS.ForExc
import KE.KLam
import KE.KDictKeyed
import KE.KDictWalk
import HandS.TupAny
import HandS.TupMul
import HandS.Style
import HandS.Deep
import KE.KEqNest
import HandS.IsInst
import HandS.Text
import HandS.Conv
import HandS.Iter
import HandS.Zip
import KE.KDictCopyH
import PyProof.ListStr
import HandS.SetFor
import HandS.Comp
import HandS.DictComp
import HandS.Star
import KE.GoesMore
import KE.KDictPairs
import KE.KDictList
import HandS.Defaults
import HandS.Sort
import OpenK.KMake
import PyProof.InstNe
import HandS.OwnEq
import HandS.Codes
import HandS.ReplaceLit
import KE.SortKeyHeap
import KE.KSortKey
import HandS.SortKw
import HandS.TupSets
import HandS.Strs
import HandS.ExcIs
import HandS.Exc
import HandS.ExcOwn
import HandS.Property
import OpenK.KOps
import HandS.Nested
import HandS.TryOnly
import HandS.CallSlots
import PyProof.ExcBaseAll.ValueError
import HandS.HeadWalk
import PySem.Challenge.RW_turnedends_k07_refused
set_option linter.all false
set_option Elab.async false
set_option maxRecDepth 1000000
set_option maxHeartbeats 0
/-! VIa: a small evaluator for the part of Python that the program uses; plain Lean, no machine in sight. -/
namespace VI

/-- data; tuples are plain values, lists, dicts and instances stand in the store -/
inductive D where
  | non | bl (b : Bool) | int (i : Int) | str (s : List Nat) | tup (xs : List D) | ref (n : Nat)
  /-- a function that was made: which lambda -/
  | fn (k : Nat)

instance : Inhabited D := ⟨.non⟩

mutual
/-- == of things without references (True is 1) -/
def D.eqv : D → D → Bool
  | .non, .non => true
  | .bl a, .bl b => a == b
  | .bl a, .int j => (if a then 1 else 0) == j
  | .int i, .bl b => i == (if b then 1 else 0)
  | .int i, .int j => i == j
  | .str x, .str y => x == y
  | .tup xs, .tup ys => D.eqvs xs ys
  | .ref i, .ref j => i == j
  | .non, .bl _ | .non, .int _ | .non, .str _ | .non, .tup _ | .non, .ref _ => false
  | .bl _, .non | .bl _, .str _ | .bl _, .tup _ | .bl _, .ref _ => false
  | .int _, .non | .int _, .str _ | .int _, .tup _ | .int _, .ref _ => false
  | .str _, .non | .str _, .bl _ | .str _, .int _ | .str _, .tup _ | .str _, .ref _ => false
  | .tup _, .non | .tup _, .bl _ | .tup _, .int _ | .tup _, .str _ | .tup _, .ref _ => false
  | .ref _, .non | .ref _, .bl _ | .ref _, .int _ | .ref _, .str _ | .ref _, .tup _ => false
  | .non, .fn _ | .bl _, .fn _ | .int _, .fn _ | .str _, .fn _ | .tup _, .fn _ | .ref _, .fn _ => false
  | .fn _, .non | .fn _, .bl _ | .fn _, .int _ | .fn _, .str _ | .fn _, .tup _ | .fn _, .ref _ | .fn _, .fn _ => false
def D.eqvs : List D → List D → Bool
  | [], [] => true
  | x :: xs, y :: ys => D.eqv x y && D.eqvs xs ys
  | [], _ :: _ => false
  | _ :: _, [] => false
end

mutual
/-- no reference within -/
def D.flat : D → Bool
  | .non | .bl _ | .int _ | .str _ => true
  | .tup xs => D.flats xs
  | .ref _ | .fn _ => false
def D.flats : List D → Bool
  | [] => true
  | x :: xs => D.flat x && D.flats xs
end
mutual
def D.depth : D → Nat
  | .non | .bl _ | .int _ | .str _ | .ref _ | .fn _ => 0
  | .tup xs => D.depths xs + 1
def D.depths : List D → Nat
  | [] => 0
  | x :: xs => max (D.depth x) (D.depths xs)
end

/-- a thing in the store -/
inductive Ob where
  | lst (xs : List D)
  /-- a list that is only read -/
  | flst (xs : List D)
  /-- a dict; locked while it is walked -/
  | dct (lk : Bool) (kvs : List (D × D))
  | ins (c : Nat) (fs : List (Nat × D))
  /-- a table of code objects, which lambdas are made by -/
  | tab (i : Nat)

/-- the store: a tree by the bits of the index -/
inductive Tr where
  | lf
  | nd (o : Option Ob) (l r : Tr)
def Tr.get : Tr → Nat → Option Ob
  | .lf, _ => none
  | .nd o l r, n => if n = 0 then o else if n % 2 = 1 then l.get (n / 2) else r.get (n / 2 - 1)
def Tr.put : Nat → Tr → Nat → Ob → Tr
  | 0, t, _, _ => t
  | f + 1, .lf, n, ob => if n = 0 then .nd (some ob) .lf .lf else if n % 2 = 1 then .nd none (Tr.put f .lf (n / 2) ob) .lf else .nd none .lf (Tr.put f .lf (n / 2 - 1) ob)
  | f + 1, .nd o l r, n, ob => if n = 0 then .nd (some ob) l r else if n % 2 = 1 then .nd o (Tr.put f l (n / 2) ob) r else .nd o l (Tr.put f r (n / 2 - 1) ob)
structure Store where
  sz : Nat
  t : Tr
def Store.nil : Store := ⟨0, .lf⟩
def Store.get (s : Store) (n : Nat) : Option Ob := if n < s.sz then s.t.get n else none
def Store.set (s : Store) (n : Nat) (ob : Ob) : Store := ⟨s.sz, Tr.put (n + 1) s.t n ob⟩
def Store.add (s : Store) (ob : Ob) : Store := ⟨s.sz + 1, Tr.put (s.sz + 1) s.t s.sz ob⟩

theorem Tr.get_put_self : ∀ (f : Nat) (t : Tr) (n : Nat) (ob : Ob), n < f → (Tr.put f t n ob).get n = some ob
  | 0, _, _, _, h => absurd h (Nat.not_lt_zero _)
  | f + 1, .lf, n, ob, h => by
    unfold Tr.put
    by_cases h0 : n = 0
    · simp [h0, Tr.get]
    · by_cases h1 : n % 2 = 1
      · simp only [h0, h1, if_true, if_false, Tr.get]
        exact Tr.get_put_self f .lf (n / 2) ob (by omega)
      · simp only [h0, h1, if_false, Tr.get]
        exact Tr.get_put_self f .lf (n / 2 - 1) ob (by omega)
  | f + 1, .nd o l r, n, ob, h => by
    unfold Tr.put
    by_cases h0 : n = 0
    · simp [h0, Tr.get]
    · by_cases h1 : n % 2 = 1
      · simp only [h0, h1, if_true, if_false, Tr.get]
        exact Tr.get_put_self f l (n / 2) ob (by omega)
      · simp only [h0, h1, if_false, Tr.get]
        exact Tr.get_put_self f r (n / 2 - 1) ob (by omega)
theorem Tr.get_put_ne : ∀ (f : Nat) (t : Tr) (n m : Nat) (ob : Ob), n ≠ m → (Tr.put f t n ob).get m = t.get m
  | 0, _, _, _, _, _ => rfl
  | f + 1, .lf, n, m, ob, h => by
    unfold Tr.put
    by_cases h0 : n = 0
    · subst h0
      have : ¬ m = 0 := fun e => h e.symm
      simp only [if_true, Tr.get, this, if_false]
      split <;> rfl
    · by_cases h1 : n % 2 = 1
      · simp only [h0, h1, if_true, if_false, Tr.get]
        by_cases m0 : m = 0
        · simp [m0]
        · simp only [m0, if_false]
          by_cases m1 : m % 2 = 1
          · simp only [m1, if_true]
            rw [Tr.get_put_ne f .lf (n / 2) (m / 2) ob (by omega)]; rfl
          · simp only [m1, if_false]
      · simp only [h0, h1, if_false, Tr.get]
        by_cases m0 : m = 0
        · simp [m0]
        · simp only [m0, if_false]
          by_cases m1 : m % 2 = 1
          · simp only [m1, if_true]
          · simp only [m1, if_false]
            rw [Tr.get_put_ne f .lf (n / 2 - 1) (m / 2 - 1) ob (by omega)]; rfl
  | f + 1, .nd o l r, n, m, ob, h => by
    unfold Tr.put
    by_cases h0 : n = 0
    · subst h0
      have : ¬ m = 0 := fun e => h e.symm
      simp only [if_true, Tr.get, this, if_false]
    · by_cases h1 : n % 2 = 1
      · simp only [h0, h1, if_true, if_false, Tr.get]
        by_cases m0 : m = 0
        · simp [m0]
        · simp only [m0, if_false]
          by_cases m1 : m % 2 = 1
          · simp only [m1, if_true]
            rw [Tr.get_put_ne f l (n / 2) (m / 2) ob (by omega)]
          · simp only [m1, if_false]
      · simp only [h0, h1, if_false, Tr.get]
        by_cases m0 : m = 0
        · simp [m0]
        · simp only [m0, if_false]
          by_cases m1 : m % 2 = 1
          · simp only [m1, if_true]
          · simp only [m1, if_false]
            rw [Tr.get_put_ne f r (n / 2 - 1) (m / 2 - 1) ob (by omega)]
theorem Store.get_lt {s : Store} {n : Nat} {o : Ob} (h : s.get n = some o) : n < s.sz := by
  unfold Store.get at h
  split at h
  · assumption
  · cases h
theorem Store.get_ge {s : Store} {n : Nat} (h : s.sz ≤ n) : s.get n = none := by
  unfold Store.get
  rw [if_neg (by omega)]
theorem Store.set_sz (s : Store) (n : Nat) (ob : Ob) : (s.set n ob).sz = s.sz := rfl
theorem Store.add_sz (s : Store) (ob : Ob) : (s.add ob).sz = s.sz + 1 := rfl
theorem Store.get_set_self {s : Store} {n : Nat} {ob : Ob} (h : n < s.sz) : (s.set n ob).get n = some ob := by
  unfold Store.get Store.set
  rw [if_pos h]
  exact Tr.get_put_self _ _ _ _ (Nat.lt_succ_self _)
theorem Store.get_set_ne {s : Store} {n m : Nat} {ob : Ob} (h : m ≠ n) : (s.set n ob).get m = s.get m := by
  unfold Store.get Store.set
  simp only
  split
  · exact Tr.get_put_ne _ _ _ _ _ (Ne.symm h)
  · rfl
theorem Store.get_add_self {s : Store} {ob : Ob} : (s.add ob).get s.sz = some ob := by
  unfold Store.get Store.add
  simp only
  rw [if_pos (Nat.lt_succ_self _)]
  exact Tr.get_put_self _ _ _ _ (Nat.lt_succ_self _)
theorem Store.get_add_ne {s : Store} {m : Nat} {ob : Ob} (h : m ≠ s.sz) : (s.add ob).get m = s.get m := by
  unfold Store.get Store.add
  simp only
  by_cases hm : m < s.sz
  · rw [if_pos (Nat.lt_succ_of_lt hm), if_pos hm]
    exact Tr.get_put_ne _ _ _ _ _ (Ne.symm h)
  · rw [if_neg (by omega), if_neg hm]
theorem Store.get_add_lt {s : Store} {m : Nat} {ob : Ob} (h : m < s.sz) : (s.add ob).get m = s.get m := Store.get_add_ne (by omega)


/-! ### results -/
inductive R (α : Type) where
  | ok (a : α) (s : Store)
  | exc (c : Nat) (x : D) (s : Store)
  | stuck
def R.bind {α β : Type} (r : R α) (f : α → Store → R β) : R β := match r with
  | .ok a s => f a s
  | .exc c x s => .exc c x s
  | .stuck => .stuck
/-- what raises counts as stuck -/
def R.noexc {α : Type} (r : R α) : R α := match r with
  | .ok a s => .ok a s
  | .exc _ _ _ => .stuck
  | .stuck => .stuck
def ofOpt {α : Type} (o : Option α) (s : Store) : R α := match o with
  | some a => .ok a s
  | none => .stuck

/-! ### data read as a whole: lists within -/
inductive Pd where
  | non | bl (b : Bool) | int (i : Int) | str (s : List Nat) | tup (xs : List Pd) | lst (xs : List Pd)
mutual
def Pd.eqv : Pd → Pd → Bool
  | .non, .non => true
  | .bl a, .bl b => a == b
  | .bl a, .int j => (if a then 1 else 0) == j
  | .int i, .bl b => i == (if b then 1 else 0)
  | .int i, .int j => i == j
  | .str x, .str y => x == y
  | .tup xs, .tup ys => Pd.eqvs xs ys
  | .lst xs, .lst ys => Pd.eqvs xs ys
  | .non, .bl _ | .non, .int _ | .non, .str _ | .non, .tup _ | .non, .lst _ => false
  | .bl _, .non | .bl _, .str _ | .bl _, .tup _ | .bl _, .lst _ => false
  | .int _, .non | .int _, .str _ | .int _, .tup _ | .int _, .lst _ => false
  | .str _, .non | .str _, .bl _ | .str _, .int _ | .str _, .tup _ | .str _, .lst _ => false
  | .tup _, .non | .tup _, .bl _ | .tup _, .int _ | .tup _, .str _ | .tup _, .lst _ => false
  | .lst _, .non | .lst _, .bl _ | .lst _, .int _ | .lst _, .str _ | .lst _, .tup _ => false
def Pd.eqvs : List Pd → List Pd → Bool
  | [], [] => true
  | x :: xs, y :: ys => Pd.eqv x y && Pd.eqvs xs ys
  | [], _ :: _ => false
  | _ :: _, [] => false
end
def goodCp (c : Nat) : Bool := decide (c < 55296)
def allOpt {α β : Type} (f : α → Option β) : List α → Option (List β)
  | [] => some []
  | x :: xs => match f x, allOpt f xs with
    | some y, some ys => some (y :: ys)
    | _, _ => none
/-- a thing with the lists in it, to a depth -/
def dat : Nat → Store → D → Option Pd
  | _, _, .non => some .non
  | _, _, .bl b => some (.bl b)
  | _, _, .int i => some (.int i)
  | _, _, .str x => if x.all goodCp then some (.str x) else none
  | _, _, .fn _ => none
  | 0, _, .tup _ => none
  | 0, _, .ref _ => none
  | f + 1, s, .tup xs => (allOpt (dat f s) xs).map .tup
  | f + 1, s, .ref n => match s.get n with
    | some (.lst xs) => (allOpt (dat f s) xs).map .lst
    | some (.flst xs) => (allOpt (dat f s) xs).map .lst
    | _ => none
def eqS (s : Store) (a b : D) : Option Bool := match dat 60 s a, dat 60 s b with
  | some x, some y => some (x.eqv y)
  | _, _ => none

/-! ### the form -/
inductive Bop where | add | sub | mul | fdiv | mod
inductive Cop where | eq | ne | lt | le | gt | ge | is | isnot | inn | notin
inductive Ty where | str | tuple | int | bool | dict | list | cls (c : Nat)
inductive Blt where
  | len | sum | all | any | int | abs | list | tuple | dict | min | max | listEnum | listRange | listVals | sorted | isi (ts : List Ty)
  /-- sorted(xs, key=lambda x: (len(x), x)), in a def whose table stands at i + 1 -/
  | sortLen (i : Nat)
  /-- sorted(set(xs)), whole numbers -/
  | sortSet
  /-- what an own __len__ hands out -/
  | size
inductive Bm where
  | append | pop | extend | clear | reverse | count | index | get | join | split | replace | dpop
inductive Itk where | val | rng | enum | zip | items | values
inductive Tg where
  | nm (i : Nat)
  | tp (is : List Nat)
mutual
inductive Ex where
  | c (d : D)
  | v (i : Nat)
  | tup (es : Xs)
  | lst (es : Xs)
  | dct (es : Xs)
  | bin (o : Bop) (a b : Ex)
  | cmp (o : Cop) (a b : Ex)
  | chain (o p : Cop) (a b c : Ex)
  | and (a b : Ex)
  | or (a b : Ex)
  | not (a : Ex)
  | neg (a : Ex)
  | ite (c a b : Ex)
  | sub (a i : Ex)
  | sl (a : Ex) (hl : Bool) (lo : Ex) (hh : Bool) (hi : Ex)
  | rev (a : Ex)
  | call (f : Nat) (es : Xs)
  | make (c : Nat) (es : Xs)
  | fld (a : Ex) (n : Nat)
  | meth (a : Ex) (m : Nat) (es : Xs)
  /-- a property -/
  | prop (a : Ex) (n : Nat)
  | blt (b : Blt) (es : Xs)
  | bm (m : Bm) (a : Ex) (es : Xs)
  | wget (kvs : List (D × D)) (i : Ex)
  /-- a lambda, in a def whose table stands at i + 1 -/
  | lam (k i : Nat)
  /-- isinstance of the caught error, which stands at j -/
  | isx (j : Nat) (b : Bool)
  /-- a captured name -/
  | cap (j : Nat)
  /-- only where captured names are known -/
  | need (e : Ex)
  /-- a call from a def whose names are captured: these names' places -/
  | callG (f : Nat) (es : Xs) (cs : List Nat)
  /-- a call of such a def -/
  | callM (f : Nat) (es : Xs)
  | lc (own : List Nat) (t : Tg) (k : Itk) (es : Xs) (cond elt : Ex)
  | lc2 (own : List Nat) (t : Tg) (k : Itk) (es : Xs) (t2 : Tg) (k2 : Itk) (es2 : Xs) (elt : Ex)
  | dc (own : List Nat) (t : Tg) (k : Itk) (es : Xs) (cond key val : Ex)
inductive Xs where
  | nil
  | cons (star : Bool) (e : Ex) (r : Xs)
end
/-- how many arguments, if none has a star -/
def Xs.plain : Xs → Option Nat
  | .nil => some 0
  | .cons true _ _ => none
  | .cons false _ r => r.plain.map (· + 1)
/-- what an except clause does: return a constant, return whether a name isn't None -/
inductive Hd where
  | ret (d : D)
  | some? (i : Nat)
  /-- the caught error's row -/
  | row (j : Nat)
/-- where what was tried goes -/
inductive Tk where
  | ret
  | set (i : Nat)
  | drop
mutual
inductive As where
  | nm (i : Nat)
  | sub (a i : Ex)
  | fld (a : Ex) (n : Nat)
  | tp (ts : Ats)
inductive Ats where
  | nil
  | cons (t : As) (r : Ats)
end
def Ats.len : Ats → Nat
  | .nil => 0
  | .cons _ r => r.len + 1
mutual
inductive St where
  | ex (e : Ex)
  | asg (t : As) (e : Ex)
  | par (is : List Nat) (es : Xs)
  | aug (i : Nat) (e : Ex)
  | ite (c : Ex) (a b : Ss)
  | whl (c : Ex) (b : Ss)
  | for (t : Tg) (k : Itk) (es : Xs) (b : Ss)
  | ret (e : Ex)
  | bad
  /-- raise of an own class -/
  | rse (c : Nat)
  /-- raise of an own class that keeps a row -/
  | rseV (c : Nat) (e : Ex)
  /-- try: x(y) except: a word by the error's class -/
  | word (v i : Nat) (hs : List (Nat × List Nat))
  /-- try: (x =, return) f(..) except: what is caught, what is done -/
  | tryC (t : Tk) (f : Nat) (es : Xs) (hs : List (List Nat × Hd))
inductive Ss where
  | nil
  | cons (s : St) (r : Ss)
end

/-! ### operations by values -/
def line : Nat := 16777216
def lists? (s : Store) (n : Nat) : Option (List D) := match s.get n with
  | some (.lst xs) => some xs
  | some (.flst xs) => some xs
  | _ => none
def small64 (i : Int) : Bool := decide (-18446744073709551616 < i) && decide (i < 18446744073709551616)
def small3 (i : Int) : Bool := decide (-1000 ≤ i) && decide (i ≤ 1000)
def rep {α : Type} (n : Nat) (xs : List α) : List α := (List.replicate n xs).flatten
def binV (o : Bop) (a b : D) (s : Store) : R D := match o, a, b with
  | .add, .int i, .int j => .ok (.int (i + j)) s
  | .add, .str x, .str y => if x.length + y.length ≤ line then .ok (.str (x ++ y)) s else .stuck
  | .add, .tup x, .tup y => if x.length + y.length ≤ line then .ok (.tup (x ++ y)) s else .stuck
  | .add, .ref m, .ref n => match s.get m, s.get n with
    | some (.lst x), some (.lst y) => if x.length + y.length ≤ line then .ok (.ref s.sz) (s.add (.lst (x ++ y))) else .stuck
    | _, _ => .stuck
  | .sub, .int i, .int j => .ok (.int (i - j)) s
  | .mul, .int i, .int j => if small64 i || small64 j then .ok (.int (i * j)) s else .stuck
  | .mul, .tup x, .int n => if x.length ≤ 1000 ∧ small3 n then .ok (.tup (rep n.toNat x)) s else .stuck
  | .mul, .str x, .int n => if x.length ≤ 1000 ∧ small3 n then .ok (.str (rep n.toNat x)) s else .stuck
  | .mul, .ref m, .int n => match s.get m with
    | some (.lst x) => if x.length ≤ 1000 ∧ small3 n then .ok (.ref s.sz) (s.add (.lst (rep n.toNat x))) else .stuck
    | _ => .stuck
  | .fdiv, .int i, .int j => if 0 < j ∧ j < 1073741824 then .ok (.int (i / j)) s else .stuck
  | .mod, .int i, .int j => if 0 < j then .ok (.int (i % j)) s else .stuck
  | _, _, _ => .stuck

/-- keys of dicts: 1 an int or a text, 2 a tuple; 0 none of these -/
def kk : D → Nat
  | .int _ => 1
  | .str x => if x.all goodCp then 1 else 0
  | .tup xs => if D.flats xs && decide (D.depths xs < 8) then 2 else 0
  | _ => 0
def kkOk (kvs : List (D × D)) (k : D) : Bool := match kvs with
  | [] => kk k != 0
  | p :: _ => kk k != 0 && kk k == kk p.1
def lookD (kvs : List (D × D)) (k : D) : Option D := match kvs with
  | [] => none
  | p :: r => if D.eqv p.1 k then some p.2 else lookD r k
def putD (kvs : List (D × D)) (k v : D) : List (D × D) :=
  if (lookD kvs k).isSome then kvs.map fun p => if D.eqv p.1 k then (p.1, v) else p else kvs ++ [(k, v)]
def anyEq (x : D) : List Pd → Option Pd → Option Bool
  | _, none => none
  | ys, some x => some (ys.any fun y => y.eqv x)
/-- x in xs -/
def memS (s : Store) (x : D) (xs : List D) : Option Bool := match dat 58 s x, allOpt (dat 58 s) xs with
  | some a, some bs => some (bs.any fun b => b.eqv a)
  | _, _ => none
/-- None is asked of a dict with tuple keys -/
def noneIn (a : D) (kvs : List (D × D)) (s : Store) : Bool := match a with
  | .non => match kvs with
    | [] => false
    | p :: _ => kk p.1 == 2 && (allOpt (fun q : D × D => dat 58 s q.1) kvs).isSome
  | _ => false
def inV (a b : D) (s : Store) : Option Bool := match b with
  | .str z => match a with
    | .str [c] => some (decide (c ∈ z))
    | _ => none
  | .tup xs => memS s a xs
  | .ref n => match s.get n with
    | some (.lst xs) => memS s a xs
    | some (.flst xs) => memS s a xs
    | some (.dct _ kvs) => if kkOk kvs a then some (lookD kvs a).isSome else if noneIn a kvs s then some false else none
    | _ => none
  | _ => none
def isV (a b : D) : Option Bool := match a, b with
  | .non, .non => some true
  | .bl x, .bl y => some (x == y)
  | .non, .bl _ | .bl _, .non | .int _, .non | .str _, .non | .tup _, .non | .ref _, .non => some false
  | _, _ => none
/-- == of data of no great depth -/
def eqS4 (s : Store) (a b : D) : Option Bool := match dat 40 s a, dat 40 s b with
  | some x, some y => some (x.eqv y)
  | _, _ => none
/-- what stands in one dict stands in another one -/
def eqKV (s : Store) (kb : List (D × D)) : List (D × D) → Option Bool
  | [] => some true
  | p :: r => match lookD kb p.1 with
    | none => some false
    | some y => match eqS4 s p.2 y, eqKV s kb r with
      | some e, some b => some (e && b)
      | _, _ => none
def tupKeys (kvs : List (D × D)) : Bool := kvs.all fun p => kk p.1 == 2
/-- two dicts with tuple keys -/
def eqDct (s : Store) (m n : Nat) : Option Bool := match s.get m, s.get n with
  | some (.dct _ ka), some (.dct _ kb) => if m ≠ n ∧ tupKeys ka = true ∧ tupKeys kb = true then (if ka.length = kb.length then eqKV s kb ka else some false) else none
  | _, _ => none
def eqI (s : Store) (a b : D) : Option Bool := match eqS4 s a b with
  | some r => some r
  | none => match a, b with
    | .ref m, .ref n => eqDct s m n
    | _, _ => none
def eqIs (s : Store) : List D → List D → Option Bool
  | [], [] => some true
  | x :: xs, y :: ys => match eqI s x y, eqIs s xs ys with
    | some a, some b => some (a && b)
    | _, _ => none
  | [], _ :: _ => none
  | _ :: _, [] => none
/-- == of data, of dicts with tuple keys, and of tuples of these -/
def eqV (s : Store) (a b : D) : Option Bool := match eqS s a b with
  | some r => some r
  | none => match a, b with
    | .ref m, .ref n => eqDct s m n
    | .tup xs, .tup ys => eqIs s xs ys
    | _, _ => none
theorem eqV_old {s : Store} {a b : D} {r : Bool} (h : eqS s a b = some r) : eqV s a b = some r := by unfold eqV; rw [h]
def cmpV (o : Cop) (a b : D) (s : Store) : R D := match o with
  | .eq => ofOpt ((eqV s a b).map .bl) s
  | .ne => ofOpt ((eqS s a b).map fun b => .bl !b) s
  | .lt => match a, b with | .int i, .int j => .ok (.bl (decide (i < j))) s | _, _ => .stuck
  | .le => match a, b with | .int i, .int j => .ok (.bl (decide (i ≤ j))) s | _, _ => .stuck
  | .gt => match a, b with | .int i, .int j => .ok (.bl (decide (j < i))) s | _, _ => .stuck
  | .ge => match a, b with | .int i, .int j => .ok (.bl (decide (j ≤ i))) s | _, _ => .stuck
  | .is => ofOpt ((isV a b).map .bl) s
  | .isnot => ofOpt ((isV a b).map fun b => .bl !b) s
  | .inn => ofOpt ((inV a b s).map .bl) s
  | .notin => ofOpt ((inV a b s).map fun b => .bl !b) s

/-- the place that an index means -/
def ixP (n : Nat) (i : Int) : Option Nat := if 0 ≤ i then (if i < n then some i.toNat else none) else if -(n : Int) ≤ i then some (i + n).toNat else none
def atP {α : Type} (xs : List α) (i : Int) : Option α := match ixP xs.length i with
  | some j => xs[j]?
  | none => none
def subV (a i : D) (s : Store) : R D := match a, i with
  | .tup xs, .int i => ofOpt (atP xs i) s
  | .str x, .int i => if x.length ≤ line then ofOpt ((atP x i).map fun c => .str [c]) s else .stuck
  | .ref n, i => match s.get n with
    | some (.lst xs) => match i with | .int i => ofOpt (atP xs i) s | _ => .stuck
    | some (.flst xs) => match i with | .int i => ofOpt (atP xs i) s | _ => .stuck
    | some (.dct _ kvs) => if kkOk kvs i then ofOpt (lookD kvs i) s else .stuck
    | _ => .stuck
  | _, _ => .stuck
/-- a part of a slice -/
def partV (d : D) (s : Store) : R (Option Int) := match d with
  | .int i => .ok (some i) s
  | _ => .stuck
def sIx (n : Nat) (d : Nat) : Option Int → Nat
  | none => d
  | some i => if i < 0 then (i + n).toNat else min i.toNat n
def cut {α : Type} (xs : List α) (lo hi : Option Int) : List α := (xs.drop (sIx xs.length 0 lo)).take (sIx xs.length xs.length hi - sIx xs.length 0 lo)
def slV (a : D) (l h : Option Int) (s : Store) : R D := match a with
  | .tup xs => .ok (.tup (cut xs l h)) s
  | .str x => if x.length ≤ line then .ok (.str (cut x l h)) s else .stuck
  | .ref n => match lists? s n with
    | some xs => .ok (.ref s.sz) (s.add (.lst (cut xs l h)))
    | none => .stuck
  | _ => .stuck
def revV (a : D) (s : Store) : R D := match a with
  | .ref n => match s.get n with
    | some (.lst xs) => .ok (.ref s.sz) (s.add (.lst xs.reverse))
    | _ => .stuck
  | .str x => if x.length ≤ line then .ok (.str x.reverse) s else .stuck
  | _ => .stuck

def intOf : D → Option Int | .int i => some i | _ => none
def blOf : D → Option Bool | .bl b => some b | _ => none
def strOf : D → Option (List Nat) | .str b => some b | _ => none
/-- what is not told of a table -/
def offTab (s : Store) (n : Nat) : Option Bool := match s.get n with
  | some (.tab _) => none
  | _ => some false
def isTy (s : Store) (d : D) : Ty → Option Bool
  | .str => match d with | .str _ => some true | .ref n => offTab s n | .fn _ => none | _ => some false
  | .tuple => match d with | .tup _ => some true | .ref n => offTab s n | .fn _ => none | _ => some false
  | .int => match d with | .int _ => some true | .bl _ => some true | .ref n => offTab s n | .fn _ => none | _ => some false
  | .bool => match d with | .bl _ => some true | .ref n => offTab s n | .fn _ => none | _ => some false
  | .dict => match d with
    | .ref n => match s.get n with | some (.dct ..) => some true | some (.tab _) => none | some _ => some false | none => none
    | .fn _ => none
    | _ => some false
  | .list => match d with
    | .ref n => match s.get n with | some (.lst _) => some true | some (.flst _) => some true | some (.tab _) => none | some _ => some false | none => none
    | .fn _ => none
    | _ => some false
  | .cls c => match d with
    | .ref n => match s.get n with | some (.ins c' _) => some (c == c') | some (.tab _) => none | some _ => some false | none => none
    | .fn _ => none
    | _ => some false
def isTys (s : Store) (d : D) : List Ty → Option Bool
  | [] => some false
  | t :: r => match isTy s d t, isTys s d r with
    | some a, some b => some (a || b)
    | _, _ => none
def minL : List Int → Option Int
  | [] => none
  | x :: xs => some (xs.foldl (fun a b => if b < a then b else a) x)
def maxL : List Int → Option Int
  | [] => none
  | x :: xs => some (xs.foldl (fun a b => if b > a then b else a) x)
def numbered : Nat → List D → List D
  | _, [] => []
  | i, x :: xs => .tup [.int i, x] :: numbered (i + 1) xs
def lenV (as : List D) (s : Store) : R D := match as with
  | [.tup xs] => .ok (.int xs.length) s
  | [.str x] => if x.length ≤ line then .ok (.int x.length) s else .stuck
  | [.ref n] => match s.get n with
    | some (.lst xs) => .ok (.int xs.length) s
    | some (.flst xs) => .ok (.int xs.length) s
    | some (.dct _ kvs) => .ok (.int kvs.length) s
    | _ => .stuck
  | _ => .stuck
def sumV (as : List D) (s : Store) : R D := match as with
  | [.ref n] => match lists? s n with
    | some xs => ofOpt ((allOpt intOf xs).map fun is => .int is.sum) s
    | none => .stuck
  | _ => .stuck
def allV (as : List D) (s : Store) : R D := match as with
  | [.ref n] => match lists? s n with
    | some xs => ofOpt ((allOpt blOf xs).map fun bs => .bl (bs.all id)) s
    | none => .stuck
  | _ => .stuck
def anyV (as : List D) (s : Store) : R D := match as with
  | [.ref n] => match lists? s n with
    | some xs => ofOpt ((allOpt blOf xs).map fun bs => .bl (bs.any id)) s
    | none => .stuck
  | _ => .stuck
def intV (as : List D) (s : Store) : R D := match as with
  | [.int i] => .ok (.int i) s
  | _ => .stuck
def absV (as : List D) (s : Store) : R D := match as with
  | [.int i] => .ok (.int (if i < 0 then -i else i)) s
  | _ => .stuck
def listV (as : List D) (s : Store) : R D := match as with
  | [.tup xs] => .ok (.ref s.sz) (s.add (.lst xs))
  | [.str x] => if x.length ≤ line then .ok (.ref s.sz) (s.add (.lst (x.map fun c => .str [c]))) else .stuck
  | [.ref n] => match s.get n with
    | some (.lst xs) => .ok (.ref s.sz) (s.add (.lst xs))
    | some (.flst xs) => .ok (.ref s.sz) (s.add (.lst xs))
    | some (.dct _ kvs) => .ok (.ref s.sz) (s.add (.lst (kvs.map (·.1))))
    | _ => .stuck
  | _ => .stuck
def tupleV (as : List D) (s : Store) : R D := match as with
  | [.tup xs] => .ok (.tup xs) s
  | [.ref n] => match s.get n with
    | some (.lst xs) => .ok (.tup xs) s
    | _ => .stuck
  | _ => .stuck
mutual
/-- hash of what holds no text -/
def hashD : D → Option Int
  | .non => some (PySem.reduceHash 0xFCA86420)
  | .bl b => some (PySem.hashInt (if b then 1 else 0))
  | .int i => some (PySem.hashInt i)
  | .str _ => none
  | .tup xs => (hashDs xs).map fun hs => PySem.reduceHash (PySem.Builtin.Tuple.tupleHashOf hs)
  | .ref _ | .fn _ => none
def hashDs : List D → Option (List Int)
  | [] => some []
  | x :: xs => match hashD x, hashDs xs with
    | some h, some hs => some (h :: hs)
    | _, _ => none
end
def nodupB : List Int → Bool
  | [] => true
  | x :: xs => !xs.any (fun y => decide (y = x)) && nodupB xs
/-- keys that all have a hash of their own -/
def apart (kvs : List (D × D)) : Bool := match kvs with
  | [] => true
  | [p] => kk p.1 == 2
  | _ => kvs.all (fun p => kk p.1 == 2) && match allOpt (fun (p : D × D) => hashD p.1) kvs with
    | some hs => nodupB hs
    | none => false
/-- pairs are put in, one behind another -/
def pairsD : List D → List (D × D) → Option (List (D × D))
  | [], acc => some acc
  | x :: r, acc => match x with
    | .tup [k, v] => if kkOk acc k && decide (acc.length < line) then pairsD r (putD acc k v) else none
    | _ => none
def dictV (as : List D) (s : Store) : R D := match as with
  | [.ref n] => match s.get n with
    | some (.lst xs) => match pairsD xs [] with
      | some kvs => .ok (.ref s.sz) (s.add (.dct false kvs))
      | none => .stuck
    | some (.dct _ kvs) => if apart kvs then .ok (.ref s.sz) (s.add (.dct false kvs)) else .stuck
    | _ => .stuck
  | _ => .stuck
def minV (as : List D) (s : Store) : R D := match as with
  | [.int i, .int j] => .ok (.int (if j < i then j else i)) s
  | [.ref n] => match lists? s n with
    | some xs => ofOpt (((allOpt intOf xs).bind minL).map .int) s
    | none => .stuck
  | _ => .stuck
def maxV (as : List D) (s : Store) : R D := match as with
  | [.ref n] => match lists? s n with
    | some xs => ofOpt (((allOpt intOf xs).bind maxL).map .int) s
    | none => .stuck
  | _ => .stuck
def listEnumV (as : List D) (s : Store) : R D := match as with
  | [.ref n] => match s.get n with
    | some (.lst xs) => .ok (.ref s.sz) (s.add (.lst (numbered 0 xs)))
    | _ => .stuck
  | _ => .stuck
def listRangeV (as : List D) (s : Store) : R D := match as with
  | [.int n] => if -4611686018427387904 ≤ n ∧ n ≤ 16777216 then .ok (.ref s.sz) (s.add (.lst ((List.range n.toNat).map fun (i : Nat) => .int (i : Int)))) else .stuck
  | _ => .stuck
def listValsV (as : List D) (s : Store) : R D := match as with
  | [.ref n] => match s.get n with
    | some (.dct _ kvs) => .ok (.ref s.sz) (s.add (.lst (kvs.map (·.2))))
    | _ => .stuck
  | _ => .stuck
/-- rows of ints and bools, put in order -/
def encA : D → PySem.PyData
  | .bl b => .bool b
  | .int i => .int i
  | _ => .none
def encT : D → PySem.PyData
  | .tup xs => .tuple (xs.map encA)
  | _ => .none
def isAtom : D → Bool
  | .bl _ => true
  | .int _ => true
  | _ => false
def isRow : D → Bool
  | .tup (x :: r) => isAtom x && r.all isAtom
  | _ => false
def insD (le : D → D → Bool) (x : D) : List D → List D
  | [] => [x]
  | y :: r => if le x y then x :: y :: r else y :: insD le x r
def isortD (le : D → D → Bool) : List D → List D
  | [] => []
  | x :: r => insD le x (isortD le r)
def sortedV (as : List D) (s : Store) : R D := match as with
  | [.ref n] => match s.get n with
    | some (.lst xs) => if xs.length ≤ 1 then .ok (.ref s.sz) (s.add (.lst xs)) else if xs.all isRow && xs.all (fun a => xs.all fun b => PySem.W.alike (encT a) (encT b)) then .ok (.ref s.sz) (s.add (.lst (isortD (PySem.W.dataLe false encT) xs))) else .stuck
    | _ => .stuck
  | _ => .stuck
/-- what is sorted by: (len(x), x) -/
def encL : D → PySem.PyData
  | .str x => .tuple [.int x.length, .str ⟨x.toArray⟩]
  | .tup xs => .tuple [.int xs.length, .tuple (xs.map encA)]
  | _ => .none
def isStrL : D → Bool
  | .str x => decide (x.length ≤ line)
  | _ => false
def isIntD : D → Bool
  | .int _ => true
  | _ => false
def isIntsL : D → Bool
  | .tup xs => xs.all isIntD
  | _ => false
def sortLenV (i : Nat) (as : List D) (s : Store) : R D := match s.get (i + 1), as with
  | some (.tab j), [.ref n] => if i = j then match s.get n with
    | some (.lst xs) => if xs.all isStrL || xs.all isIntsL then .ok (.ref s.sz) (s.add (.lst (isortD (PySem.W.dataLe false encL) xs))) else .stuck
    | _ => .stuck
    else .stuck
  | _, _ => .stuck
def insU (x : Int) : List Int → List Int
  | [] => [x]
  | y :: l => if x < y then x :: y :: l else if x = y then y :: l else y :: insU x l
def sortU : List Int → List Int
  | [] => []
  | x :: l => insU x (sortU l)
def sortSetV (as : List D) (s : Store) : R D := match as with
  | [.ref n] => match s.get n with
    | some (.lst xs) => match allOpt intOf xs with
      | some ns => if ns.length < 64 then .ok (.ref s.sz) (s.add (.lst ((sortU ns).map .int))) else .stuck
      | none => .stuck
    | _ => .stuck
  | _ => .stuck
def sizeV (as : List D) (s : Store) : R D := match as with
  | [.int i] => if 0 ≤ i ∧ i < 4611686018427387904 then .ok (.int i) s else .stuck
  | _ => .stuck
def isiV (ts : List Ty) (as : List D) (s : Store) : R D := match as with
  | [d] => ofOpt ((isTys s d ts).map .bl) s
  | _ => .stuck
def bltV (b : Blt) (as : List D) (s : Store) : R D := match b with
  | .len => lenV as s
  | .sum => sumV as s
  | .all => allV as s
  | .any => anyV as s
  | .int => intV as s
  | .abs => absV as s
  | .list => listV as s
  | .tuple => tupleV as s
  | .dict => dictV as s
  | .min => minV as s
  | .max => maxV as s
  | .listEnum => listEnumV as s
  | .listRange => listRangeV as s
  | .listVals => listValsV as s
  | .sorted => sortedV as s
  | .isi ts => isiV ts as s
  | .sortLen i => sortLenV i as s
  | .sortSet => sortSetV as s
  | .size => sizeV as s
def joinS (sep : List Nat) : List (List Nat) → List Nat
  | [] => []
  | [x] => x
  | x :: r => x ++ sep ++ joinS sep r
def countEq (a : Pd) : List Pd → Int
  | [] => 0
  | b :: r => (if b.eqv a then 1 else 0) + countEq a r
def indexEq (a : Pd) : List Pd → Option Int
  | [] => none
  | b :: r => if b.eqv a then some 0 else (indexEq a r).map (· + 1)
def appendV (a : D) (as : List D) (s : Store) : R D := match a, as with
  | .ref n, [x] => match s.get n with
    | some (.lst xs) => if xs.length < line then .ok .non (s.set n (.lst (xs ++ [x]))) else .stuck
    | _ => .stuck
  | _, _ => .stuck
def popV (a : D) (as : List D) (s : Store) : R D := match a, as with
  | .ref n, [] => match s.get n with
    | some (.lst xs) => match xs[xs.length - 1]? with
      | some y => .ok y (s.set n (.lst xs.dropLast))
      | none => .stuck
    | _ => .stuck
  | .ref n, [.int i] => match s.get n with
    | some (.lst xs) => match ixP xs.length i with
      | some j => match xs[j]? with
        | some y => .ok y (s.set n (.lst (xs.eraseIdx j)))
        | none => .stuck
      | none => .stuck
    | _ => .stuck
  | _, _ => .stuck
def extendV (a : D) (as : List D) (s : Store) : R D := match a, as with
  | .ref n, [.ref m] => match s.get n, s.get m with
    | some (.lst xs), some (.lst ys) => if xs.length + ys.length ≤ line then .ok .non (s.set n (.lst (xs ++ ys))) else .stuck
    | _, _ => .stuck
  | _, _ => .stuck
def clearV (a : D) (as : List D) (s : Store) : R D := match a, as with
  | .ref n, [] => match s.get n with
    | some (.lst _) => .ok .non (s.set n (.lst []))
    | _ => .stuck
  | _, _ => .stuck
def dclearV (a : D) (as : List D) (s : Store) : R D := match a, as with
  | .ref n, [] => match s.get n with
    | some (.dct false _) => .ok .non (s.set n (.dct false []))
    | _ => .stuck
  | _, _ => .stuck
def isDct (a : D) (s : Store) : Bool := match a with
  | .ref n => match s.get n with | some (.dct _ _) => true | _ => false
  | _ => false
def reverseV (a : D) (as : List D) (s : Store) : R D := match a, as with
  | .ref n, [] => match s.get n with
    | some (.lst xs) => .ok .non (s.set n (.lst xs.reverse))
    | _ => .stuck
  | _, _ => .stuck
/-- None, bools, ints, texts -/
def leafD : D → Bool
  | .non | .bl _ | .int _ | .str _ => true
  | .tup _ | .ref _ | .fn _ => false
def countV (a : D) (as : List D) (s : Store) : R D := match a, as with
  | .ref n, [x] => match s.get n with
    | some (.lst xs) => if leafD x && xs.all leafD then .ok (.int (xs.countP fun y => D.eqv y x : Nat)) s else .stuck
    | _ => .stuck
  | _, _ => .stuck
def indexV (a : D) (as : List D) (s : Store) : R D := match a, as with
  | .ref n, [x] => match s.get n with
    | some (.lst xs) => if leafD x && xs.all leafD then match xs.findIdx? fun y => D.eqv y x with
      | some j => .ok (.int (j : Nat)) s
      | none => .stuck
      else .stuck
    | _ => .stuck
  | _, _ => .stuck
def getV (a : D) (as : List D) (s : Store) : R D := match a, as with
  | .ref n, [k] => match s.get n with
    | some (.dct _ kvs) => if kkOk kvs k then .ok ((lookD kvs k).getD .non) s else .stuck
    | _ => .stuck
  | .ref n, [k, x] => match s.get n with
    | some (.dct _ kvs) => if kkOk kvs k then .ok ((lookD kvs k).getD x) s else .stuck
    | _ => .stuck
  | _, _ => .stuck
/-- a dict without a key -/
def delD (kvs : List (D × D)) (k : D) : List (D × D) := kvs.filter fun p => !D.eqv p.1 k
def dpopV (a : D) (as : List D) (s : Store) : R D := match a, as with
  | .ref n, [k] => match s.get n with
    | some (.dct false kvs) => if kkOk kvs k then match lookD kvs k with
      | some d => .ok d (s.set n (.dct false (delD kvs k)))
      | none => .stuck
      else .stuck
    | _ => .stuck
  | _, _ => .stuck
def joinV (a : D) (as : List D) (s : Store) : R D := match a, as with
  | .str z, [.ref n] => match lists? s n with
    | some xs => match allOpt strOf xs with
      | some ts => if (ts.map (·.length)).sum + ts.length * z.length ≤ line then .ok (.str (joinS z ts)) s else .stuck
      | none => .stuck
    | none => .stuck
  | .str z, [.tup xs] => match allOpt strOf xs with
    | some ts => if (ts.map (·.length)).sum + ts.length * z.length ≤ line then .ok (.str (joinS z ts)) s else .stuck
    | none => .stuck
  | _, _ => .stuck
/-- a text cut at each place where another stands -/
def splitL (x y : List Nat) : List (List Nat) := (PySem.Txt.split ⟨x.toArray⟩ ⟨y.toArray⟩).map fun z => z.cps.toList
def splitV (a : D) (as : List D) (s : Store) : R D := match a, as with
  | .str x, [.str y] => if y.length ≠ 0 ∧ x.length + 2 ≤ line then .ok (.ref s.sz) (s.add (.lst ((splitL x y).map .str))) else .stuck
  | _, _ => .stuck
def replL (x y z : List Nat) : List Nat := (PySem.Txt.replace ⟨x.toArray⟩ ⟨y.toArray⟩ ⟨z.toArray⟩).cps.toList
def replV (a : D) (as : List D) (s : Store) : R D := match a, as with
  | .str x, [.str y, .str z] => if y ≠ z ∧ x.length + (x.length + 1) * z.length ≤ line then .ok (.str (replL x y z)) s else .stuck
  | _, _ => .stuck
def bmV (m : Bm) (a : D) (as : List D) (s : Store) : R D := match m with
  | .append => appendV a as s
  | .pop => popV a as s
  | .extend => extendV a as s
  | .clear => if isDct a s then dclearV a as s else clearV a as s
  | .reverse => reverseV a as s
  | .count => countV a as s
  | .index => indexV a as s
  | .get => getV a as s
  | .join => joinV a as s
  | .split => splitV a as s
  | .replace => replV a as s
  | .dpop => dpopV a as s

/-- what a method is asked of -/
def recvOk (m : Bm) (x : D) (s : Store) : Bool := match m with
  | .append | .pop | .extend | .reverse | .count | .index => match x with
    | .ref n => match s.get n with | some (.lst _) => true | _ => false
    | _ => false
  | .clear => match x with
    | .ref n => match s.get n with | some (.lst _) => true | some (.dct _ _) => true | _ => false
    | _ => false
  | .get | .dpop => match x with
    | .ref n => match s.get n with | some (.dct _ _) => true | _ => false
    | _ => false
  | .join | .split | .replace => match x with
    | .str _ => true
    | _ => false
/-- the i-th thing of what is walked -/
inductive Nxt where
  | stop
  | item (d : D)
  | bad
def nth {α : Type} (xs : List α) (i : Nat) (f : α → D) : Nxt := match xs[i]? with
  | some x => .item (f x)
  | none => .stop
def itVal (d : D) (i : Nat) (s : Store) : Nxt := match d with
  | .tup xs => nth xs i id
  | .str x => nth x i fun c => .str [c]
  | .ref n => match s.get n with
    | some (.lst xs) => nth xs i id
    | some (.flst xs) => nth xs i id
    | _ => .bad
  | _ => .bad
def itAt (k : Itk) (ds : List D) (i : Nat) (s : Store) : Nxt := match k, ds with
  | .val, [d] => itVal d i s
  | .rng, [.int n] => if -4611686018427387904 ≤ n ∧ n < 4611686018427387904 then (if (i : Int) < n then .item (.int i) else .stop) else .bad
  | .enum, [d] => match d with
    | .ref n => match s.get n with
      | some (.lst xs) => nth xs i fun x => .tup [.int i, x]
      | _ => .bad
    | .tup xs => nth xs i fun x => .tup [.int i, x]
    | .str xs => nth xs i fun c => .tup [.int i, .str [c]]
    | _ => .bad
  | .zip, [a, b] => match a, b with
    | .tup xs, .tup ys => match xs[i]?, ys[i]? with
      | some x, some y => .item (.tup [x, y])
      | _, _ => .stop
    | _, _ => .bad
  | _, _ => .bad
/-- what is walked, as it stands at the beginning: a dict's keys, pairs, values -/
def snap (k : Itk) (ds : List D) (s : Store) : Itk × List D := match ds with
  | [.ref n] => match s.get n with
    | some (.dct _ kvs) => match k with
      | .val => (.val, [.tup (kvs.map (·.1))])
      | .items => (.val, [.tup (kvs.map fun p => .tup [p.1, p.2])])
      | .values => (.val, [.tup (kvs.map (·.2))])
      | k => (k, ds)
    | _ => (k, ds)
  | _ => (k, ds)
/-- which dict is locked by a walk, and what it was -/
def lockOf (k : Itk) (ds : List D) (s : Store) : Option (Nat × List (D × D)) := match ds with
  | [.ref n] => match s.get n with
    | some (.dct false kvs) => some (n, kvs)
    | _ => none
  | _ => none
def lock (l : Option (Nat × List (D × D))) (s : Store) : Store := match l with
  | some (n, kvs) => s.set n (.dct true kvs)
  | none => s
def unlock (l : Option (Nat × List (D × D))) (s : Store) : Store := match l with
  | some (n, kvs) => s.set n (.dct false kvs)
  | none => s
def R.unl {α : Type} (l : Option (Nat × List (D × D))) : R α → R α
  | .ok a s => .ok a (unlock l s)
  | .exc c x s => match l with
    | none => .exc c x s
    | some _ => .stuck
  | .stuck => .stuck

abbrev Env := List (Option D)
def setTg (t : Tg) (d : D) (env : Env) : Option Env := match t with
  | .nm i => some (env.set i (some d))
  | .tp is => match d with
    | .tup xs => if xs.length = is.length then some ((is.zip xs).foldl (fun e p => e.set p.1 (some p.2)) env) else none
    | _ => none
def tgN : Tg → List Nat
  | .nm i => [i]
  | .tp is => is
def wipeE (env : Env) : List Nat → Env
  | [] => env
  | v :: vs => (wipeE env vs).set v none

/-- a turn after another: f hands on an accumulator -/
def walk {α : Type} (k : Itk) (ds : List D) (f : D → α → Store → R α) : Nat → Nat → α → Store → R α
  | 0, _, _, _ => .stuck
  | n + 1, i, a, s => match itAt k ds i s with
    | .bad => .stuck
    | .stop => .ok a s
    | .item d => (f d a s).bind fun a' s' => walk k ds f n (i + 1) a' s'

/-- what a program has: its defs' bodies, its classes' methods -/
structure Fn where
  np : Nat
  nn : Nat
  body : Ss
structure Cl where
  init : Nat
  /-- methods: name, def, what lacks behind the arguments -/
  ms : List (Nat × Nat × List D)
  eq : Option Nat
structure Tbl where
  fns : List Fn
  cls : List Cl
  /-- within a def whose names are captured -/
  inn : Bool := false
  /-- what the captured names hold -/
  γ : Option (List (Option D)) := none

abbrev Caller := Nat → List D → Store → R D
def boolOf (d : D) (s : Store) : R Bool := match d with
  | .bl b => .ok b s
  | _ => .stuck
/-- the class of an instance -/
def clsAt (s : Store) : D → Option Nat
  | .ref n => match s.get n with | some (.ins c _) => some c | _ => none
  | _ => none

def lookF (fs : List (Nat × D)) (n : Nat) : Option D := match fs with
  | [] => none
  | p :: r => if p.1 = n then some p.2 else lookF r n
def putF (fs : List (Nat × D)) (n : Nat) (v : D) : List (Nat × D) := match fs with
  | [] => [(n, v)]
  | p :: r => if p.1 = n then (n, v) :: r else p :: putF r n v

/-- what a star hands on -/
def starOf (x : D) (s : Store) : Option (List D) := match x with
  | .tup xs => some xs
  | .ref n => match s.get n with
    | some (.lst xs) => some xs
    | _ => none
  | _ => none
def setItemV (a i v : D) (s : Store) : R Unit := match a with
  | .ref n => match s.get n with
    | some (.lst xs) => match i with
      | .int i => match ixP xs.length i with
        | some j => .ok () (s.set n (.lst (xs.set j v)))
        | none => .stuck
      | _ => .stuck
    | some (.dct false kvs) => if kkOk kvs i && decide (kvs.length < line) then .ok () (s.set n (.dct false (putD kvs i v))) else .stuck
    | _ => .stuck
  | _ => .stuck
/-- a dict is written -/
def putDct (n : Nat) (k v : D) (s : Store) : R Unit := match s.get n with
  | some (.dct false kvs) => if kkOk kvs k && decide (kvs.length < line) then .ok () (s.set n (.dct false (putD kvs k v))) else .stuck
  | _ => .stuck
/-- it can be walked -/
def startOk (k : Itk) (ds : List D) (s : Store) : Bool := match itAt (snap k ds s).1 (snap k ds s).2 0 (lock (lockOf k ds s) s) with
  | .bad => false
  | _ => true
/-- the pairs of a display are put in -/
def mkDict : List D → Nat → Store → R D
  | [], n, s => .ok (.ref n) s
  | [_], _, _ => .stuck
  | k :: v :: r, n, s => (setItemV (.ref n) k v s).bind fun _ s => mkDict r n s
/-- no table -/
def offT (s : Store) : D → Bool
  | .ref n => match s.get n with
    | some (.tab _) => false
    | _ => true
  | .fn _ => false
  | _ => true
/-- a comparison, by an own __eq__ where there is one -/
def cmpC (T : Tbl) (call : Caller) (o : Cop) (x y : D) (s : Store) : R D := match clsAt s x, o with
  | some c, .eq => match (T.cls[c]?).bind (·.eq) with
    | some f => if offT s y then call f [x, y] s else .stuck
    | none => .stuck
  | some c, .ne => match (T.cls[c]?).bind (·.eq) with
    | some f => if offT s y then (call f [x, y] s).bind fun r s => (boolOf r s).bind fun k s => .ok (.bl !k) s else .stuck
    | none => .stuck
  | _, _ => cmpV o x y s

/-- what names hold, handed on as data -/
def encG (cs : List Nat) (env : Env) : D := .tup (cs.map fun i => match env[i]? with
  | some (some d) => .tup [d]
  | _ => .tup [])
def decO : D → Option D
  | .tup [d] => some d
  | _ => none
def decG : D → Option (List (Option D))
  | .tup xs => some (xs.map decO)
  | _ => none
mutual
/-- nothing captured, nothing behind the n-th place -/
def cleanD (n : Nat) : D → Bool
  | .ref i => decide (i < n)
  | .fn _ => false
  | .tup xs => cleanDs n xs
  | .non | .bl _ | .int _ | .str _ => true
def cleanDs (n : Nat) : List D → Bool
  | [] => true
  | x :: xs => cleanD n x && cleanDs n xs
end
def cleanO (n : Nat) : Ob → Bool
  | .lst xs => cleanDs n xs
  | .flst _ => true
  | .dct _ kvs => kvs.all fun p => cleanD n p.1 && cleanD n p.2
  | .ins _ fs => fs.all fun p => cleanD n p.2
  | .tab _ => true
def cleanS (n : Nat) (s : Store) : Bool := (List.range n).all fun i => match s.get i with
  | some o => cleanO n o
  | none => true
def Store.cut (s : Store) (n : Nat) : Store := ⟨n, s.t⟩
/-- behind a def whose names were captured: what it made is gone -/
def leave (n : Nat) (r : R D) : R D := match r with
  | .ok d s => if cleanD n d && (cleanS n s && decide (n ≤ s.sz)) then .ok d (s.cut n) else .stuck
  | .exc _ _ _ => .stuck
  | .stuck => .stuck
mutual
def evE (T : Tbl) (F : Nat) (call : Caller) : Ex → Env → Store → R D
  | .c d, _, s => .ok d s
  | .v i, env, s => match env[i]? with
    | some (some d) => .ok d s
    | _ => .stuck
  | .tup es, env, s => (evX T F call es env s).bind fun ds s => if ds.length ≤ line then .ok (.tup ds) s else .stuck
  | .lst es, env, s => (evX T F call es env s).bind fun ds s => if ds.length ≤ line then .ok (.ref s.sz) (s.add (.lst ds)) else .stuck
  | .dct es, env, s => (evX T F call es env s).bind fun ds s => mkDict ds s.sz (s.add (.dct false []))
  | .bin o a b, env, s => (evE T F call a env s).bind fun x s => (evE T F call b env s).bind fun y s => binV o x y s
  | .cmp o a b, env, s => (evE T F call a env s).bind fun x s => (evE T F call b env s).bind fun y s => cmpC T call o x y s
  | .chain o p a b c, env, s => (evE T F call a env s).bind fun x s => (evE T F call b env s).bind fun y s => (cmpV o x y s).bind fun r s =>
      (boolOf r s).bind fun k s => if k then (evE T F call c env s).bind fun z s => cmpV p y z s else .ok (.bl false) s
  | .and a b, env, s => (evE T F call a env s).bind fun x s => (boolOf x s).bind fun k s => if k then evE T F call b env s else .ok (.bl false) s
  | .or a b, env, s => (evE T F call a env s).bind fun x s => (boolOf x s).bind fun k s => if k then .ok (.bl true) s else evE T F call b env s
  | .not a, env, s => (evE T F call a env s).bind fun x s => (boolOf x s).bind fun k s => .ok (.bl !k) s
  | .neg a, env, s => (evE T F call a env s).bind fun x s => match x with
    | .int i => .ok (.int (-i)) s
    | _ => .stuck
  | .ite c a b, env, s => (evE T F call c env s).bind fun x s => (boolOf x s).bind fun k s => if k then evE T F call a env s else evE T F call b env s
  | .sub a i, env, s => (evE T F call a env s).bind fun x s => (evE T F call i env s).bind fun y s => subV x y s
  | .sl a hl lo hh hi, env, s => (evE T F call a env s).bind fun x s => (if hl then (evE T F call lo env s).bind partV else .ok none s).bind fun l s => (if hh then (evE T F call hi env s).bind partV else .ok none s).bind fun h s => slV x l h s
  | .rev a, env, s => (evE T F call a env s).bind fun x s => revV x s
  | .call f es, env, s => (evX T F call es env s).bind fun ds s => call f ds s
  | .make c es, env, s => (evX T F call es env s).bind fun ds s => match T.cls[c]? with
    | some k => (call k.init (.ref s.sz :: ds) (s.add (.ins c []))).bind fun r s' => match r with
      | .non => .ok (.ref s.sz) s'
      | _ => .stuck
    | none => .stuck
  | .fld a n, env, s => (evE T F call a env s).bind fun x s => match x with
    | .ref m => match s.get m with
      | some (.ins _ fs) => ofOpt (lookF fs n) s
      | _ => .stuck
    | _ => .stuck
  | .meth a m es, env, s => (evE T F call a env s).bind fun x s => match clsAt s x with
    | some c => match T.cls[c]? with
      | some k => match k.ms.lookup m with
        | some p => (evX T F call es env s).bind fun ds s => call p.1 (x :: (ds ++ p.2)) s
        | none => .stuck
      | none => .stuck
    | none => .stuck
  | .prop a n, env, s => (evE T F call a env s).bind fun x s => match clsAt s x with
    | some c => match T.cls[c]? with
      | some k => match k.ms.lookup n with
        | some p => (call p.1 [x] s).noexc
        | none => .stuck
      | none => .stuck
    | none => .stuck
  | .blt b es, env, s => (evX T F call es env s).bind fun ds s => bltV b ds s
  | .bm m a es, env, s => (evE T F call a env s).bind fun x s => if recvOk m x s then (evX T F call es env s).bind fun ds s => bmV m x ds s else .stuck
  | .lam k i, _, s => match s.get (i + 1) with
    | some (.tab j) => if j = i then .ok (.fn k) s else .stuck
    | _ => .stuck
  | .isx j b, env, s => match env[j]? with
    | some (some (.fn _)) => .ok (.bl b) s
    | _ => .stuck
  | .cap j, _, s => match T.γ with
    | some g => match g[j]? with
      | some (some d) => .ok d s
      | _ => .stuck
    | none => .stuck
  | .need e, env, s => if T.γ.isSome then evE T F call e env s else .stuck
  | .callG f es cs, env, s => (evX T F call es env s).bind fun ds s => if T.inn && T.γ.isNone then call (f + 2 * T.fns.length) (encG cs env :: ds) s else .stuck
  | .callM f es, env, s => (evX T F call es env s).bind fun ds s => if T.inn then .stuck else leave s.sz (call (f + 2 * T.fns.length) (.non :: ds) s)
  | .wget kvs i, env, s => (evE T F call i env s).bind fun x s => ofOpt (lookD kvs x) s
  | .lc own t k es cond elt, env, s => (evX T F call es env s).bind fun ds s =>
      R.unl (lockOf k ds s) ((walk (snap k ds s).1 (snap k ds s).2 (fun d acc s => match setTg t d (wipeE env own) with
        | some e => (evE T F call cond e s).bind fun x s => (boolOf x s).bind fun b s =>
            if b then (evE T F call elt e s).bind fun y s => if acc.length < line then .ok (acc ++ [y]) s else .stuck else .ok acc s
        | none => .stuck) F 0 [] (lock (lockOf k ds s) s)).noexc.bind fun acc s => .ok (.ref s.sz) (s.add (.lst acc)))
  | .lc2 own t k es t2 k2 es2 elt, env, s => (evX T F call es env s).bind fun ds s =>
      R.unl (lockOf k ds s) ((walk (snap k ds s).1 (snap k ds s).2 (fun d acc s => match setTg t d (wipeE env own) with
        | some e => (evX T F call es2 e s).bind fun ds2 s => match lockOf k2 ds2 s with
            | none => walk (snap k2 ds2 s).1 (snap k2 ds2 s).2 (fun d2 acc s => match setTg t2 d2 (wipeE e (tgN t2)) with
                | some e2 => (evE T F call elt e2 s).bind fun y s => if acc.length < line then .ok (acc ++ [y]) s else .stuck
                | none => .stuck) F 0 acc s
            | some _ => .stuck
        | none => .stuck) F 0 [] (lock (lockOf k ds s) s)).noexc.bind fun acc s => .ok (.ref s.sz) (s.add (.lst acc)))
  | .dc own t k es cond key val, env, s => (evX T F call es env s).bind fun ds s =>
      if startOk k ds s then R.unl (lockOf k ds s) ((walk (snap k ds s).1 (snap k ds s).2 (fun d (_ : Unit) s' => match setTg t d (wipeE env own) with
        | some e => (evE T F call cond e s').bind fun x s' => (boolOf x s').bind fun b s' =>
            if b then (evE T F call key e s').bind fun x s' => (evE T F call val e s').bind fun y s' => putDct s.sz x y s' else .ok () s'
        | none => .stuck) F 0 () ((lock (lockOf k ds s) s).add (.dct false []))).noexc.bind fun _ s' => .ok (.ref s.sz) s') else .stuck
def evX (T : Tbl) (F : Nat) (call : Caller) : Xs → Env → Store → R (List D)
  | .nil, _, s => .ok [] s
  | .cons st e r, env, s => (evE T F call e env s).bind fun x s =>
      if st then match starOf x s with
        | some xs => (evX T F call r env s).bind fun ys s => .ok (xs ++ ys) s
        | none => .stuck
      else (evX T F call r env s).bind fun ys s => .ok (x :: ys) s
end

/-- how a statement ends -/
inductive Fl where
  | nx (e : Env)
  | rt (d : D)
mutual
def asgI (T : Tbl) (F : Nat) (call : Caller) : As → D → Env → Store → R Env
  | .nm i, d, env, s => .ok (env.set i (some d)) s
  | .sub a i, d, env, s => (evE T F call a env s).bind fun x s => (evE T F call i env s).bind fun y s => (setItemV x y d s).bind fun _ s => .ok env s
  | .fld a n, d, env, s => (evE T F call a env s).bind fun x s => match x with
    | .ref m => match s.get m with
      | some (.ins c fs) => if fs.length < 900 then .ok env (s.set m (.ins c (putF fs n d))) else .stuck
      | _ => .stuck
    | _ => .stuck
  | .tp ts, d, env, s => match d with
    | .tup xs => if xs.length = ts.len then asgs T F call ts xs env s else .stuck
    | _ => .stuck
def asgs (T : Tbl) (F : Nat) (call : Caller) : Ats → List D → Env → Store → R Env
  | .nil, [], env, s => .ok env s
  | .cons t r, x :: xs, env, s => (asgI T F call t x env s).bind fun env s => asgs T F call r xs env s
  | .nil, _ :: _, _, _ => .stuck
  | .cons .., [], _, _ => .stuck
end
def setAll : List Nat → List D → Env → Env
  | i :: is, d :: ds, env => setAll is ds (env.set i (some d))
  | _, _, env => env
def loop (c : Env → Store → R Bool) (b : Env → Store → R Fl) : Nat → Env → Store → R Fl
  | 0, _, _ => .stuck
  | n + 1, env, s => (c env s).bind fun k s => if k then (b env s).bind fun f s => match f with
      | .nx env => loop c b n env s
      | .rt d => .ok (.rt d) s
    else .ok (.nx env) s
def turns (k : Itk) (ds : List D) (f : D → Env → Store → R Fl) : Nat → Nat → Env → Store → R Fl
  | 0, _, _, _ => .stuck
  | n + 1, i, env, s => match itAt k ds i s with
    | .bad => .stuck
    | .stop => .ok (.nx env) s
    | .item d => (f d env s).bind fun fl s => match fl with
      | .nx env => turns k ds f n (i + 1) env s
      | .rt d => .ok (.rt d) s
def hdV (h : Hd) (x : D) (env : Env) (s : Store) : R Fl := match h with
  | .ret d => .ok (.rt d) s
  | .some? i => match env[i]? with
    | some (some d) => match isV d .non with
      | some b => .ok (.rt (.bl !b)) s
      | none => .stuck
    | _ => .stuck
  | .row j => match x with
    | .int i => if j < env.length then .ok (.rt (.int i)) s else .stuck
    | _ => .stuck
def hdsV (hs : List (List Nat × Hd)) (c : Nat) (x : D) (env : Env) (s : Store) : R Fl := match hs with
  | [] => .exc c x s
  | p :: r => if p.1.contains c then hdV p.2 x env s else hdsV r c x env s
mutual
def exS (T : Tbl) (F : Nat) (call : Caller) : St → Env → Store → R Fl
  | .ex e, env, s => (evE T F call e env s).bind fun _ s => .ok (.nx env) s
  | .asg t e, env, s => (evE T F call e env s).bind fun d s => (asgI T F call t d env s).bind fun env s => .ok (.nx env) s
  | .par is es, env, s => (evX T F call es env s).bind fun ds s => if ds.length = is.length then .ok (.nx (setAll is ds env)) s else .stuck
  | .aug i e, env, s => match env[i]? with
    | some (some x) => (evE T F call e env s).bind fun y s => match x, y with
      | .int a, .int b => .ok (.nx (env.set i (some (.int (a + b))))) s
      | _, _ => .stuck
    | _ => .stuck
  | .ite c a b, env, s => (evE T F call c env s).bind fun x s => (boolOf x s).bind fun k s => if k then exSs T F call a env s else exSs T F call b env s
  | .whl c b, env, s => loop (fun env s => (evE T F call c env s).bind fun x s => boolOf x s) (fun env s => exSs T F call b env s) F env s
  | .for t k es b, env, s => (evX T F call es env s).bind fun ds s =>
      R.unl (lockOf k ds s) (turns (snap k ds s).1 (snap k ds s).2 (fun d env s => match setTg t d env with
        | some e => exSs T F call b e s
        | none => .stuck) F 0 env (lock (lockOf k ds s) s))
  | .ret e, env, s => (evE T F call e env s).bind fun d s => .ok (.rt d) s
  | .bad, _, _ => .stuck
  | .rse c, _, s => .exc c .non s
  | .rseV c e, env, s => (evE T F call e env s).bind fun d s => match d with
    | .non => .stuck
    | d => .exc c d s
  | .word v i hs, env, s => match env[v]?, env[i]? with
    | some (some (.fn k)), some (some d) => match call k [d] s with
      | .ok _ s => .ok (.nx env) s
      | .exc c x s => match x with
        | .non => (match hs.lookup c with
          | some w => .ok (.rt (.str w)) s
          | none => .stuck)
        | _ => .stuck
      | .stuck => .stuck
    | _, _ => .stuck
  | .tryC t f es hs, env, s => match (evX T F call es env s).noexc with
    | .ok ds s => match call f ds s with
      | .ok d s => match t with
        | .set i => .ok (.nx (env.set i (some d))) s
        | .ret => .ok (.rt d) s
        | .drop => .ok (.nx env) s
      | .exc c x s => hdsV hs c x env s
      | .stuck => .stuck
    | .exc _ _ _ => .stuck
    | .stuck => .stuck
def exSs (T : Tbl) (F : Nat) (call : Caller) : Ss → Env → Store → R Fl
  | .nil, env, s => .ok (.nx env) s
  | .cons st r, env, s => (exS T F call st env s).bind fun f s => match f with
    | .nx env => exSs T F call r env s
    | .rt d => .ok (.rt d) s
end

def entry (nn : Nat) (as : List D) : Env := as.map some ++ List.replicate (nn - as.length) none
/-- a call, to a depth -/
def callI (T : Tbl) (F : Nat) : Nat → Caller
  | 0, _, _, _ => .stuck
  | n + 1, f, as, s => match T.fns[f]? with
    | some fn => if as.length = fn.np then (exSs T F (callI T F n) fn.body (entry fn.nn as) s).bind fun fl s => match fl with
        | .nx _ => .ok .non s
        | .rt d => .ok d s
      else .stuck
    | none => if f < 2 * T.fns.length then callI T F n (f - T.fns.length) as s else match as with
      | g :: as => callI ⟨T.fns, T.cls, true, decG g⟩ F n (f - 2 * T.fns.length) as s
      | [] => .stuck
end VI
/-! VIxi: an own exception over ValueError whose __init__(self, r) says super().__init__(r); self.r = r. -/
namespace VI
open PySem PySem.Spec PyProof.Rows L2 PySem.W
/-- what is known of such a class: D is the class, f its __init__, cc the cell of its class -/
structure XiOk (P : Program) (K : PySem.W.Frag) (D f cc : Addr) (qual sn rn : Str) (scope : Scope) (cdv : Value) : Prop where
  oex : OexC K D
  cell : ∃ cl cld csl, K.lookup cc = some ⟨cl, cld, .cell (some (.ref D)), csl⟩
  code : PySem.W.codeIn K cdv qual = true
  file : ∃ cda ccl cdd vs ccs file tf, cdv = .ref cda ∧ K.lookup cda = some ⟨ccl, cdd, .fields vs, ccs⟩ ∧ vs[2]? = some (.str file tf) ∧ ((P.main.file : Str) == file) = true
  cls : (clsIn K D).isSome = true
  sub : mroIn K D (.ref D) = some true
  sup : ks_superIn K D D "__init__" = some (some (.builtin "ValueError.__init__"))
  opq : nsIn K cStatics "thirdparty.any" = some none
  ve : subIn K (.ref D) (.type "ValueError") = some true
  top : (P.main.scope.names.lookup ("super" : Str)).isSome = false
  no : PySem.W.findIn K (.ref D) rn = some none
  kind : scope.kind = .function
  co : scope.isCoroutine = false
  gen : scope.isGenerator = false
  ncell : ∀ x ∈ scope.names, x.2 ≠ .cell
  nfree : ∀ x ∈ scope.names, x.2 = .free → x.1 = ("__class__" : Str)
  ks : scope.names.lookup ("super" : Str) = some .globalImplicit
  kc : scope.names.lookup ("__class__" : Str) = some .free
  kn : scope.names.lookup sn = some .local
  kr : scope.names.lookup rn = some .local
  ne : sn ≠ rn
  dn : (sn == ("__debug__" : Str)) = false
  dr : (rn == ("__debug__" : Str)) = false
/-- the body -/
abbrev xiBody (sn rn : Str) (p0 p1 p2 p3 p4 p5 q0 q1 q2 q3 : Pos) : List Stmt := [.Expr (.Call (.Attribute (.Call (.Name "super" p0) [] [] p1) "__init__" p2) [.Name rn p3] [] p4) p5, .Assign [.Attribute (.Name sn q0) rn q1] (.Name rn q2) q3]
section
variable {prog : Program} {w : World} {A : Around} {E : Value → Shared → Prop} {h : Heap} {g : Array GenState} {d : Drawn} {t : Nat} {os : OsState}
variable {nm q : Str} {C N : Addr} {bs bm : List Value} {hdct : Bool} {sn : List Str} {sub : List Value} {ab : Bool} {col : Option Bool} {dd : Option Addr} {k0 k1 k2 k3 k5 : Option Value}
/-- ValueError's __init__, bound -/
theorem call_mw {u e t0 : Addr} {rest : List Value} {Q : Value → Shared → Prop}
    (hC : h.get? C = some (excClassObj nm q C N bs bm hdct sn sub ab col dd k0 k1 k2 k3 k5 "ValueError.__new__")) (he : h.get? e = some (HandSPX.excO C t0)) (hu : h.get? u = some (kxs_mw "ValueError.__init__" e)) (hrest : rest.length ≤ sizeLine)
    (hq : ∀ h' t1, (∀ b o, b ≠ e → h.get? b = some o → h'.get? b = some o) → h'.get? e = some (HandSPX.excO C t1) → Q .none ⟨h', g, d, t, os⟩) :
    wpAny (model prog w) A (call (.ref u) rest) Q E ⟨h, g, d, t, os⟩ := by
  refine wpAny_call (codeAny_of_tree ?_)
  show wpAny (model prog w) A.in1 (callAny (.ref u) ⟨rest, []⟩) _ _ _
  simp only [callAny]
  refine wpAny_bind (wpAny_load hu ?_)
  simp only [kxs_mw, show (Value.type "method-wrapper" == Value.type "method" || Value.type "method-wrapper" == Value.type "builtin_function_or_method" || Value.type "method-wrapper" == Value.type "method-wrapper") = true by decide, if_true]
  refine KFB.if_so (by decide) (wpAny_bind (check_bound_init PySem.F.excBase_ValueError.toExcCallFacts hC he rfl (wpAny_bind (wpAny_pure (wpAny_pure ?_)))))
  refine ⟨plainId_quiet PySem.F.excBase_ValueError.init.plain _, codeAny_builtin PySem.F.excBase_ValueError.initEntry (exc_init_tree (cls := .ref C) (t0 := t0) (dv := none) (c2 := .none) (c3 := .none) (b4 := .bool false) he hrest fun h' k e' _ => hq h' _ k e')⟩
end
section
variable {P : Program} {w : World} {K : PySem.W.Frag} {mg : Str → Option Value} {base : Heap}
/-- its promise -/
def spXi (K : PySem.W.Frag) (D : Addr) (rn : Str) : Sp := fun vs H Q _ => ∃ a y, vs = [.ref a, y] ∧ H a = some (exo a D none) ∧ ∀ dx, H dx = none → dx ≠ a → Q .non (upd (upd H dx (exd dx [(rn, y)])) a (exo a D (some dx)))
abbrev xiEnv (qual : Str) (scope : Scope) (L f : Addr) (cdv : Value) (cc : Addr) : PySem.Env := ksEnv qual scope L f cdv cc
def xiCx (P : Program) (w : World) (K : PySem.W.Frag) (mg : Str → Option Value) (base : Heap) (sn rn qual : Str) (scope : Scope) (f : Addr) (cdv : Value) (cc : Addr) (A : Around) (outer : List PySem.Env) (s : Shared) (H : Hp) : Cx where
  prog := P
  w := w
  K := K
  mg := mg
  base := base
  A := A.deeper (xiEnv qual scope s.heap.objs.size f cdv cc)
  N := [sn, rn]
  s_0 := s
  H_0 := H
  env := xiEnv qual scope s.heap.objs.size f cdv cc
  outer := outer
  stack := xiEnv qual scope s.heap.objs.size f cdv cc :: outer
  ex := []
  calm := true
  fn := fun _ => false
  pn := []
  xe := fun _ _ => False
theorem cc_only {c cc : Addr} {x : Str} (h : ([("__class__", cc)] : List (Str × Addr)).lookup x = some c) : x = ("__class__" : Str) ∧ c = cc := by
  simp only [List.lookup] at h
  split at h
  · rename_i q
    exact ⟨beq_iff_eq.mp q, (Option.some.inj h).symm⟩
  · cases h
/-- the frame stands -/
theorem xi_start {D f cc : Addr} {qual sn rn : Str} {scope : Scope} {cdv : Value} {A : Around} {outer : List PySem.Env} {s : Shared} {H : Hp} {h₁ : Heap} {tk : Nat} {a u1 : Value} {v y : V} (Z : XiOk P K D f cc qual sn rn scope cdv)
    (e0 : Env0 P w K mg base A outer s H) (hd : A.handled = none) (hns : h₁.Ns s.heap.objs.size fun x => ([(sn, a), (rn, u1)] : List (Str × Value)).reverse.lookup x) (kp : ∀ b o, s.heap.get? b = some o → h₁.get? b = some o) (rv : RelV v a) (ry : RelV y u1) :
    Inv (xiCx P w K mg base sn rn qual scope f cdv cc A outer s H) [] [some v, some y] H { s with heap := h₁, toks := tk } := by
  obtain ⟨cl, cld, csl, hcc⟩ := Z.cell
  have hb := e0.bs _ _ (e0.mod.kin _ _ hcc)
  have noA : ∀ b : Addr, b ∉ (xiCx P w K mg base sn rn qual scope f cdv cc A outer s H).ex := fun b z => absurd (show b ∈ ([] : List Addr) from z) (by simp)
  have hwo : ∀ x, (scope.names.lookup x = some .cell ∨ scope.names.lookup x = some .free) → x = ("__class__" : Str) := fun x hx => by
    rcases hx with hx | hx
    · exact absurd rfl (Z.ncell _ (PySem.mem_of_lookup hx))
    · exact Z.nfree _ (PySem.mem_of_lookup hx) rfl
  refine ⟨⟨e0.mod, Z.kind, rfl, rfl, Nat.le_refl _, fun x z c h1 h2 => (cc_only h1).1.trans (cc_only h2).1.symm, fun x hx => ?_, fun x c z _ => (nomatch (show false = true from z)), fun _ => hd, Around.frames_deeper e0.frames, .inr ⟨rfl, rfl⟩, fun b z => absurd z (noA b), e0.bs, e0.bsz, fun b _ _ => noA b, fun b z => absurd z (noA b), e0.funs, e0.frf⟩,
    rfl, e0.bare, Un.kept kp, ⟨_, hns, fun i x z e1 e2 e3 => ?_⟩, fun x c h => ?_, e0.hok.fresh (Nat.le_refl _), fun x c h => ?_, fun p hp => absurd (show p ∈ ([] : List (Addr × Obj)) from hp) (by simp), e0.hok.kept kp, rfl⟩
  · have e := hwo x hx
    subst e
    exact ⟨cc, rfl⟩
  · match i, e1, e2 with
    | 0, e1, e2 =>
      cases e1
      cases e2
      refine ⟨a, rv, .inl ⟨Z.kn, ?_⟩⟩
      have : (sn == rn) = false := beq_eq_false_iff_ne.mpr Z.ne
      simp [List.lookup, this]
    | 1, e1, e2 =>
      cases e1
      cases e2
      exact ⟨u1, ry, .inl ⟨Z.kr, by simp [List.lookup]⟩⟩
    | n + 2, e1, e2 => simp at e2
  · have e := (cc_only h).2
    subst e
    exact ⟨_, _, kp _ _ hb.1, rfl⟩
  · have e := (cc_only h).2
    subst e
    exact hb.2
theorem he_of (env : PySem.Env) (rn : Str) (p0 p1 p2 p3 p4 : Pos) (h : (p2.endLine == p4.line) = true) : eval (.Call (.Attribute (.Call (.Name "super" p0) [] [] p1) "__init__" p2) [.Name rn p3] [] p4) env = (do
      let ov ← attributeBase (.Call (.Name "super" p0) [] [] p1) "__init__" env (eval (.Call (.Name "super" p0) [] [] p1) env)
      standAt p2.atName
      let (f, first) ← holding [ov] (getMethod ov "__init__" (do return (← importBound (.Call (.Name "super" p0) [] [] p1) env).getD true))
      callWith p4 f first (backTo p4 (starEach [.Name rn p3] env)) []) := by
  have e : methodCallPos true (.Call (.Name "super" p0) [] [] p1) env p2 p4 = pure p4 := by
    unfold methodCallPos
    simp [h]
  show (attributeBase (.Call (.Name "super" p0) [] [] p1) "__init__" env (eval (.Call (.Name "super" p0) [] [] p1) env) >>= fun ov => standAt p2.atName >>= fun _ => methodCall (.Call (.Name "super" p0) [] [] p1) "__init__" p2 p4 env ov 1 (backTo p4 (starEach [.Name rn p3] env)) []) = _
  congr 1
  funext ov
  congr 1
  funext _
  unfold methodCall
  show (holding [ov] (calleeOf true _ env ov "__init__") >>= fun x => methodCallPos true _ env p2 p4 >>= fun cp => callWith cp x.1 x.2 (backTo p4 (starEach [.Name rn p3] env)) []) = _
  rw [e]
  rfl
theorem xi_ok {D f cc : Addr} {name qual sn rn : Str} {params : Arguments} {scope : Scope} {dV kV doc pm cdv ct oc : Value} {an od : Option Addr} {osl : Array (Option Value)} {k : Nat} {p0 p1 p2 p3 p4 p5 q0 q1 q2 q3 : Pos} {ar : Arg} (Z : XiOk P K D f cc qual sn rn scope cdv) (hsup : mg "super" = none)
    (lk : K.lookup f = some ⟨oc, od, .func (ksFn name qual params (xiBody sn rn p0 p1 p2 p3 p4 p5 q0 q1 q2 q3) scope dV kV doc pm an cdv ct cc), osl⟩) (hp : (params.posonlyargs ++ params.args).head? = some ar) (har : ar.arg = sn) (hpl : (p2.endLine == p4.line) = true) (har2 : (rn == ("__classdict__" : Str)) = false) (hsn2 : (sn == ("__classdict__" : Str)) = false) :
    FnOk P w K mg base (L2.CX P w) k f (ksFn name qual params (xiBody sn rn p0 p1 p2 p3 p4 p5 q0 q1 q2 q3) scope dV kV doc pm an cdv ct cc) [sn, rn] (spXi K D rn) := by
  refine ⟨fun vs H Q E ⟨a, y, e, _⟩ => by rw [e]; rfl, fun A outer s H args us vs Q E hr e0 hb r ⟨a, y, ev, ea, hq⟩ => ?_⟩
  subst ev
  cases r with
  | @cons _ ua _ _ ra r =>
  cases r with
  | @cons _ u1 _ _ ry r =>
  cases r
  obtain rfl : ua = Value.ref a := ra
  have KX : K.In s.heap := e0.mod.kin.keeps fun b o e => (e0.bs b o e).1
  have lim : s.heap.NoLimit := e0.mod.nolimit.keeps fun b o e => (e0.bs b o e).1
  have hloc : ∀ x ∈ ([sn, rn] : List Str).zip [Value.ref a, u1], scope.names.lookup x.1 = some .local := fun x hx => by
    rcases List.mem_cons.mp hx with rfl | hx
    · exact Z.kn
    · rw [List.mem_singleton.mp hx]; exact Z.kr
  refine ks_codeAny_call_defAt (fd := ksFn name qual params _ scope dV kV doc pm an cdv ct cc) hr.depth (KX _ _ lk) rfl lim (PySem.W.codeRec_of KX Z.code) rfl hb Z.ncell hloc (fun h₁ hns kp => ?_) Z.co Z.gen Z.kind
  have I0 := xi_start (w := w) (mg := mg) (f := f) (tk := s.toks + (([sn, rn] : List Str).zip [Value.ref a, u1]).length) Z e0 hr.hd hns kp (show RelV (.ref a) (.ref a) from rfl) ry
  have I1 := I0
  obtain ⟨cl, cld, csl, hcc⟩ := Z.cell
  obtain ⟨cda, ccl, cdd, fvs, ccs, file, tf, ecd, hcode, hvs, hfile⟩ := Z.file
  subst ecd
  have XI : K.In h₁ := KX.keeps kp
  obtain ⟨cdD, hcl⟩ := Option.isSome_iff_exists.mp Z.cls
  obtain ⟨oD, hD1, hD2⟩ : ∃ oD, h₁.get? D = some oD ∧ oD.data = .cls cdD := by
    unfold clsIn at hcl
    split at hcl
    · rename_i c d cd' sl ho
      cases hcl
      exact ⟨_, XI _ _ ho, rfl⟩
    · cases hcl
  obtain ⟨t0, ha0⟩ := exo_at e0.hok ea
  have ha1 := kp _ _ ha0
  obtain ⟨mb, hb1, hb2⟩ := e0.mod.blt
  have kb : ∀ b o, base.get? b = some o → h₁.get? b = some o := fun b o e => kp b o (e0.bs b o e).1
  refine ks_wpAt_execs_cons (ks_wpAt_Expr_any (hi := I0.quiet) (ks_wpAt_MethodCall (he := he_of _ rn p0 p1 p2 p3 p4 hpl) ?_))
  refine ks_wpAt_super_base (env := xiEnv qual scope s.heap.objs.size f (.ref cda) cc) (ar := ar) Z.ks Z.kc (by decide) rfl (XI _ _ lk) rfl hp rfl (XI _ _ hcode) rfl hvs hfile Z.top ?_
  refine ks_loadName_global Z.kind Z.ks (Calls.loadGlobal_builtin (env := xiEnv qual scope s.heap.objs.size f (.ref cda) cc) (e0.mod.glob.keeps kb) hsup (hb1.keeps kb) ((hb2 "super" (by decide)).trans (by decide +kernel)) ⟨rfl, ?_⟩)
  refine wpAny_loadName_free Z.kind Z.kc rfl ⟨_, XI _ _ hcc, rfl⟩ ?_
  have hsr : (sn == rn) = false := beq_eq_false_iff_ne.mpr Z.ne
  rw [har]
  refine wpAny_loadName_local Z.kind Z.kn hns (v := .ref a) (by simp [List.lookup, hsr]) ?_
  refine ks_wpAny_isType_cls hD1 hD2 ⟨rfl, ?_⟩
  refine ks_wpAny_call_super hD1 hD2 ha1 rfl (fun c e => by cases e) (looks_mroIn XI Z.sub) (fun h2 hso k2 => ?_)
  have XI2 : K.In h2 := XI.keeps k2
  have ha2 := k2 _ _ ha1
  have J2 : InstAt h2 a _ D none := ⟨ha2, rfl, rfl, trivial⟩
  have hsup2 := Z.sup
  unfold ks_superIn at hsup2
  rw [hcl] at hsup2
  have hI : Looks (model P w) h2 (isInstance (.ref a) (.type "ValueError")) true := J2.type.andThen (looks_subIn XI2 Z.ve)
  refine kxs_getMethod kxs_ValueError hso (looks_opaque XI2 Z.opq) (l₀ := cdD.mro) (fun A Q E s k q => wpAny_bind ((looks_clsIn XI2 hcl) A _ E s k (wpAny_pure q))) rfl XI2 hsup2 hI (ks_ne XI2 J2 hcl) (by decide) ?_
  have k3 : ∀ b o, h2.get? b = some o → (h2.push (kxs_mw "ValueError.__init__" a)).get? b = some o := fun b o e => Heap.get?_push_of_some _ e
  have k03 : ∀ b o, h₁.get? b = some o → (h2.push (kxs_mw "ValueError.__init__" a)).get? b = some o := fun b o e => k3 b o (k2 b o e)
  have hmw : (h2.push (kxs_mw "ValueError.__init__" a)).get? h2.objs.size = some (kxs_mw "ValueError.__init__" a) := Heap.get?_push_at rfl rfl
  refine kxs_callWith (i := "ValueError.__init__") (x := a) rfl (Calls.evalArgs_plain (Calls.spliced_cons (wpAny_Name (wpAny_loadName_local Z.kind Z.kr (hns.keeps k03) (v := u1) (by simp [List.lookup]) (Calls.spliced_nil ⟨hmw, ?_⟩)) Z.dr)))
  obtain ⟨nm, q, N, bs, bm, sns, sub, ab, col, dd, k0, k1, k2', k3', k5, hC, hbm⟩ := Z.oex.cls
  refine call_mw ((XI2.keeps k3) _ _ hC) (k3 _ _ ha2) hmw (by show 1 ≤ sizeLine; decide) fun h4 t4 k4 he4 => ?_
  have I2 := (I0.kept (t' := s.toks + (([sn, rn] : List Str).zip [Value.ref a, u1]).length + 1) k03).write (t' := s.toks + (([sn, rn] : List Str).zip [Value.ref a, u1]).length + 1) (x := a) (e := a) (o := exo a D none) (h' := h4) (by rw [ea]; exact True.intro) (.inl rfl) k4 ⟨_, he4⟩ (exo_ok he4)
  have eu : upd H a (exo a D none) = H := by
    funext b
    by_cases hb : b = a
    · rw [hb, upd_same, ea]
    · rw [upd_ne hb]
  rw [eu] at I2
  have hps : PSs (xiCx P w K mg base sn rn qual scope f (.ref cda) cc A outer s H) [.Assign [.Attribute (.Name sn q0) rn q1] (.Name rn q2) q3] (tOst K rn (tVar 0) (tVar 1)) :=
    pss_one (ps_ost (X := xiCx P w K mg base sn rn qual scope f (.ref cda) cc A outer s H) (pe_var (i := 0) rfl (.inl Z.kn) Z.dn hsn2) (pe_var (i := 1) rfl (.inl Z.kr) Z.dr har2) (by rfl))
  refine wpAt_of_wpAny (wpAny_mono (hps.run [] _ _ H { nx := fun _ H' => Q .non H', rt := Q } I2 ⟨y, rfl, .ref a, rfl, a, D, rfl, Z.oex, Z.no, .inl ⟨ea, fun dx h1 h2 => hq dx h1 h2⟩⟩) (fun fl s' hs => ?_) fun e s' z => z.elim)
  cases fl with
  | next =>
    obtain ⟨σ', H', J, q⟩ := hs
    exact ⟨.non, H', J.os, J.bare, J.base, J.hok, rfl, q⟩
  | ret u =>
    obtain ⟨v, σ', H', J, rv, q⟩ := hs
    exact ⟨v, H', J.os, J.bare, J.base, J.hok, rv, q⟩
  | brk =>
    obtain ⟨_, _, _, q⟩ := hs
    exact False.elim q
  | cont =>
    obtain ⟨_, _, _, q⟩ := hs
    exact False.elim q
end
end VI
/-! VIaa: what a text is; what is asked of its head. No proofs. -/
namespace VI
open PySem PySem.Spec PyProof.Rows L2
def toS (x : List Nat) : Str := ⟨x.toArray⟩
def tyNames : List String := ["NoneType", "bool", "int", "str", "tuple", "list", "dict"]
def tyIs (ty : Ty) (k : Nat) : Bool := match ty with
  | .str => k == 3
  | .tuple => k == 4
  | .int => k == 1 || k == 2
  | .bool => k == 1
  | .dict => k == 6
  | .list => k == 5
  | .cls _ => false
def tyIsC (ty : Ty) (c : Nat) : Bool := match ty with
  | .cls c' => c' == c
  | _ => false
def tyOfName : List (Str × String × Ty) := [("str", "str", .str), ("tuple", "tuple", .tuple), ("int", "int", .int), ("bool", "bool", .bool), ("dict", "dict", .dict), ("list", "list", .list)]
/-- a def of the text: its name, where it stands, its slots, its parameters, what lacks may be filled up with -/
structure Df where
  x : Str
  at_ : Str × Option Str
  name : Str
  qual : Str
  N : List Str
  ps : List Str
  kw : List (Str × D)
  st : Stmt
/-- a class: its name, its __init__, its methods -/
structure ClD where
  x : Str
  init : Nat
  ms : List (Str × Nat)
  /-- its properties -/
  gs : List (Str × Nat) := []
/-- a text: its defs, what the module's names are, its classes, the names of fields and methods, which built-in names it leaves alone -/
structure Tx where
  ds : List Df
  cs : List (Str × D)
  dcs : List (Str × List (D × D))
  cl : List ClD
  fs : List Str
  mn : List Str
  fr : List Str
  /-- the defs that make lambdas: where they stand, what they are called -/
  lm : List ((Str × Option Str) × Str) := []
  /-- classes of exceptions, and which of these are caught by each -/
  ex : List (Str × List Nat) := []
  /-- the defs that are properties' getters -/
  gt : List (Str × Option Str) := []
  /-- exceptions with an own __init__, the text's file -/
  xi : List (Str × Df) := []
  file : Str := ""
  /-- the defs whose lambdas are values -/
  lf : List Nat := []
  /-- isinstance is asked of caught errors -/
  cw : Bool := false
  /-- names that are captured; the defs whose names are captured, with these -/
  gn : List Str := []
  mks : List (Nat × List Str) := []
/-- the captured names of a def -/
def mkOf (t : Tx) (i : Nat) : List Str := (t.mks.lookup i).getD []
mutual
/-- a constant as it stands in the written part -/
def conV (K : PySem.W.Frag) : Nat → D → Value → Bool
  | _, .non, .none => true
  | _, .bl b, .bool c => b == c
  | _, .int i, .int j _ => decide (i = j)
  | _, .str x, .str y _ => decide (toS x = y)
  | n + 1, .tup xs, .ref a => (match K.lookup a with
    | some o => (match o.cls, o.data with
      | .type c, .seq its _ => decide (c = "tuple") && decide (its.size ≤ 1000) && conVs K n xs its.toList
      | _, _ => false)
    | none => false)
  | _, _, _ => false
def conVs (K : PySem.W.Frag) : Nat → List D → List Value → Bool
  | _, [], [] => true
  | n, x :: xs, v :: vs => conV K n x v && conVs K n xs vs
  | _, _, _ => false
end

/-- a list of ints -/
def intList (o : Obj) : Bool := decide (o.cls = .type "list") && (match o.data with
  | .seq its _ => its.all fun v => match v with | .int _ _ => true | _ => false
  | _ => false)
def noInts (K : PySem.W.Frag) : Bool := K.all fun p => !intList p.2
/-- what else is asked of the written part -/
def clsB (K : PySem.W.Frag) (C : Addr) : Bool := He.eqO (PySem.W.findIn K (.ref C) "__class__") (some (some (.builtin "object.__class__"))) && He.eqO (PySem.W.specialIn K (.builtin "object.__class__") "__get__") (some (some (.builtin "getset_descriptor.__get__"))) &&
  decide (PySem.W.takesIn K (.builtin "object.__class__") = some true) && decide (PySem.W.mroIn K C (.type "object") = some true)
def kitB (t : Tx) (K : PySem.W.Frag) (ty : Ty) (u : Value) : Bool := ((List.range 7).all fun k => match tyNames[k]? with
    | some n => decide (PySem.W.kitOne K (.type n) u = some (tyIs ty k))
    | none => false) && (List.range t.cl.length).all fun c => match t.cl[c]? with
    | some cd => decide (PySem.W.kitOne K (.ref (He.ga K cd.x)) u = some (tyIsC ty c))
    | none => false
def dicB (K : PySem.W.Frag) (x : Str) (kvs : List (D × D)) : Bool := kvs.all fun p => match p.1 with
  | .str z => (match PySem.W.nsIn K (He.ga K x) (toS z) with
    | some (some u) => conV K 8 p.2 u
    | _ => false)
  | _ => false
/-- what is asked of a class with an own __eq__ -/
def eqB (t : Tx) (K : PySem.W.Frag) (c : ClD) : Bool := match c.ms.lookup ("__eq__" : Str) with
  | some _ => He.eqO (PySem.W.findIn K (.ref (He.ga K c.x)) "__ne__") (some (some (.builtin "object.__ne__"))) && t.cl.all fun c' => PySem.W.notFirst K (He.ga K c.x) (.ref (He.ga K c'.x))
  | none => true
/-- a property's getter -/
def gtA (K : PySem.W.Frag) (p : Str × Option Str) : Addr := match p.2 with
  | some f => (match PySem.W.findIn K (.ref (He.ga K p.1)) f with
    | some (some (.ref q)) => (match PySem.W.recIn K q "property" with
      | some (.ref g :: _) => g
      | _ => 0)
    | _ => 0)
  | none => 0
/-- where a def stands -/
def adr (t : Tx) (K : PySem.W.Frag) (p : Str × Option Str) : Addr := if t.gt.contains p then gtA K p else He.fAd K p
theorem adr_no {t : Tx} {K : PySem.W.Frag} {p : Str × Option Str} (h : t.gt.contains p = false) : adr t K p = He.fAd K p := by
  unfold adr
  rw [h]; rfl
theorem adr_yes {t : Tx} {K : PySem.W.Frag} {p : Str × Option Str} (h : t.gt.contains p = true) : adr t K p = gtA K p := by
  unfold adr
  rw [h]; rfl
def propB (K : PySem.W.Frag) (c f : Str) : Bool := match PySem.W.findIn K (.ref (He.ga K c)) f with
  | some (some (.ref p)) => He.eqO (PySem.W.specialIn K (.ref p) "__get__") (some (some (.builtin "property.__get__"))) && (decide (PySem.W.takesIn K (.ref p) = some true) && (match PySem.W.recIn K p "property" with
    | some (.ref _ :: _) => true
    | _ => false))
  | _ => false
def exB0 (t : Tx) (K : PySem.W.Frag) : Bool := noInts K && (t.cs.all fun p => match PySem.W.nsIn K mainGlobals p.1 with
  | some (some u) => conV K 8 p.2 u
  | _ => false) && (tyOfName.all fun p => kitB t K p.2.2 (.type p.2.1)) && (t.cl.all fun c => clsB K (He.ga K c.x)) && ((List.range t.cl.length).all fun c => match t.cl[c]? with
    | some cd => kitB t K (.cls c) (.ref (He.ga K cd.x))
    | none => false) && (t.dcs.all fun p => dicB K p.1 p.2) && ((t.cl.all (eqB t K) && t.cl.all fun c => c.gs.all fun q => propB K c.x q.1) && decide ((t.lm.map fun p => (He.cT K p.1).2).Nodup))
/-- what is asked of errors' classes -/
def excCB (K : PySem.W.Frag) (D : Addr) : Bool := He.eqO (PySem.W.findIn K (.ref D) "__getattribute__") (some (some (.builtin "BaseException.__getattribute__"))) && (He.eqO (PySem.W.findIn K (.ref D) "__getattr__") (some none) && (decide (PySem.W.subIn K (.ref D) (.type "BaseException") = some true) && (PySem.W.hasDictIn K D &&
  (He.eqO (PySem.W.findIn K (.ref D) "__class__") (some (some (.builtin "object.__class__"))) && (He.eqO (PySem.W.specialIn K (.builtin "object.__class__") "__get__") (some (some (.builtin "getset_descriptor.__get__"))) && (decide (PySem.W.takesIn K (.builtin "object.__class__") = some true) && decide (PySem.W.mroIn K D (.type "object") = some true)))))))
def xkB (t : Tx) (K : PySem.W.Frag) : Bool := (t.fr.contains ("isinstance" : Str) && t.fr.contains ("ValueError" : Str)) && t.ex.zipIdx.all fun q => excCB K (He.ga K q.1.1) && (decide (PySem.W.kitOne K (.ref (He.ga K q.1.1)) (.type "ValueError") = some true) && t.ex.all fun p => decide (PySem.W.kitOne K (.ref (He.ga K q.1.1)) (.ref (He.ga K p.1)) = some (p.2.contains q.2)))
def exB (t : Tx) (K : PySem.W.Frag) : Bool := exB0 t K && (!t.cw || xkB t K)
/-- .. and those exceptions' __init__ -/
def xiF (K : PySem.W.Frag) (x : Str) : Addr := match PySem.W.findIn K (.ref (He.ga K x)) "__init__" with
  | some (some (.ref f)) => f
  | _ => 0
def oexB (K : PySem.W.Frag) (C : Addr) : Bool := (match K.lookup C with
  | some ⟨.type "type", _, .cls cd, sl⟩ => (match cd.mro, sl.toList with
    | .ref C' :: bm, [_, _, _, _, some (.builtin n), _] => C' == C && n == "ValueError.__new__" && !cd.hasDel && cd.hasDict && PySem.HandSPX.refsVE bm
    | _, _ => false)
  | _ => false) && (He.eqO (PySem.W.findIn K (.ref C) "__setattr__") (some (some (.builtin "object.__setattr__"))) && (decide (PySem.W.subIn K (.ref C) (.type "BaseException") = some true) && (decide (PySem.W.typeIn K (.ref C) = some (.type "type")) && PySem.W.keepIn K (.ref C))))
def xiB (file : Str) (K : PySem.W.Frag) (p : Str × Df) : Bool := (He.eqO (PySem.W.findIn K (.ref (He.ga K p.1)) "__init__") (some (some (.ref (xiF K p.1)))) && decide (PySem.W.typeIn K (.ref (xiF K p.1)) = some (.type "function"))) && ((match K.lookup (xiF K p.1) with
  | some ⟨_, _, .func fd, _⟩ => ((match fd.defaults with | .none => true | _ => false) && PySem.W.codeIn K fd.code p.2.qual) && ((match fd.code with
      | .ref cda => (match K.lookup cda with
        | some ⟨_, _, .fields vs, _⟩ => (match (vs[2]? : Option Value) with
          | some (.str z _) => file == z
          | _ => false)
        | _ => false)
      | _ => false) && (match fd.closure with
      | [(n, cc)] => decide (n = "__class__") && (match K.lookup cc with
        | some ⟨_, _, .cell (some (.ref D)), _⟩ => D == He.ga K p.1
        | _ => false)
      | _ => false))
  | _ => false) && ((oexB K (He.ga K p.1) && (PySem.W.clsIn K (He.ga K p.1)).isSome) && ((decide (PySem.W.mroIn K (He.ga K p.1) (.ref (He.ga K p.1)) = some true) && He.eqO (PySem.W.ks_superIn K (He.ga K p.1) (He.ga K p.1) "__init__") (some (some (.builtin "ValueError.__init__")))) &&
    ((He.eqO (PySem.W.nsIn K cStatics "thirdparty.any") (some none) && decide (PySem.W.subIn K (.ref (He.ga K p.1)) (.type "ValueError") = some true)) && He.eqO (PySem.W.findIn K (.ref (He.ga K p.1)) "row") (some none)))))
/-- .. errors' rows may be read -/
def xfAll (t : Tx) (K : PySem.W.Frag) : Bool := t.ex.all fun p => L2.xfB K (He.ga K p.1) && He.eqO (PySem.W.findIn K (.ref (He.ga K p.1)) "row") (some none)
/-- what is written in such an __init__(self, row) -/
structure XiS (d : Df) (sn : Str) : Prop where
  body : ∃ p0 p1 p2 p3 p4 p5 q0 q1 q2 q3 : Pos, defBody d.st = xiBody sn "row" p0 p1 p2 p3 p4 p5 q0 q1 q2 q3 ∧ (p2.endLine == p4.line) = true
  arg : ∃ ar, ((defArgs d.st).posonlyargs ++ (defArgs d.st).args).head? = some ar ∧ ar.arg = sn
  kind : (defScope d.st).kind = .function
  co : (defScope d.st).isCoroutine = false
  gen : (defScope d.st).isGenerator = false
  ncell : ∀ x ∈ (defScope d.st).names, x.2 ≠ .cell
  nfree : ∀ x ∈ (defScope d.st).names, x.2 = .free → x.1 = ("__class__" : Str)
  ks : (defScope d.st).names.lookup ("super" : Str) = some .globalImplicit
  kc : (defScope d.st).names.lookup ("__class__" : Str) = some .free
  kn : (defScope d.st).names.lookup sn = some .local
  kr : (defScope d.st).names.lookup ("row" : Str) = some .local
  ne : sn ≠ "row"
  dn : (sn == ("__debug__" : Str)) = false
  dn2 : (sn == ("__classdict__" : Str)) = false
  bind : ∀ (kV doc pm cdv ct : Value) (an : Option Addr) (cc : Addr) (us : List Value), us.length = 2 → bindArgs (PySem.W.ksFn d.name d.qual (defArgs d.st) (defBody d.st) (defScope d.st) .none kV doc pm an cdv ct cc) ⟨us, []⟩ = pure ([sn, "row"].zip us)
/-- .. and what is known of it -/
def XiK (t : Tx) (K : PySem.W.Frag) : Prop := (∀ p ∈ t.xi, ∃ f cc cdv kV doc pm ct an oc od osl, PySem.W.findIn K (.ref (He.ga K p.1)) "__init__" = some (some (.ref f)) ∧ PySem.W.typeIn K (.ref f) = some (.type "function") ∧
  K.lookup f = some ⟨oc, od, .func (PySem.W.ksFn p.2.name p.2.qual (defArgs p.2.st) (defBody p.2.st) (defScope p.2.st) .none kV doc pm an cdv ct cc), osl⟩ ∧
  ∀ (P : Program) (sn : Str), P.main.file = t.file → (P.main.scope.names.lookup ("super" : Str)).isSome = false → XiS p.2 sn → XiOk P K (He.ga K p.1) f cc p.2.qual sn "row" (defScope p.2.st) cdv) ∧
  (t.xi ≠ [] → ∀ p ∈ t.ex, L2.XfC K (He.ga K p.1) ∧ PySem.W.findIn K (.ref (He.ga K p.1)) "row" = some none) ∧ ∀ p ∈ t.xi, OexC K (He.ga K p.1)
/-- the getters stand where they should -/
def GtOk0 (t : Tx) (K : PySem.W.Frag) : Prop := ∀ d ∈ t.ds, t.gt.contains d.at_ = true → ∃ fd, FunD K d.name d.qual (defArgs d.st) (defBody d.st) (defScope d.st) [] [] (gtA K d.at_) fd
def GtOk (t : Tx) (K : PySem.W.Frag) : Prop := GtOk0 t K ∧ XiK t K
def dvOf : D → He.Dv
  | .non => .non
  | .bl b => .bl b
  | .int i => .int i
  | .str x => .str (toS x)
  | _ => .non
def dvB : D → Bool
  | .non | .bl _ | .int _ | .str _ => true
  | _ => false
def keysOf (kvs : List (D × D)) : List Str := kvs.filterMap fun p => match p.1 with
  | .str z => some (toS z)
  | _ => none
def fnD (t : Tx) : List He.DefD := (t.ds.filter fun d => !t.gt.contains d.at_).map fun d => ⟨d.at_, d.name, d.qual, defArgs d.st, defBody d.st, defScope d.st, [], d.kw.map fun p => (p.1, dvOf p.2)⟩
def tsD (t : Tx) : List He.Tab := t.dcs.map fun p => (fun K => He.ga K p.1, keysOf p.2)
def faC (t : Tx) (c : ClD) : List He.Fa := [.glo c.x, .cls c.x, .mkr c.x] ++ t.fs.map (fun f => He.Fa.noat c.x f) ++ c.ms.map fun q => He.Fa.meth c.x q.1
def faD0 (t : Tx) : List He.Fa := ((t.ds.filter fun d => d.at_.2.isNone).map fun d => He.Fa.glo d.x) ++ (t.cl.flatMap (faC t)) ++ (t.dcs.map fun p => He.Fa.glo p.1) ++ t.fr.map .free
def isXi (t : Tx) (x : Str) : Bool := t.xi.any fun p => p.1 == x
def faX (t : Tx) : List He.Fa := (t.ex.flatMap fun p => if isXi t p.1 then [He.Fa.glo p.1] else [He.Fa.glo p.1, .exc p.1]) ++ t.ex.zipIdx.flatMap fun q => t.ex.map fun p => He.Fa.exm q.1.1 p.1 (p.2.contains q.2)
def faD (t : Tx) : List He.Fa := faD0 t ++ faX t
end VI
/-! VIab: a leaner look at what the head leaves. -/
namespace VI
open PySem PySem.Spec
/-- what an object speaks of; a def's code -/
def oRefs (g : Addr → Option Obj) (a : Addr) : List Addr := match g a with
  | some o => He.refsD o
  | none => []
def fRefs (g : Addr → Option Obj) (a : Addr) : List Addr := match g a with
  | some o => (match o.data with
    | .func fd => He.refV fd.code
    | _ => [])
  | none => []
def asY (g : Addr → Option Obj) : List Addr :=
  let r1 := oRefs g mainGlobals
  let r2 := r1.flatMap (oRefs g)
  let r3 := r2.flatMap (oRefs g)
  mainGlobals :: (r1 ++ (r2 ++ (r3 ++ r3.flatMap (fRefs g))))
def obsY (fa : List He.Fa) (fn : List He.DefD) (ts : List He.Tab) (ex : PySem.W.Frag → Bool) (g : Addr → Option Obj) : He.AlX :=
  (He.obsT fa fn ts (He.frT g (asY g)), ex (He.frT g (asY g)))
theorem saysY_of {fa : List He.Fa} {fn : List He.DefD} {ts : List He.Tab} {ex : PySem.W.Frag → Bool} {w : World} {h : Heap} (e : obsY fa fn ts ex h.get? = He.valX fn ts w) : He.SaysX fa fn ts [] ex w h (He.frT h.get? (asY h.get?)) := by
  have e1 := congrArg Prod.fst e
  have e2 := congrArg Prod.snd e
  exact ⟨e1, e2, (fun p hp => nomatch hp), (fun p hp => nomatch hp), (fun p hp => nomatch hp)⟩
def hookY (fa : List He.Fa) (fn : List He.DefD) (ts : List He.Tab) (ex : PySem.W.Frag → Bool) : PySem.W.Hook where
  α := He.AlX
  obs s := obsY fa fn ts ex s.heap.get?
  val w := He.valX fn ts w
  says w h := ∃ K, K.In h ∧ He.SaysX fa fn ts [] ex w h K
  of w s e := ⟨He.frT s.heap.get? (asY s.heap.get?), He.frT_in, saysY_of e⟩
  keeps := fun w h h' ⟨K, hK, c⟩ k => ⟨K, PySem.W.Frag.In.keeps hK k, ⟨c.t, c.more, c.hd, c.out, fun p hp => nomatch hp⟩⟩
theorem obsY_eq {fa : List He.Fa} {fn : List He.DefD} {ts : List He.Tab} {ex : PySem.W.Frag → Bool} {g : Addr → Option Obj} {s : Shared} (h : ∀ a, g a = s.heap.get? a) : obsY fa fn ts ex g = (hookY fa fn ts ex).obs s := by
  have e : g = s.heap.get? := funext h
  rw [e]
  rfl
end VI
/-! VIac: a look at what the head leaves, with the properties' getters. -/
namespace VI
open PySem PySem.Spec PyProof.Rows L2
def fnV (K : PySem.W.Frag) (a : Addr) : He.FnW := match K.lookup a with
  | some ⟨_, _, .func fd, _⟩ => some (fd.name, fd.qualname, fd.params, fd.body, fd.scope, fd.globals, fd.closure, fd.builtins)
  | _ => none
def gtV (d : Df) : He.FnW := some (d.name, d.qual, defArgs d.st, .stmts (defBody d.st), defScope d.st, mainGlobals, [], builtinsNs)
def gtB (K : PySem.W.Frag) (d : Df) : Bool := PySem.W.keepIn K (.ref (gtA K d.at_)) && (match K.lookup (gtA K d.at_) with
  | some ⟨_, _, .func fd, _⟩ => PySem.W.codeIn K fd.code d.qual && (He.dflB K fd.defaults [] && He.kwdB K fd.kwdefaults [])
  | _ => false)
theorem gt_funD {K : PySem.W.Frag} {d : Df} (e : fnV K (gtA K d.at_) = gtV d) (c : gtB K d = true) : ∃ fd, FunD K d.name d.qual (defArgs d.st) (defBody d.st) (defScope d.st) [] [] (gtA K d.at_) fd := by
  obtain ⟨kp, c2⟩ := He.ba c
  unfold fnV at e
  cases q : K.lookup (gtA K d.at_) with
  | none =>
    rw [q] at c2
    cases c2
  | some o =>
    obtain ⟨oc, od, dt, osl⟩ := o
    rw [q] at c2 e
    cases dt with
    | func fd =>
      obtain ⟨n1, n2, n3, n4, n5, n6, n7, n8, n9, n10, n11, n12, n13, n14, n15⟩ := fd
      have e2 : (some (n1, n2, n3, n4, n5, n6, n7, n15) : He.FnW) = some (d.name, d.qual, defArgs d.st, .stmts (defBody d.st), defScope d.st, mainGlobals, [], builtinsNs) := e
      simp only [Option.some.injEq, Prod.mk.injEq] at e2
      obtain ⟨h1, h2, h3, h4, h5, h6, h7, h8⟩ := e2
      subst h1 h2 h3 h4 h5 h6 h7 h8
      have c3 : (PySem.W.codeIn K n13 d.qual && (He.dflB K n8 [] && He.kwdB K n9 [])) = true := c2
      obtain ⟨k1, k2⟩ := He.ba c3
      obtain ⟨k3, k4⟩ := He.ba k2
      exact ⟨_, ⟨oc, od, n8, n9, n10, n11, n12, n13, n14, osl, rfl, q, k1, He.dflB_ok k3, He.kwdB_ok k4⟩, kp⟩
    | _ => cases c2
abbrev lmD (t : Tx) : List He.Defn := t.lm.map (·.1)
def getters (t : Tx) : List Df := t.ds.filter fun d => t.gt.contains d.at_
theorem map_at {α β : Type} {f g : α → β} : ∀ {l : List α}, l.map f = l.map g → ∀ x ∈ l, f x = g x
  | y :: l, h, x, hx => by
    rw [List.map_cons, List.map_cons] at h
    injection h with h1 h2
    rcases List.mem_cons.mp hx with e | e
    · rw [e]; exact h1
    · exact map_at h2 x e
end VI
/-! VIad: a leaner look at what the head leaves, with the properties' getters. -/
namespace VI
open PySem PySem.Spec PyProof.Rows L2
/-- what a property speaks of -/
def pRefs (g : Addr → Option Obj) (a : Addr) : List Addr := match g a with
  | some o => (match o.cls, o.data with
    | .type c, .fields vs => if c = "property" then vs.toList.flatMap He.refV else []
    | _, _ => [])
  | none => []
/-- a def's code, what lacking keywords are filled up with, its cells -/
def kRefs (g : Addr → Option Obj) (a : Addr) : List Addr := match g a with
  | some o => (match o.data with
    | .func fd => He.refV fd.code ++ (He.refV fd.kwdefaults ++ fd.closure.map (·.2))
    | _ => [])
  | none => []
def asW (g : Addr → Option Obj) : List Addr :=
  let r1 := oRefs g mainGlobals
  let r2 := r1.flatMap (oRefs g)
  let r3 := r2.flatMap (oRefs g)
  let r4 := r3.flatMap (pRefs g)
  mainGlobals :: cStatics :: (r1 ++ (r2 ++ (r3 ++ (r3.flatMap (kRefs g) ++ (r4 ++ r4.flatMap (kRefs g))))))
/-- a def's data but its cells -/
def fnC (K : PySem.W.Frag) (a : Addr) : He.FnW := match K.lookup a with
  | some ⟨_, _, .func fd, _⟩ => some (fd.name, fd.qualname, fd.params, fd.body, fd.scope, fd.globals, [], fd.builtins)
  | _ => none
abbrev AlW : Type := He.AlT × Bool × List He.FnW × List He.FnW
def seeW (t : Tx) (g : Addr → Option Obj) (K : PySem.W.Frag) : AlW := (He.obsT (faD t) (fnD t) (tsD t) K, ((exB t K && He.tabsB g (lmD t) K) && ((getters t).all (gtB K) && (t.xi.all (xiB t.file K) && (t.xi.isEmpty || xfAll t K)))), (getters t).map (fun d => fnV K (gtA K d.at_)), t.xi.map fun p => fnC K (xiF K p.1))
def obsW (t : Tx) (g : Addr → Option Obj) : AlW := seeW t g (He.frT g (asW g))
def valW (t : Tx) (w : World) : AlW := (He.valT (fnD t) (tsD t) w, true, (getters t).map gtV, t.xi.map fun p => gtV p.2)
theorem oexB_ok {K : PySem.W.Frag} {C : Addr} (h : oexB K C = true) : OexC K C := by
  unfold oexB at h
  simp only [Bool.and_eq_true, decide_eq_true_eq] at h
  obtain ⟨q, h1, h2, h3, h4⟩ := h
  refine ⟨?_, He.eqO_ok h1, h2, h3, h4⟩
  split at q
  · rename_i dd cd sl ho
    split at q
    · rename_i C' bm k0 k1 k2 k3 n k5 hm hs
      simp only [Bool.and_eq_true, beq_iff_eq, Bool.not_eq_true'] at q
      obtain ⟨⟨⟨⟨e1, e2⟩, hdel⟩, hdct⟩, hr⟩ := q
      subst e1 e2
      obtain ⟨nm, bs, mro, ns, qn, hd, sn, sub, ab, col, del⟩ := cd
      dsimp only at hm hdel hdct
      subst hm hdel hdct
      obtain ⟨l⟩ := sl
      simp only at hs
      subst hs
      exact ⟨nm, qn, ns, bs, bm, sn, sub, ab, col, dd, k0, k1, k2, k3, k5, ho, hr⟩
    · cases q
  · cases q
theorem xi_at {file : Str} {K : PySem.W.Frag} {p : Str × Df} (e : fnC K (xiF K p.1) = gtV p.2) (c : xiB file K p = true) : ∃ f cc cdv kV doc pm ct an oc od osl, PySem.W.findIn K (.ref (He.ga K p.1)) "__init__" = some (some (.ref f)) ∧ PySem.W.typeIn K (.ref f) = some (.type "function") ∧
    K.lookup f = some ⟨oc, od, .func (PySem.W.ksFn p.2.name p.2.qual (defArgs p.2.st) (defBody p.2.st) (defScope p.2.st) .none kV doc pm an cdv ct cc), osl⟩ ∧
    ∀ (P : Program) (sn : Str), P.main.file = file → (P.main.scope.names.lookup ("super" : Str)).isSome = false → XiS p.2 sn → XiOk P K (He.ga K p.1) f cc p.2.qual sn "row" (defScope p.2.st) cdv := by
  unfold xiB at c
  simp only [Bool.and_eq_true, decide_eq_true_eq] at c
  obtain ⟨⟨c1, c2⟩, c3, ⟨c4, c5⟩, ⟨c6, c7⟩, ⟨c8, c9⟩, c10⟩ := c
  unfold fnC at e
  split at c3
  · rename_i oc od fd osl lk
    rw [lk] at e
    obtain ⟨n1, n2, n3, n4, n5, n6, n7, n8, n9, n10, n11, n12, n13, n14, n15⟩ := fd
    have e2 : (some (n1, n2, n3, n4, n5, n6, [], n15) : He.FnW) = some (p.2.name, p.2.qual, defArgs p.2.st, .stmts (defBody p.2.st), defScope p.2.st, mainGlobals, [], builtinsNs) := e
    simp only [Option.some.injEq, Prod.mk.injEq] at e2
    obtain ⟨h1, h2, h3, h4, h5, h6, _, h8⟩ := e2
    subst h1 h2 h3 h4 h5 h6 h8
    simp only [Bool.and_eq_true] at c3
    obtain ⟨⟨k0, k1⟩, k2, k3⟩ := c3
    cases n8 <;> first | (cases k0; done) | skip
    split at k3
    · rename_i nn cc
      simp only [Bool.and_eq_true, decide_eq_true_eq] at k3
      obtain ⟨rfl, k3⟩ := k3
      refine ⟨_, cc, n13, n9, n10, n11, n14, n12, oc, od, osl, He.eqO_ok c1, c2, lk, fun P sn hf ht Z => ?_⟩
      refine ⟨oexB_ok c4, ?_, k1, ?_, c5, c6, He.eqO_ok c7, He.eqO_ok c8, c9, ht, He.eqO_ok c10, Z.kind, Z.co, Z.gen, Z.ncell, Z.nfree, Z.ks, Z.kc, Z.kn, Z.kr, Z.ne, Z.dn, by decide⟩
      · split at k3
        · rename_i cl cld D csl hcc
          have := beq_iff_eq.mp k3
          subst this
          exact ⟨_, _, _, hcc⟩
        · cases k3
      · split at k2
        · rename_i cda
          split at k2
          · rename_i a1 a2 vs a3 hl
            split at k2
            · rename_i z tf hv
              refine ⟨cda, _, _, vs, _, z, tf, rfl, hl, hv, ?_⟩
              rw [hf]; exact k2
            · cases k2
          · cases k2
        · cases k2
    · cases k3
  · cases c3
theorem tabsW_ok {h : Heap} {tf : List He.Defn} {K : PySem.W.Frag} (hn : ∀ a o, h.get? a = some o → He.emptyTab o = true → K.lookup a = none) (e : He.tabsB h.get? tf K = true) : (∀ p ∈ tf, PySem.W.codeHdIn K (He.cT K p).1 (He.cT K p).2 = true) ∧ (∀ p ∈ tf, K.lookup (He.cT K p).2 = none) ∧ ∀ p ∈ tf, h.get? (He.cT K p).2 = some { cls := .none, data := .fields #[] } := by
  have key : ∀ p ∈ tf, PySem.W.codeHdIn K (He.cT K p).1 (He.cT K p).2 = true ∧ ∃ o, h.get? (He.cT K p).2 = some o ∧ He.emptyTab o = true := fun p hp => by
    obtain ⟨h3, h4⟩ := He.ba (List.all_eq_true.mp e p hp)
    refine ⟨h3, ?_⟩
    cases q : h.get? (He.cT K p).2 with
    | none => rw [q] at h4; cases h4
    | some o => rw [q] at h4; exact ⟨o, rfl, h4⟩
  refine ⟨fun p hp => (key p hp).1, fun p hp => ?_, fun p hp => ?_⟩
  · obtain ⟨_, o, h1, h2⟩ := key p hp
    exact hn _ o h1 h2
  · obtain ⟨_, o, h1, h2⟩ := key p hp
    rw [h1, He.emptyTab_eq h2]
theorem saysW_of {t : Tx} {w : World} {h : Heap} (e : obsW t h.get? = valW t w) : He.SaysX (faD t) (fnD t) (tsD t) (lmD t) (exB t) w h (He.frT h.get? (asW h.get?)) ∧ GtOk t (He.frT h.get? (asW h.get?)) := by
  unfold obsW seeW valW at e
  generalize hK : He.frT h.get? (asW h.get?) = K at e ⊢
  simp only [Prod.mk.injEq] at e
  obtain ⟨e1, e2, e3, e4⟩ := e
  simp only [Bool.and_eq_true] at e2
  obtain ⟨⟨e5, e6⟩, e7, e8, e9⟩ := e2
  obtain ⟨k1, k2, k3⟩ := tabsW_ok (fun a o => by rw [← hK]; exact He.frT_none) e6
  refine ⟨⟨e1, e5, k1, k2, k3⟩, fun d hd hg => ?_, fun p hp => ?_, fun hne p hp => ?_, fun p hp => ?_⟩
  · have hm : d ∈ getters t := List.mem_filter.mpr ⟨hd, hg⟩
    exact gt_funD (map_at e3 d hm) (List.all_eq_true.mp e7 d hm)
  · exact xi_at (map_at e4 p hp) (List.all_eq_true.mp e8 p hp)
  · rcases Bool.or_eq_true_iff.mp e9 with z | z
    · exact absurd (List.isEmpty_iff.mp z) hne
    · have := List.all_eq_true.mp z p hp
      rw [Bool.and_eq_true] at this
      exact ⟨L2.xfB_ok this.1, He.eqO_ok this.2⟩
  · have := List.all_eq_true.mp e8 p hp
    unfold xiB at this
    simp only [Bool.and_eq_true] at this
    exact oexB_ok this.2.2.1.1
def hookW (t : Tx) : PySem.W.Hook where
  α := AlW
  obs := fun s => obsW t s.heap.get?
  val := fun w => valW t w
  says := fun w h => ∃ K : PySem.W.Frag, K.In h ∧ He.SaysX (faD t) (fnD t) (tsD t) (lmD t) (exB t) w h K ∧ GtOk t K
  of := fun _ _ e => ⟨_, He.frT_in, saysW_of e⟩
  keeps := fun _ _ _ ⟨K, hK, c, hg⟩ k => ⟨K, PySem.W.Frag.In.keeps hK k, ⟨c.t, c.more, c.hd, c.out, fun p hp => k _ _ (c.empty p hp)⟩, hg⟩
theorem obsW_eq {t : Tx} {g : Addr → Option Obj} {s : Shared} (h : ∀ a, g a = s.heap.get? a) : obsW t g = (hookW t).obs s := by
  have e : g = s.heap.get? := funext h
  rw [e] <;> rfl
end VI
namespace Lk07
open PySem PySem.Spec PyProof.Rows L2 VI
def top (i : Nat) : Stmt := PySem.Challenge.pw_turnedends_k07_refused.main.body.getD i (.Pass ⟨0, 0, 0, 0⟩)
def inC (s : Stmt) (j : Nat) : Stmt := match s with
  | .ClassDef _ _ _ b _ _ _ _ _ _ _ => b.getD j (.Pass ⟨0, 0, 0, 0⟩)
  | _ => .Pass ⟨0, 0, 0, 0⟩
def d_is_number : Df := ⟨"is_number", ("is_number", none), "is_number", "is_number", ["thing", "low", "high"], ["thing", "low", "high"], [], top 13⟩
def d_check_text : Df := ⟨"check_text", ("check_text", none), "check_text", "check_text", ["text", "sign"], ["text"], [], top 14⟩
def d_check_kind : Df := ⟨"check_kind", ("check_kind", none), "check_kind", "check_kind", ["kind"], ["kind"], [], top 15⟩
def d_can_come : Df := ⟨"can_come", ("can_come", none), "can_come", "can_come", ["kind", "is_open", "sign"], ["kind", "is_open", "sign"], [], top 16⟩
def d_is_open_behind : Df := ⟨"is_open_behind", ("is_open_behind", none), "is_open_behind", "is_open_behind", ["kind", "sign"], ["kind", "sign"], [], top 17⟩
def d_goes_on : Df := ⟨"goes_on", ("goes_on", none), "goes_on", "goes_on", ["kind", "is_open", "text", "sign"], ["kind", "is_open", "text"], [], top 18⟩
def d_is_kind_of : Df := ⟨"is_kind_of", ("is_kind_of", none), "is_kind_of", "is_kind_of", ["text", "kind"], ["text", "kind"], [], top 19⟩
def d_is_of : Df := ⟨"is_of", ("is_of", none), "is_of", "is_of", ["text", "kind"], ["text", "kind"], [], top 20⟩
def d_check_way : Df := ⟨"check_way", ("check_way", none), "check_way", "check_way", ["way", "word"], ["way"], [], top 26⟩
def d_start_of : Df := ⟨"start_of", ("start_of", none), "start_of", "start_of", ["way"], ["way"], [], top 27⟩
def d_left : Df := ⟨"left", ("left", none), "left", "left", ["word"], ["word"], [], top 28⟩
def d_sign_by : Df := ⟨"sign_by", ("sign_by", none), "sign_by", "sign_by", ["word", "is_held", "sign"], ["word", "is_held", "sign"], [], top 29⟩
def d_text_by : Df := ⟨"text_by", ("text_by", none), "text_by", "text_by", ["word", "is_held", "text", "found", "sign", "some"], ["word", "is_held", "text"], [], top 30⟩
def d_read_by : Df := ⟨"read_by", ("read_by", none), "read_by", "read_by", ["way", "standing", "text", "late", "word", "is_held"], ["way", "standing", "text"], [], top 31⟩
def d_ended : Df := ⟨"ended", ("ended", none), "ended", "ended", ["way", "standing", "text", "word", "is_held"], ["way", "standing"], [], top 32⟩
def d_made : Df := ⟨"made", ("made", none), "made", "made", ["way", "text", "standing", "found"], ["way", "text"], [], top 33⟩
def d_check_standing : Df := ⟨"check_standing", ("check_standing", none), "check_standing", "check_standing", ["way", "standing", "word", "is_held"], ["way", "standing"], [], top 34⟩
def d_turned : Df := ⟨"turned", ("turned", none), "turned", "turned", ["way", "text"], ["way", "text"], [], top 35⟩
def d_first_standing : Df := ⟨"first_standing", ("first_standing", none), "first_standing", "first_standing", ["way"], ["way"], [], top 36⟩
def d_read : Df := ⟨"read", ("read", none), "read", "read", ["way", "standing", "sign"], ["way", "standing", "sign"], [], top 37⟩
def d_at_end : Df := ⟨"at_end", ("at_end", none), "at_end", "at_end", ["way", "standing"], ["way", "standing"], [], top 38⟩
def d_all_standings : Df := ⟨"all_standings", ("all_standings", none), "all_standings", "all_standings", ["way", "found", "line", "standing", "sign", "late"], ["way"], [], top 39⟩
def d_without_common : Df := ⟨"without_common", ("without_common", none), "without_common", "without_common", ["mine", "theirs", "many"], ["mine", "theirs"], [], top 41⟩
def d_start_row : Df := ⟨"start_row", ("start_row", none), "start_row", "start_row", ["one", "other"], ["one", "other"], [], top 42⟩
def d_row_behind : Df := ⟨"row_behind", ("row_behind", none), "row_behind", "row_behind", ["one", "other", "kind", "row", "sign", "first", "mine", "second", "theirs"], ["one", "other", "kind", "row", "sign"], [], top 43⟩
def d_is_even : Df := ⟨"is_even", ("is_even", none), "is_even", "is_even", ["one", "other", "row"], ["one", "other", "row"], [], top 44⟩
def d_are_rows : Df := ⟨"are_rows", ("are_rows", none), "are_rows", "are_rows", ["one", "other", "kind", "rows", "known", "row", "sign"], ["one", "other", "kind", "rows"], [], top 45⟩
def d_is_parting : Df := ⟨"is_parting", ("is_parting", none), "is_parting", "is_parting", ["one", "other", "kind", "text", "sign"], ["one", "other", "kind", "text"], [], top 46⟩
def d_Alike_init_i : Df := ⟨"Alike.__init__", ("Alike", some ("__init__" : Str)), "__init__", "Alike.__init__", ["self", "rows"], ["self", "rows"], [], inC (top 47) 0⟩
def d_Alike_shows : Df := ⟨"Alike.shows", ("Alike", some ("shows" : Str)), "shows", "Alike.shows", ["self", "one", "other", "kind"], ["self", "one", "other", "kind"], [], inC (top 47) 2⟩
def d_Parted_init_i : Df := ⟨"Parted.__init__", ("Parted", some ("__init__" : Str)), "__init__", "Parted.__init__", ["self", "text"], ["self", "text"], [], inC (top 48) 0⟩
def d_Parted_shows : Df := ⟨"Parted.shows", ("Parted", some ("shows" : Str)), "shows", "Parted.shows", ["self", "one", "other", "kind"], ["self", "one", "other", "kind"], [], inC (top 48) 2⟩
def d_check_both : Df := ⟨"check_both", ("check_both", none), "check_both", "check_both", ["one", "other", "kind"], ["one", "other", "kind"], [], top 49⟩
def d_compared : Df := ⟨"compared", ("compared", none), "compared", "compared", ["one", "other", "kind", "begin", "found", "line", "text", "sign", "is_open", "row", "late", "place"], ["one", "other", "kind"], [], top 50⟩
def d_compare : Df := ⟨"compare", ("compare", none), "compare", "compare", ["one", "other", "kind"], ["one", "other", "kind"], [], top 51⟩
def d_are_alike : Df := ⟨"are_alike", ("are_alike", none), "are_alike", "are_alike", ["one", "other", "kind"], ["one", "other", "kind"], [], top 52⟩
def d_first_parting : Df := ⟨"first_parting", ("first_parting", none), "first_parting", "first_parting", ["one", "other", "kind", "found"], ["one", "other", "kind"], [], top 53⟩
def d_returns : Df := ⟨"returns", ("returns", none), "returns", "returns", ["way", "kind"], ["way", "kind"], [], top 54⟩
def d_check_all : Df := ⟨"check_all", ("check_all", none), "check_all", "check_all", ["way", "kind", "other"], ["way", "kind", "other"], [], top 56⟩
def d_place_behind : Df := ⟨"place_behind", ("place_behind", none), "place_behind", "place_behind", ["way", "kind", "other", "place", "sign", "is_open", "standing", "given"], ["way", "kind", "other", "place", "sign"], [], top 57⟩
def d_does_end : Df := ⟨"does_end", ("does_end", none), "does_end", "does_end", ["way", "other", "place"], ["way", "other", "place"], [], top 58⟩
def d_Leads_init_i : Df := ⟨"Leads.__init__", ("Leads", some ("__init__" : Str)), "__init__", "Leads.__init__", ["self", "places"], ["self", "places"], [], inC (top 59) 0⟩
def d_Leads_shows : Df := ⟨"Leads.shows", ("Leads", some ("shows" : Str)), "shows", "Leads.shows", ["self", "way", "kind", "other", "known", "place", "sign"], ["self", "way", "kind", "other"], [], inC (top 59) 2⟩
def d_Strays_init_i : Df := ⟨"Strays.__init__", ("Strays", some ("__init__" : Str)), "__init__", "Strays.__init__", ["self", "text"], ["self", "text"], [], inC (top 60) 0⟩
def d_Strays_shows : Df := ⟨"Strays.shows", ("Strays", some ("shows" : Str)), "shows", "Strays.shows", ["self", "way", "kind", "other", "sign"], ["self", "way", "kind", "other"], [], inC (top 60) 2⟩
def d_lead : Df := ⟨"lead", ("lead", none), "lead", "lead", ["way", "kind", "other", "begin", "found", "line", "text", "sign", "is_open", "place", "late", "spot"], ["way", "kind", "other"], [], top 61⟩
def d_does_lead : Df := ⟨"does_lead", ("does_lead", none), "does_lead", "does_lead", ["way", "kind", "other"], ["way", "kind", "other"], [], top 62⟩
def d_first_stray : Df := ⟨"first_stray", ("first_stray", none), "first_stray", "first_stray", ["way", "kind", "other", "found"], ["way", "kind", "other"], [], top 63⟩
def d_check_limited : Df := ⟨"check_limited", ("check_limited", none), "check_limited", "check_limited", ["way", "kind", "limit"], ["way", "kind", "limit"], [], top 67⟩
def d_are_texts : Df := ⟨"are_texts", ("are_texts", none), "are_texts", "are_texts", ["way", "kind", "texts", "many", "rows", "number", "text"], ["way", "kind", "texts", "many"], [], top 68⟩
def d_Rests_init_i : Df := ⟨"Rests.__init__", ("Rests", some ("__init__" : Str)), "__init__", "Rests.__init__", ["self", "number", "rows", "texts"], ["self", "number", "rows", "texts"], [], inC (top 69) 0⟩
def d_Rests_shows : Df := ⟨"Rests.shows", ("Rests", some ("shows" : Str)), "shows", "Rests.shows", ["self", "way", "kind", "limit"], ["self", "way", "kind", "limit"], [], inC (top 69) 3⟩
def d_Restless_init_i : Df := ⟨"Restless.__init__", ("Restless", some ("__init__" : Str)), "__init__", "Restless.__init__", ["self", "texts"], ["self", "texts"], [], inC (top 70) 0⟩
def d_Restless_shows : Df := ⟨"Restless.shows", ("Restless", some ("shows" : Str)), "shows", "Restless.shows", ["self", "way", "kind", "limit"], ["self", "way", "kind", "limit"], [], inC (top 70) 2⟩
def d_rounds : Df := ⟨"rounds", ("rounds", none), "rounds", "rounds", ["way", "text", "many", "found", "turn"], ["way", "text", "many"], [], top 71⟩
def d_rest : Df := ⟨"rest", ("rest", none), "rest", "rest", ["way", "kind", "limit", "texts", "number", "found"], ["way", "kind", "limit"], [], top 72⟩
def d_least_rounds : Df := ⟨"least_rounds", ("least_rounds", none), "least_rounds", "least_rounds", ["way", "kind", "limit", "found"], ["way", "kind", "limit"], [], top 73⟩
def d__law_word : Df := ⟨"_law_word", ("_law_word", none), "_law_word", "_law_word", ["ask", "thing", "error", "found"], ["ask", "thing"], [], top 75⟩
def d__law_all : Df := ⟨"_law_all", ("_law_all", none), "_law_all", "_law_all", ["asks", "things", "word", "thing", "ask"], ["asks", "things", "word"], [], top 76⟩
def d__law_ways_right : Df := ⟨"_law_ways_right", ("_law_ways_right", none), "_law_ways_right", "_law_ways_right", ["way", "asks", "bad"], ["way"], [], top 77⟩
def d__law_kinds_right : Df := ⟨"_law_kinds_right", ("_law_kinds_right", none), "_law_kinds_right", "_law_kinds_right", ["way", "asks"], ["way"], [], top 78⟩
def d__law_rest_right : Df := ⟨"_law_rest_right", ("_law_rest_right", none), "_law_rest_right", "_law_rest_right", ["way", "asks", "bad"], ["way"], [], top 79⟩
def d_law : Df := ⟨"law", ("law", none), "law", "law", ["script", "way", "part", "one"], ["script"], [], top 80⟩
def tx : Tx := ⟨[d_is_number, d_check_text, d_check_kind, d_can_come, d_is_open_behind, d_goes_on, d_is_kind_of, d_is_of, d_check_way, d_start_of, d_left, d_sign_by, d_text_by, d_read_by, d_ended, d_made, d_check_standing, d_turned, d_first_standing, d_read, d_at_end, d_all_standings, d_without_common, d_start_row, d_row_behind, d_is_even, d_are_rows, d_is_parting, d_Alike_init_i, d_Alike_shows, d_Parted_init_i, d_Parted_shows, d_check_both, d_compared, d_compare, d_are_alike, d_first_parting, d_returns, d_check_all, d_place_behind, d_does_end, d_Leads_init_i, d_Leads_shows, d_Strays_init_i, d_Strays_shows, d_lead, d_does_lead, d_first_stray, d_check_limited, d_are_texts, d_Rests_init_i, d_Rests_shows, d_Restless_init_i, d_Restless_shows, d_rounds, d_rest, d_least_rounds, d__law_word, d__law_all, d__law_ways_right, d__law_kinds_right, d__law_rest_right, d_law],
  [("SIGNS", .str [97, 110, 114]), ("HOLDING", .tup [.str [98, 111, 116, 104], .str [108, 111, 110, 101, 115], .str [112, 97, 105, 114, 115]]), ("MOST_LIMIT", .int 4), ("KINDS", .tup [.str [97, 110, 121], .str [98, 97, 114, 101], .str [108, 111, 110, 101], .str [112, 97, 105, 114, 101, 100]]), ("CONVERSIONS", .tup [.str [97, 108, 108], .str [98, 111, 116, 104], .str [99, 97, 114, 101], .str [108, 111, 110, 101], .str [108, 111, 110, 101, 115], .str [112, 97, 105, 114, 115]]), ("MOST_CONVERSIONS", .int 6), ("MOST_ROUNDS", .int 9), ("STANDING", .tup [.str [98, 111, 116, 104], .str [99, 97, 114, 101], .str [108, 111, 110, 101, 115], .str [112, 97, 105, 114, 115]])],
  [("BARRED", [(.str [97, 110, 121], .str []), (.str [98, 97, 114, 101], .str [114]), (.str [108, 111, 110, 101], .str [110]), (.str [112, 97, 105, 114, 101, 100], .str [])])],
  [⟨"Alike", 28, [("shows", 29)], []⟩, ⟨"Parted", 30, [("shows", 31)], []⟩, ⟨"Leads", 41, [("shows", 42)], []⟩, ⟨"Strays", 43, [("shows", 44)], []⟩, ⟨"Rests", 50, [("shows", 51)], []⟩, ⟨"Restless", 52, [("shows", 53)], []⟩],
  ["rows", "text", "places", "number", "texts"], ["shows"], ["ValueError", "isinstance", "len", "min", "tuple", "zip", "list", "range", "bool", "int", "str", "all", "abs", "sum", "enumerate"],
  [(("_law_ways_right", none), "_law_ways_right"), (("_law_kinds_right", none), "_law_kinds_right"), (("_law_rest_right", none), "_law_rest_right")],
  [("TurnError", [0, 1, 2, 3, 4, 5, 6, 7]), ("BadText", [1]), ("BadKind", [2]), ("BadWay", [3]), ("BadStanding", [4]), ("BadSign", [5]), ("BadRounds", [6]), ("BadLimit", [7])],
  [],
  [], "", [59, 60, 61], true, ["way"], [(59, ["way"]), (60, ["way"]), (61, ["way"])]⟩
abbrev rowX : PySem.W.OpenRow := PySem.W.OpenLaw.row PySem.Challenge.rw_turnedends_k07_refused
abbrev hkX : PySem.W.Hook := He.hookX 5 (faD tx) (fnD tx) (tsD tx) (tx.lm.map (·.1)) (exB tx)
def obX (s : PySem.W.SharedT) : He.AlX := He.obsX 5 (faD tx) (fnD tx) (tsD tx) (tx.lm.map (·.1)) (exB tx) (HandSHeadRun.getT s)
theorem obX_eq (s : PySem.W.SharedT) : obX s = hkX.obs s.abs := He.obsX_eq (HandSHeadRun.getT_eq s)
def nms0 : List PySem.Str := ["TurnError", "BadText", "BadKind", "BadWay", "BadStanding", "BadSign", "BadRounds", "BadLimit", "SIGNS", "KINDS", "BARRED", "is_number", "check_text", "check_kind", "can_come", "is_open_behind", "goes_on", "is_kind_of", "is_of", "MOST_CONVERSIONS", "CONVERSIONS", "HOLDING", "STANDING", "check_way", "start_of", "left", "sign_by", "text_by", "read_by", "ended"]
def nms1 : List PySem.Str := ["made", "check_standing", "turned", "first_standing", "read", "at_end", "all_standings", "without_common", "start_row", "row_behind", "is_even", "are_rows", "is_parting", "Alike", "Parted", "check_both", "compared", "compare", "are_alike", "first_parting", "returns", "check_all", "place_behind", "does_end", "Leads", "Strays", "lead", "does_lead", "first_stray", "MOST_ROUNDS"]
def nms2 : List PySem.Str := ["MOST_LIMIT", "check_limited", "are_texts", "Rests", "Restless", "rounds", "rest", "least_rounds", "_law_word", "_law_all", "_law_ways_right", "_law_kinds_right", "_law_rest_right"]
def nms : List PySem.Str := nms0 ++ nms1 ++ nms2
theorem run_false (w : World) : HandSHeadRun.RunEq rowX (PySem.W.view rowX.prog [80]) hkX obX 8000 nms (w.withFollow "special-get-raises" false) := by
  intro os
  kernel_rfl
theorem run_true (w : World) : HandSHeadRun.RunEq rowX (PySem.W.view rowX.prog [80]) hkX obX 8000 nms (w.withFollow "special-get-raises" true) := by
  intro os
  kernel_rfl
theorem run (w : World) : HandSHeadRun.RunEq rowX (PySem.W.view rowX.prog [80]) hkX obX 8000 nms w :=
  PySem.W.byRow2 "special-get-raises" (P := fun w => HandSHeadRun.RunEq rowX (PySem.W.view rowX.prog [80]) hkX obX 8000 nms w) run_false run_true w
end Lk07
/-! VIb: what the evaluator's data stand for on the machine. -/
namespace VI
open PySem PySem.Spec PyProof.Rows L2

theorem toS_len (x : List Nat) : (toS x).length = x.length := by simp [toS, Str.length]
theorem toS_list (x : List Nat) : (toS x).cps.toList = x := by simp [toS]
theorem toS_inj {x y : List Nat} (h : toS x = toS y) : x = y := by
  have := congrArg (fun z : Str => z.cps.toList) h
  simpa [toS] using this
theorem toS_app (x y : List Nat) : toS x ++ toS y = toS (x ++ y) := by
  show Str.append _ _ = _
  simp [Str.append, toS]

/-- where the classes stand, what the attributes are called -/
structure Nm where
  cA : List Addr
  aN : List Str
  /-- so many of them are fields -/
  nf : Nat
  /-- tables of code objects, what these are called -/
  tA : List (Addr × Str) := []

/-- a lambda's text; the names that it captures -/
structure LamT where
  q : Str
  ps : Arguments
  body : Expr
  scope : Scope
  caps : List Str
/-- the lambdas; the captured names' cells; what these hold, where it is known, and a heap that says so -/
class LL where
  ls : Nat → Option LamT
  cb : Heap
  own : List (Str × Addr)
  ct : Option (List (Option D))
  /-- all names that are captured anywhere -/
  gn : List Str
  /-- a caught error that is looked at -/
  er : Option Addr
variable [LL]
/-- a function that was made of L -/
def FnO (L : LamT) (cl : List (Str × Addr)) (c f : Addr) : HO := .ext fun h => ∃ pm ctv, h.get? f = some (PySem.W.kla_obj "<lambda>" L.q L.ps L.body L.scope cl pm c ctv)
/-- what is captured -/
def CapOk (cl : List (Str × Addr)) (x : Str) : Prop := ∃ c, cl.lookup x = some c ∧ LL.own.lookup x = some c
mutual
inductive Rep (K : PySem.W.Frag) (ρ : List Addr) (H : Hp) : D → V → Prop
  | non : Rep K ρ H .non .non
  | bl (b : Bool) : Rep K ρ H (.bl b) (.bl b)
  | int (i : Int) : Rep K ρ H (.int i) (.int i)
  | str (x : List Nat) : Rep K ρ H (.str x) (.str (toS x))
  | tup {xs : List D} {a : Addr} {vs : List V} : SqT K H a vs → Reps K ρ H xs vs → Rep K ρ H (.tup xs) (.ref a)
  | ref {n : Nat} {a : Addr} : ρ[n]? = some a → Rep K ρ H (.ref n) (.ref a)
  | fn {k : Nat} {f c : Addr} {L : LamT} {cl : List (Str × Addr)} : LL.ls k = some L → H f = some (FnO L cl c f) → f ∉ ρ → H c = some (LamX.CodeO c L.q) → c ∉ ρ → (∀ p ∈ L.caps, CapOk cl p) → (∀ x c, cl.lookup x = some c → x ∈ L.caps) → Rep K ρ H (.fn k) (.ref f)
  | err {k : Nat} {a : Addr} : LL.er = some a → Rep K ρ H (.fn k) (.ref a)
inductive Reps (K : PySem.W.Frag) (ρ : List Addr) (H : Hp) : List D → List V → Prop
  | nil : Reps K ρ H [] []
  | cons {x : D} {v : V} {xs : List D} {vs : List V} : Rep K ρ H x v → Reps K ρ H xs vs → Reps K ρ H (x :: xs) (v :: vs)
end

/-- a key that is an int or a text -/
def leafK : D → Option Key
  | .int i => some (.inl i)
  | .str x => some (.inr (toS x))
  | _ => none
mutual
/-- a key as the library has it -/
def nkey : D → NestedKey
  | .non => .none
  | .bl b => .num (if b = true then 1 else 0)
  | .int i => .num i
  | .str x => .text (toS x)
  | .tup xs => .tup (nkeys xs)
  | .ref _ => .none
  | .fn _ => .none
def nkeys : List D → List NestedKey
  | [] => []
  | x :: xs => nkey x :: nkeys xs
end
/-- a dict's entries, by its own object alone -/
def rawD (P : Program) (w : World) (a : Addr) (xs : List (NestedKey × Addr × Value)) (h : Heap) : Prop :=
  ∃ o es ep, h.get? a = some o ∧ o.ExactDict ∧ o.data = .dict es ep ∧ es.toList = xs.map (entryOfKey (nestedKind P w))
/-- the pairs of a dict with int and text keys -/
def LPairs (K : PySem.W.Frag) (ρ : List Addr) (H : Hp) : List (D × D) → List (Key × V) → Prop := Paired fun p q => leafK p.1 = some q.1 ∧ Rep K ρ H p.2 q.2
/-- .. with tuple keys -/
def TPairs (K : PySem.W.Frag) (ρ : List Addr) (H : Hp) : List (D × D) → List (NestedKey × Addr × Value) → Prop :=
  Paired fun p q => kk p.1 = 2 ∧ q.1 = nkey p.1 ∧ Rep K ρ H p.1 (.ref q.2.1) ∧ ∃ v, RelV v q.2.2 ∧ Rep K ρ H p.2 v
/-- what is written at an address, open or locked -/
def At (H : Hp) (lk : Bool) (a : Addr) (u : HO) : Prop := if lk = true then ∃ o, H a = some (.frz o u) else H a = some u
def DRep (P : Program) (w : World) (K : PySem.W.Frag) (ρ : List Addr) (H : Hp) (lk : Bool) (kvs : List (D × D)) (a : Addr) : Prop :=
  kvs.length ≤ sizeLine ∧ (a == sysModules) = false ∧
  ((∃ kv, At H lk a (.dK kv) ∧ LPairs K ρ H kvs kv) ∨ (kvs ≠ [] ∧ ∃ xs, At H lk a (.ext (rawD P w a xs)) ∧ TPairs K ρ H kvs xs ∧ (xs.map (·.1)).Nodup))
def FRep (nm : Nm) (K : PySem.W.Frag) (ρ : List Addr) (H : Hp) : List (Nat × D) → List (Str × V) → Prop :=
  Paired fun p q => nm.aN[p.1]? = some q.1 ∧ p.1 < nm.nf ∧ Rep K ρ H p.2 q.2
def ORep (nm : Nm) (P : Program) (w : World) (K : PySem.W.Frag) (ρ : List Addr) (H : Hp) : Ob → Addr → Prop
  | .lst xs, a => ∃ vs, H a = some (.lst vs) ∧ Reps K ρ H xs vs
  | .flst xs, a => ∃ vs, Rd H a (.lst vs) ∧ Reps K ρ H xs vs ∧ ∃ ns : List Int, xs = ns.map .int
  | .dct lk kvs, a => DRep P w K ρ H lk kvs a
  | .ins c fs, a => ∃ C dx fv, nm.cA[c]? = some C ∧ H a = some (.ins C dx fv) ∧ FRep nm K ρ H fs fv
  | .tab i, a => ∃ q ps, nm.tA[i]? = some (a, q) ∧ H a = some (.tbl ps) ∧ TriplesOk ps.toList ∧ ∀ (pos : Pos) (cv : Value), codeAmong pos ps.toList = some cv → ∃ c, cv = .ref c ∧ H c = some (LamX.CodeO c q) ∧ c ∉ ρ
/-- what the captured names hold -/
def CtOk (K : PySem.W.Frag) (ρ : List Addr) (H : Hp) : Prop := ∀ g, LL.ct = some g → ∀ (j : Nat) (x : Str) (c : Addr) (d : D), LL.gn[j]? = some x ∧ LL.own.lookup x = some c → g[j]? = some (some d) → ∃ u v, LL.cb.IsCell c (some u) ∧ RelV v u ∧ Rep K ρ H d v
theorem CtOk.imp {K : PySem.W.Frag} {ρ ρ' : List Addr} {H H' : Hp} (h : CtOk K ρ H) (f : ∀ d v, Rep K ρ H d v → Rep K ρ' H' d v) : CtOk K ρ' H' := fun g hg j x c d h1 h2 => let ⟨u, v, a, b, r⟩ := h g hg j x c d h1 h2; ⟨u, v, a, b, f d v r⟩
structure SRel (nm : Nm) (P : Program) (w : World) (K : PySem.W.Frag) (ρ : List Addr) (H : Hp) (st : Store) : Prop where
  nd : ρ.Nodup
  sz : st.sz = ρ.length
  ob : ∀ (n : Nat) (a : Addr), ρ[n]? = some a → ∃ o, st.get n = some o ∧ ORep nm P w K ρ H o a
  ct : CtOk K ρ H

/-- from one moment to a later one -/
structure Step (ρ : List Addr) (H : Hp) (ρ' : List Addr) (H' : Hp) : Prop where
  ext : ∀ (n : Nat) (a : Addr), ρ[n]? = some a → ρ'[n]? = some a
  keep : ∀ a o, H a = some o → a ∉ ρ → H' a = some o ∧ a ∉ ρ'
  frz : ∀ a o u, H a = some (.frz o u) → H' a = some (.frz o u)
theorem Step.refl (ρ : List Addr) (H : Hp) : Step ρ H ρ H := ⟨fun _ _ h => h, fun _ _ h n => ⟨h, n⟩, fun _ _ _ h => h⟩
theorem Step.trans {ρ ρ1 ρ2 : List Addr} {H H1 H2 : Hp} (a : Step ρ H ρ1 H1) (b : Step ρ1 H1 ρ2 H2) : Step ρ H ρ2 H2 :=
  ⟨fun n x h => b.ext n x (a.ext n x h), fun x o h n => let ⟨h1, n1⟩ := a.keep x o h n; b.keep x o h1 n1, fun x o u h => b.frz x o u (a.frz x o u h)⟩

/-- a step at which lists beside the store may change -/
structure StepI (ρ : List Addr) (H : Hp) (ρ' : List Addr) (H' : Hp) : Prop where
  ext : ∀ (n : Nat) (a : Addr), ρ[n]? = some a → ρ'[n]? = some a
  keep : ∀ a o, H a = some o → a ∉ ρ → (∀ xs, o ≠ .lst xs) → H' a = some o ∧ a ∉ ρ'
  frz : ∀ a o u, H a = some (.frz o u) → H' a = some (.frz o u)
theorem Step.toI {ρ ρ' : List Addr} {H H' : Hp} (h : Step ρ H ρ' H') : StepI ρ H ρ' H' := ⟨h.ext, fun a o e n _ => h.keep a o e n, h.frz⟩
theorem StepI.trans {ρ ρ1 ρ2 : List Addr} {H H1 H2 : Hp} (a : StepI ρ H ρ1 H1) (b : StepI ρ1 H1 ρ2 H2) : StepI ρ H ρ2 H2 :=
  ⟨fun n x h => b.ext n x (a.ext n x h), fun x o h n z => let ⟨h1, n1⟩ := a.keep x o h n z; b.keep x o h1 n1 z, fun x o u h => b.frz x o u (a.frz x o u h)⟩

section
variable {nm : Nm} {P : Program} {w : World} {K : PySem.W.Frag} {ρ ρ' : List Addr} {H H' : Hp} {st : Store}
/-- what an address of the store may hold -/
theorem SRel.kind (S : SRel nm P w K ρ H st) {a : Addr} (h : a ∈ ρ) : ∃ o, H a = some o ∧ (∀ xs, o ≠ .tup xs) ∧ (∀ u xs, o ≠ .frz u (.tup xs)) ∧ ∀ x, o ≠ .own x := by
  obtain ⟨n, hn⟩ := List.getElem?_of_mem h
  obtain ⟨o, _, r⟩ := S.ob n a hn
  cases o with
  | lst xs => obtain ⟨vs, e, _⟩ := r; exact ⟨_, e, (fun _ z => by cases z), (fun _ _ z => by cases z), (fun _ z => by cases z)⟩
  | flst xs =>
    obtain ⟨vs, e, _⟩ := r
    rcases e with e | ⟨u, e⟩
    · exact ⟨_, e, (fun _ z => by cases z), (fun _ _ z => by cases z), (fun _ z => by cases z)⟩
    · exact ⟨_, e, (fun _ z => by cases z), (fun _ _ z => by cases z), (fun _ z => by cases z)⟩
  | tab i => obtain ⟨q, ps, _, e, _⟩ := r; exact ⟨_, e, (fun _ z => by cases z), (fun _ _ z => by cases z), (fun _ z => by cases z)⟩
  | dct lk kvs =>
    obtain ⟨_, _, r⟩ := r
    rcases r with ⟨kv, e, _⟩ | ⟨_, xs, e, _⟩
    · cases lk with
      | false => exact ⟨_, e, (fun _ z => by cases z), (fun _ _ z => by cases z), (fun _ z => by cases z)⟩
      | true => obtain ⟨u, e⟩ := e; exact ⟨_, e, (fun _ z => by cases z), (fun _ _ z => by cases z), (fun _ z => by cases z)⟩
    · cases lk with
      | false => exact ⟨_, e, (fun _ z => by cases z), (fun _ _ z => by cases z), (fun _ z => by cases z)⟩
      | true => obtain ⟨u, e⟩ := e; exact ⟨_, e, (fun _ z => by cases z), (fun _ _ z => by cases z), (fun _ z => by cases z)⟩
  | ins c fs => obtain ⟨C, dx, fv, _, e, _⟩ := r; exact ⟨_, e, (fun _ z => by cases z), (fun _ _ z => by cases z), (fun _ z => by cases z)⟩
theorem SRel.notup (S : SRel nm P w K ρ H st) {a : Addr} {xs : List V} (h : Rd H a (.tup xs)) : a ∉ ρ := fun hm => by
  obtain ⟨o, e, h1, h2, _⟩ := S.kind hm
  rcases h with h | ⟨u, h⟩
  · rw [e] at h; exact h1 _ (Option.some.inj h)
  · rw [e] at h; exact h2 _ _ (Option.some.inj h)
theorem SRel.live (S : SRel nm P w K ρ H st) {a : Addr} (h : a ∈ ρ) : H a ≠ none := by
  obtain ⟨o, e, _⟩ := S.kind h
  rw [e]; intro z; cases z
theorem Step.tup (S : SRel nm P w K ρ H st) (h : Step ρ H ρ' H') {a : Addr} {xs : List V} (q : SqT K H a xs) : SqT K H' a xs := by
  rcases q with q | q
  · have hn := S.notup q
    rcases q with q | ⟨o, q⟩
    · exact .inl (.inl (h.keep a _ q hn).1)
    · exact .inl (.inr ⟨o, (h.keep a _ q hn).1⟩)
  · exact .inr q
theorem StepI.tup (S : SRel nm P w K ρ H st) (h : StepI ρ H ρ' H') {a : Addr} {xs : List V} (q : SqT K H a xs) : SqT K H' a xs := by
  rcases q with q | q
  · have hn := S.notup q
    rcases q with q | ⟨o, q⟩
    · exact .inl (.inl (h.keep a _ q hn fun _ z => by cases z).1)
    · exact .inl (.inr ⟨o, (h.keep a _ q hn fun _ z => by cases z).1⟩)
  · exact .inr q
theorem fnO_ne {L : LamT} {cl : List (Str × Addr)} {c f : Addr} (xs : List V) : FnO L cl c f ≠ .lst xs := fun z => by
  unfold FnO at z
  cases z
theorem codeO_nl {c : Addr} {q : Str} (xs : List V) : LamX.CodeO c q ≠ .lst xs := fun z => by
  unfold LamX.CodeO at z
  cases z
mutual
theorem Rep.monoI (S : SRel nm P w K ρ H st) (h : StepI ρ H ρ' H') : ∀ (d : D) (v : V), Rep K ρ H d v → Rep K ρ' H' d v
  | .non, _, .non => .non
  | .bl b, _, .bl _ => .bl b
  | .int i, _, .int _ => .int i
  | .str x, _, .str _ => .str x
  | .tup xs, _, .tup q r => .tup (h.tup S q) (Reps.monoI S h xs _ r)
  | .ref n, _, .ref q => .ref (h.ext n _ q)
  | .fn k, _, .fn a b c d e g y => .fn a (h.keep _ _ b c fun _ z => fnO_ne _ z).1 (h.keep _ _ b c fun _ z => fnO_ne _ z).2 (h.keep _ _ d e fun _ z => codeO_nl _ z).1 (h.keep _ _ d e fun _ z => codeO_nl _ z).2 g y
  | .fn k, _, .err z => .err z
theorem Reps.monoI (S : SRel nm P w K ρ H st) (h : StepI ρ H ρ' H') : ∀ (d : List D) (v : List V), Reps K ρ H d v → Reps K ρ' H' d v
  | [], _, .nil => .nil
  | x :: xs, _, .cons a b => .cons (Rep.monoI S h x _ a) (Reps.monoI S h xs _ b)
end
mutual
theorem Rep.mono (S : SRel nm P w K ρ H st) (h : Step ρ H ρ' H') : ∀ (d : D) (v : V), Rep K ρ H d v → Rep K ρ' H' d v
  | .non, _, .non => .non
  | .bl b, _, .bl _ => .bl b
  | .int i, _, .int _ => .int i
  | .str x, _, .str _ => .str x
  | .tup xs, _, .tup q r => .tup (h.tup S q) (Reps.mono S h xs _ r)
  | .ref n, _, .ref q => .ref (h.ext n _ q)
  | .fn k, _, .fn a b c d e g y => .fn a (h.keep _ _ b c).1 (h.keep _ _ b c).2 (h.keep _ _ d e).1 (h.keep _ _ d e).2 g y
  | .fn k, _, .err z => .err z
theorem Reps.mono (S : SRel nm P w K ρ H st) (h : Step ρ H ρ' H') : ∀ (d : List D) (v : List V), Reps K ρ H d v → Reps K ρ' H' d v
  | [], _, .nil => .nil
  | x :: xs, _, .cons a b => .cons (Rep.mono S h x _ a) (Reps.mono S h xs _ b)
end
theorem Reps.length : ∀ {d : List D} {v : List V}, Reps K ρ H d v → d.length = v.length
  | [], _, .nil => rfl
  | _ :: _, _, .cons _ b => congrArg (· + 1) (Reps.length b)
theorem Reps.append : ∀ {d e : List D} {v u : List V}, Reps K ρ H d v → Reps K ρ H e u → Reps K ρ H (d ++ e) (v ++ u)
  | [], _, _, _, .nil, q => q
  | _ :: _, _, _, _, .cons a b, q => .cons a (Reps.append b q)
theorem Reps.get : ∀ {d : List D} {v : List V} {i : Nat} {x : D}, Reps K ρ H d v → d[i]? = some x → ∃ u, v[i]? = some u ∧ Rep K ρ H x u
  | [], _, _, _, .nil, e => by simp at e
  | _ :: _, _, 0, _, .cons a _, e => by simp at e; subst e; exact ⟨_, rfl, a⟩
  | _ :: _, _, i + 1, x, .cons _ b, e => by
    obtain ⟨u, h1, h2⟩ := Reps.get (i := i) (x := x) b (by simpa using e)
    exact ⟨u, by simpa using h1, h2⟩
theorem Reps.getV : ∀ {d : List D} {v : List V} {i : Nat} {u : V}, Reps K ρ H d v → v[i]? = some u → ∃ x, d[i]? = some x ∧ Rep K ρ H x u
  | [], _, _, _, .nil, e => by simp at e
  | _ :: _, _, 0, _, .cons a _, e => by simp at e; subst e; exact ⟨_, rfl, a⟩
  | _ :: _, _, i + 1, x, .cons _ b, e => by
    obtain ⟨u, h1, h2⟩ := Reps.getV (i := i) (u := x) b (by simpa using e)
    exact ⟨u, by simpa using h1, h2⟩
theorem Reps.set {x : D} {u : V} (r : Rep K ρ H x u) : ∀ {d : List D} {v : List V} (i : Nat), Reps K ρ H d v → Reps K ρ H (d.set i x) (v.set i u)
  | _, _, _, .nil => .nil
  | _, _, 0, .cons _ t => .cons r t
  | _, _, i + 1, .cons q t => .cons q (Reps.set r i t)
theorem Reps.drop : ∀ {d : List D} {v : List V} (n : Nat), Reps K ρ H d v → Reps K ρ H (d.drop n) (v.drop n)
  | _, _, 0, r => r
  | _, _, _ + 1, .nil => .nil
  | _, _, n + 1, .cons _ t => Reps.drop n t
theorem Reps.take : ∀ {d : List D} {v : List V} (n : Nat), Reps K ρ H d v → Reps K ρ H (d.take n) (v.take n)
  | _, _, 0, _ => .nil
  | _, _, _ + 1, .nil => .nil
  | _, _, n + 1, .cons r t => .cons r (Reps.take n t)
theorem Reps.eraseIdx : ∀ {d : List D} {v : List V} (n : Nat), Reps K ρ H d v → Reps K ρ H (d.eraseIdx n) (v.eraseIdx n)
  | _, _, _, .nil => by simp; exact .nil
  | _, _, 0, .cons _ t => by simpa using t
  | _, _, n + 1, .cons r t => by simp only [List.eraseIdx_cons_succ]; exact .cons r (Reps.eraseIdx n t)
theorem Reps.reverse : ∀ {d : List D} {v : List V}, Reps K ρ H d v → Reps K ρ H d.reverse v.reverse
  | _, _, .nil => .nil
  | _, _, .cons r t => by
    simp only [List.reverse_cons]
    exact (Reps.reverse t).append (.cons r .nil)
theorem Reps.dropLast : ∀ {d : List D} {v : List V}, Reps K ρ H d v → Reps K ρ H d.dropLast v.dropLast := fun {d v} r => by
  rw [List.dropLast_eq_take, List.dropLast_eq_take, ← r.length]
  exact r.take _
theorem Reps.replicate : ∀ (n : Nat) {d : List D} {v : List V}, Reps K ρ H d v → Reps K ρ H (List.replicate n d).flatten (List.replicate n v).flatten
  | 0, _, _, _ => .nil
  | n + 1, _, _, r => by
    simp only [List.replicate_succ, List.flatten_cons]
    exact r.append (Reps.replicate n r)
theorem paired_imp {α β : Type} {F G : α → β → Prop} : ∀ {l : List α} {m : List β}, Paired F l m → (∀ a b, F a b → G a b) → Paired G l m
  | _, _, .nil, _ => .nil
  | _, _, .cons r t, f => .cons (f _ _ r) (paired_imp t f)
/-- what is not changed stays what it was -/
theorem ORep.mono (S : SRel nm P w K ρ H st) (h : Step ρ H ρ' H') {o : Ob} {a : Addr} (e : H' a = H a) (r : ORep nm P w K ρ H o a) : ORep nm P w K ρ' H' o a := by
  cases o with
  | lst xs => obtain ⟨vs, q, r⟩ := r; exact ⟨vs, e.trans q, Reps.mono S h _ _ r⟩
  | flst xs => obtain ⟨vs, q, r, z⟩ := r; exact ⟨vs, q.imp e.trans fun ⟨u, q⟩ => ⟨u, e.trans q⟩, Reps.mono S h _ _ r, z⟩
  | tab i =>
    obtain ⟨q, ps, a1, a2, a3, a4⟩ := r
    refine ⟨q, ps, a1, e.trans a2, a3, fun pos cv hc => ?_⟩
    obtain ⟨c, h1, h2, h3⟩ := a4 pos cv hc
    exact ⟨c, h1, h.keep c _ h2 h3⟩
  | dct lk kvs =>
    obtain ⟨z, y, r⟩ := r
    have hat : ∀ u, At H lk a u → At H' lk a u := fun u q => by
      unfold At at q ⊢
      rw [e]; exact q
    refine ⟨z, y, ?_⟩
    rcases r with ⟨kv, q, r⟩ | ⟨ne, xs, q, r, n⟩
    · exact .inl ⟨kv, hat _ q, paired_imp r fun p q z => ⟨z.1, Rep.mono S h _ _ z.2⟩⟩
    · exact .inr ⟨ne, xs, hat _ q, paired_imp r fun p q z => ⟨z.1, z.2.1, Rep.mono S h _ _ z.2.2.1, let ⟨v, h1, h2⟩ := z.2.2.2; ⟨v, h1, Rep.mono S h _ _ h2⟩⟩, n⟩
  | ins c fs => obtain ⟨C, dx, fv, c1, q, r⟩ := r; exact ⟨C, dx, fv, c1, e.trans q, paired_imp r fun p q z => ⟨z.1, z.2.1, Rep.mono S h _ _ z.2.2⟩⟩

/-! ### the store grows, an object is changed -/
theorem get_app {ρ : List Addr} {p a : Addr} {n : Nat} (h : (ρ ++ [p])[n]? = some a) : (n < ρ.length ∧ ρ[n]? = some a) ∨ (n = ρ.length ∧ a = p) := by
  by_cases hn : n < ρ.length
  · rw [List.getElem?_append_left hn] at h; exact .inl ⟨hn, h⟩
  · rw [List.getElem?_append_right (by omega)] at h
    have : n - ρ.length = 0 := by
      cases q : n - ρ.length with
      | zero => rfl
      | succ m => rw [q] at h; simp at h
    rw [this] at h
    simp at h
    exact .inr ⟨by omega, h.symm⟩
theorem CtOk.mono (S : SRel nm P w K ρ H st) (h : Step ρ H ρ' H') : CtOk K ρ' H' := fun g hg j x c d h1 h2 => let ⟨u, v, a, b, r⟩ := S.ct g hg j x c d h1 h2; ⟨u, v, a, b, Rep.mono S h _ _ r⟩
theorem CtOk.monoI (S : SRel nm P w K ρ H st) (h : StepI ρ H ρ' H') : CtOk K ρ' H' := fun g hg j x c d h1 h2 => let ⟨u, v, a, b, r⟩ := S.ct g hg j x c d h1 h2; ⟨u, v, a, b, Rep.monoI S h _ _ r⟩
/-- a new object p, tracked as o, is put at the store's end; hH: only p differs -/
theorem SRel.grow (S : SRel nm P w K ρ H st) {p : Addr} {ob : Ob} (hp : H p = none) (hs : ∀ a, a ≠ p → H a ≠ none → H' a = H a) (r : Step ρ H (ρ ++ [p]) H' → ORep nm P w K (ρ ++ [p]) H' ob p) (hne : H' p ≠ none := by rw [upd_same]; intro z; cases z) :
    SRel nm P w K (ρ ++ [p]) H' (st.add ob) ∧ Step ρ H (ρ ++ [p]) H' := by
  have hnp : p ∉ ρ := fun z => S.live z hp
  have stp : Step ρ H (ρ ++ [p]) H' := ⟨fun n a h => by rw [List.getElem?_append_left (List.getElem?_eq_some_iff.mp h).1]; exact h, fun a o h n => by
    have ne : a ≠ p := ne_of_none h hp
    refine ⟨(hs a ne (by rw [h]; intro z; cases z)).trans h, fun z => ?_⟩
    rcases List.mem_append.mp z with z | z
    · exact n z
    · exact ne (by simpa using z), fun a o u h => (hs a (ne_of_none h hp) (by rw [h]; intro z; cases z)).trans h⟩
  refine ⟨⟨?_, ?_, fun n a h => ?_, CtOk.mono S stp⟩, stp⟩
  · rw [List.nodup_append]
    refine ⟨S.nd, by simp, fun a ha b hb => ?_⟩
    simp at hb
    subst hb
    exact fun e => hnp (e ▸ ha)
  · rw [Store.add_sz, S.sz]; simp
  · rcases get_app h with ⟨hl, h⟩ | ⟨rfl, rfl⟩
    · obtain ⟨o, g, q⟩ := S.ob n a h
      refine ⟨o, ?_, ?_⟩
      · rw [Store.get_add_ne (by rw [S.sz]; omega)]; exact g
      · have hm : a ∈ ρ := List.mem_of_getElem? h
        have ne : a ≠ p := fun e => hnp (e ▸ hm)
        exact ORep.mono S stp (hs a ne (S.live hm)) q
    · refine ⟨ob, ?_, r stp⟩
      rw [← S.sz]
      exact Store.get_add_self
/-- the object at the n-th place is changed -/
theorem SRel.change (S : SRel nm P w K ρ H st) {n : Nat} {a : Addr} {ob : Ob} (ha : ρ[n]? = some a) (hnf : ∀ o u, H a ≠ some (.frz o u)) (hs : ∀ b, b ≠ a → H' b = H b) (r : Step ρ H ρ H' → ORep nm P w K ρ H' ob a) :
    SRel nm P w K ρ H' (st.set n ob) ∧ Step ρ H ρ H' := by
  have hm : a ∈ ρ := List.mem_of_getElem? ha
  have stp : Step ρ H ρ H' := ⟨fun _ _ h => h, fun b o h nb => by
    have ne : b ≠ a := fun e => nb (e ▸ hm)
    exact ⟨(hs b ne).trans h, nb⟩, fun b o u h => (hs b (fun e => hnf o u (e ▸ h))).trans h⟩
  have hlt : n < st.sz := by rw [S.sz]; exact (List.getElem?_eq_some_iff.mp ha).1
  refine ⟨⟨S.nd, by rw [Store.set_sz, S.sz], fun m b h => ?_, CtOk.mono S stp⟩, stp⟩
  by_cases e : m = n
  · subst e
    rw [ha] at h
    cases h
    exact ⟨ob, Store.get_set_self hlt, r stp⟩
  · obtain ⟨o, g, q⟩ := S.ob m b h
    refine ⟨o, ?_, ?_⟩
    · rw [Store.get_set_ne e]; exact g
    · refine ORep.mono S stp (hs b fun z => ?_) q
      subst z
      obtain ⟨h1, e1⟩ := List.getElem?_eq_some_iff.mp ha
      obtain ⟨h2, e2⟩ := List.getElem?_eq_some_iff.mp h
      exact e ((List.getElem_inj S.nd).mp (e2.trans e1.symm))
end
end VI
/-! VIc: results, and operations by values. -/
namespace VI
open PySem PySem.Spec PyProof.Rows L2
variable [LL]

/-- what the program has, as it stands on the machine -/
structure Md where
  nm : Nm
  T : Tbl
  F : Nat
  call : Caller
  /-- where the exceptions' classes stand -/
  xA : List Addr

def XRep (K : PySem.W.Frag) (ρ : List Addr) (H : Hp) (x : D) (o : Option Addr) : Prop :=
  (x = .non ∧ o = none) ∨ ∃ d v, x ≠ .non ∧ o = some d ∧ H d = some (.xd [("row", v)]) ∧ Rep K ρ H x v

section
variable (m : Md) (E : XK) (X : Cx)
abbrev Rel (ρ : List Addr) (H : Hp) (st : Store) : Prop := SRel m.nm X.prog X.w X.K ρ H st
/-- what is wanted behind a result -/
def Fin {α β : Type} (ρ : List Addr) (H : Hp) (r : R α) (rep : List Addr → Hp → α → β → Prop) (Q : β → Hp → Prop) : Prop := match r with
  | .ok a st => ∀ ρ' H' b, Step ρ H ρ' H' → Rel m X ρ' H' st → rep ρ' H' a b → Q b H'
  | .exc c x st => ∀ ρ' H' o C, Step ρ H ρ' H' → Rel m X ρ' H' st → m.xA[c]? = some C → XRep X.K ρ' H' x o → E (.ref C) o H'
  | .stuck => False
abbrev rD (ρ : List Addr) (H : Hp) (d : D) (v : V) : Prop := Rep X.K ρ H d v
abbrev rDs (ρ : List Addr) (H : Hp) (d : List D) (v : List V) : Prop := Reps X.K ρ H d v
abbrev rB (ρ : List Addr) (H : Hp) (d : Bool) (v : Bool) : Prop := v = d
structure ERel (ρ : List Addr) (H : Hp) (env : Env) (σ : L2.St) : Prop where
  len : env.length = σ.length
  at_ : ∀ (i : Nat) (d : D), env[i]? = some (some d) → ∃ v, σ[i]? = some (some v) ∧ Rep X.K ρ H d v
end

section
variable {m : Md} {E : XK} {X : Cx} {ρ ρ1 : List Addr} {H H1 : Hp} {st : Store}
theorem Fin.step {α β : Type} {r : R α} {rep : List Addr → Hp → α → β → Prop} {Q : β → Hp → Prop} (h : Fin m E X ρ H r rep Q) (s : Step ρ H ρ1 H1) : Fin m E X ρ1 H1 r rep Q := by
  cases r with
  | ok a st => exact fun ρ' H' b s' => h ρ' H' b (s.trans s')
  | exc c x st => exact fun ρ' H' o C s' => h ρ' H' o C (s.trans s')
  | stuck => exact h
theorem Fin.bind {α α2 β β2 : Type} {r : R α} {f : α → Store → R α2} {rep : List Addr → Hp → α → β → Prop} {rep2 : List Addr → Hp → α2 → β2 → Prop} {Q : β2 → Hp → Prop} {Q1 : β → Hp → Prop}
    (h : Fin m E X ρ H (r.bind f) rep2 Q) (hq : ∀ a st1 ρ1 H1 b, Step ρ H ρ1 H1 → Rel m X ρ1 H1 st1 → rep ρ1 H1 a b → Fin m E X ρ1 H1 (f a st1) rep2 Q → Q1 b H1) : Fin m E X ρ H r rep Q1 := by
  cases r with
  | ok a st => exact fun ρ' H' b s S rp => hq a st ρ' H' b s S rp (Fin.step h s)
  | exc c x st => exact h
  | stuck => exact h
theorem Fin.opt {α β : Type} {o : Option α} {rep : List Addr → Hp → α → β → Prop} {Q : β → Hp → Prop} (h : Fin m E X ρ H (ofOpt o st) rep Q) : ∃ a, o = some a ∧ Fin m E X ρ H (.ok a st) rep Q := by
  cases o with
  | none => exact h.elim
  | some a => exact ⟨a, rfl, h⟩
theorem ERel.mono {env : Env} {σ : L2.St} (S : Rel m X ρ H st) (s : Step ρ H ρ1 H1) (e : ERel X ρ H env σ) : ERel X ρ1 H1 env σ :=
  ⟨e.len, fun i d h => let ⟨v, h1, h2⟩ := e.at_ i d h; ⟨v, h1, Rep.mono S s _ _ h2⟩⟩
/-- nothing is new -/
theorem Fin.now {α β : Type} {a : α} {b : β} {rep : List Addr → Hp → α → β → Prop} {Q : β → Hp → Prop} (h : Fin m E X ρ H (.ok a st) rep Q) (S : Rel m X ρ H st) (r : rep ρ H a b) : Q b H := h ρ H b (Step.refl _ _) S r
/-- something is laid that the store doesn't hold -/
theorem SRel.other {nm : Nm} {P : Program} {w : World} {K : PySem.W.Frag} (S : SRel nm P w K ρ H st) {p : Addr} {o : HO} (hp : H p = none) : SRel nm P w K ρ (upd H p o) st ∧ Step ρ H ρ (upd H p o) := by
  have hnp : p ∉ ρ := fun z => S.live z hp
  have stp : Step ρ H ρ (upd H p o) := ⟨fun _ _ h => h, fun a u h n => ⟨by rw [upd_ne (ne_of_none h hp)]; exact h, n⟩, fun a o u h => by rw [upd_ne (ne_of_none h hp)]; exact h⟩
  refine ⟨⟨S.nd, S.sz, fun n a h => ?_, CtOk.mono S stp⟩, stp⟩
  obtain ⟨ob, g, q⟩ := S.ob n a h
  refine ⟨ob, g, ORep.mono S stp (upd_ne fun e => ?_) q⟩
  subst e
  exact hnp (List.mem_of_getElem? h)
theorem Fin.tup {xs : List D} {vs : List V} {Q : VK} (h : Fin m E X ρ H (.ok (.tup xs) st) (rD X) Q) (S : Rel m X ρ H st) (r : Reps X.K ρ H xs vs) {p : Addr} (hp : H p = none) : Q (.ref p) (upd H p (.tup vs)) := by
  obtain ⟨S', s⟩ := SRel.other (o := .tup vs) S hp
  exact h ρ _ _ s S' (.tup (SqT.of upd_same) (Reps.mono S s _ _ r))
theorem Fin.lst {xs : List D} {vs : List V} {Q : VK} (h : Fin m E X ρ H (.ok (.ref st.sz) (st.add (.lst xs))) (rD X) Q) (S : Rel m X ρ H st) (r : Reps X.K ρ H xs vs) {p : Addr} (hp : H p = none) : Q (.ref p) (upd H p (.lst vs)) := by
  obtain ⟨S', s⟩ := SRel.grow (H' := upd H p (.lst vs)) (ob := .lst xs) S hp (fun a ha _ => upd_ne ha) (fun s => ⟨vs, upd_same, Reps.mono S s _ _ r⟩)
  refine h _ _ _ s S' (.ref ?_)
  rw [S.sz, List.getElem?_append_right (Nat.le_refl _)]
  simp
/-- a list of the store is changed -/
theorem SRel.lset {nm : Nm} {P : Program} {w : World} {K : PySem.W.Frag} (S : SRel nm P w K ρ H st) {n : Nat} {a : Addr} {ys : List D} {us vs : List V} (ha : ρ[n]? = some a) (e : H a = some (.lst vs)) (r : Reps K ρ H ys us) :
    SRel nm P w K ρ (upd H a (.lst us)) (st.set n (.lst ys)) ∧ Step ρ H ρ (upd H a (.lst us)) :=
  SRel.change (H' := upd H a (.lst us)) (ob := .lst ys) S ha (fun o u z => by rw [e] at z; cases z) (fun b hb => upd_ne hb) (fun s => ⟨us, upd_same, Reps.mono S s _ _ r⟩)
/-- what a reference is -/
theorem SRel.lst_at {nm : Nm} {P : Program} {w : World} {K : PySem.W.Frag} (S : SRel nm P w K ρ H st) {n : Nat} {a : Addr} {xs : List D} (ha : ρ[n]? = some a) (g : st.get n = some (.lst xs)) : ∃ vs, H a = some (.lst vs) ∧ Reps K ρ H xs vs := by
  obtain ⟨o, g', r⟩ := S.ob n a ha
  rw [g] at g'; cases g'
  exact r
theorem SRel.flst_at {nm : Nm} {P : Program} {w : World} {K : PySem.W.Frag} (S : SRel nm P w K ρ H st) {n : Nat} {a : Addr} {xs : List D} (ha : ρ[n]? = some a) (g : st.get n = some (.flst xs)) : ∃ vs, Rd H a (.lst vs) ∧ Reps K ρ H xs vs := by
  obtain ⟨o, g', r⟩ := S.ob n a ha
  rw [g] at g'; cases g'
  obtain ⟨vs, q, r, _⟩ := r
  exact ⟨vs, q, r⟩
theorem SRel.lists {nm : Nm} {P : Program} {w : World} {K : PySem.W.Frag} (S : SRel nm P w K ρ H st) {n : Nat} {a : Addr} {xs : List D} (ha : ρ[n]? = some a) (g : lists? st n = some xs) : ∃ vs, SqL K H a vs ∧ Reps K ρ H xs vs := by
  unfold lists? at g
  split at g
  · cases g
    obtain ⟨vs, h, r⟩ := S.lst_at ha (by assumption)
    exact ⟨vs, SqL.of h, r⟩
  · cases g
    obtain ⟨vs, h, r⟩ := S.flst_at ha (by assumption)
    exact ⟨vs, .inl h, r⟩
  · cases g

/-! ### by values: what is asked -/
/-- two values -/
def R2D (m : Md) (E : XK) (X : Cx) (f : D → D → Store → R D) : R2 := fun x y H Q => ∃ ρ st d e, Rel m X ρ H st ∧ Rep X.K ρ H d x ∧ Rep X.K ρ H e y ∧ Fin m E X ρ H (f d e st) (rD X) Q
/-- some values -/
def RLD (m : Md) (E : XK) (X : Cx) (f : List D → Store → R D) : List V → Hp → VK → Prop := fun xs H Q => ∃ ρ st ds, Rel m X ρ H st ∧ Reps X.K ρ H ds xs ∧ Fin m E X ρ H (f ds st) (rD X) Q

theorem line_eq : line = sizeLine := by rw [sizeLine_eq]; rfl
theorem small64_ok {i : Int} (h : small64 i = true) : -(2 ^ 64) < i ∧ i < 2 ^ 64 := by
  unfold small64 at h
  simp only [Bool.and_eq_true, decide_eq_true_eq] at h
  exact ⟨by omega, by omega⟩
end
end VI
/-! VId: the operators by values. -/
namespace VI
open PySem PySem.Spec PyProof.Rows L2
variable [LL]
section
variable {m : Md} {E : XK} {X : Cx}

theorem bin_add : OpR X (binaryOp .Add) (R2D m E X (binV .add)) := by
  intro pins s σ H x y v u Q I rx ry h
  obtain ⟨ρ, st, d, e, S, r1, r2, hf⟩ := h
  cases r1 with
  | int i =>
    cases r2 with
    | int j => exact L2.op_add pins s σ H _ _ v u Q I rx ry ⟨i, j, rfl, rfl, hf.now S (.int _)⟩
    | _ => exact hf.elim
  | str x =>
    cases r2 with
    | str y =>
      unfold binV at hf
      simp only at hf
      split at hf
      · rename_i hl
        refine L2.op_add_str pins s σ H _ _ v u Q I rx ry ⟨toS x, toS y, rfl, rfl, ?_, ?_⟩
        · rw [toS_len, toS_len, ← line_eq]; exact hl
        · rw [toS_app]; exact hf.now S (.str _)
      · exact hf.elim
    | _ => exact hf.elim
  | tup q1 r1 =>
    cases r2 with
    | tup q2 r2 =>
      unfold binV at hf
      simp only at hf
      split at hf
      · rename_i hl
        refine L2.op_catA pins s σ H _ _ v u Q I rx ry ⟨_, _, _, _, rfl, rfl, q1, q2, ?_, fun e => ?_, fun _ e => ?_, fun _ _ p hp => ?_⟩
        · rw [← r1.length, ← r2.length, ← line_eq]; exact hl
        · subst e
          cases r1
          exact hf.now S (.tup q2 r2)
        · subst e
          cases r2
          rw [List.append_nil] at hf
          exact hf.now S (.tup q1 r1)
        · exact hf.tup S (r1.append r2) hp
      · exact hf.elim
    | _ => exact hf.elim
  | ref h1 =>
    cases r2 with
    | ref h2 =>
      unfold binV at hf
      simp only at hf
      split at hf
      · rename_i xs ys g1 g2
        split at hf
        · rename_i hl
          obtain ⟨vs, e1, q1⟩ := S.lst_at h1 g1
          obtain ⟨us, e2, q2⟩ := S.lst_at h2 g2
          refine L2.op_cat pins s σ H _ _ v u Q I rx ry ⟨_, _, vs, us, rfl, rfl, e1, e2, ?_, fun p hp => ?_⟩
          · rw [← q1.length, ← q2.length, ← line_eq]; exact hl
          · exact hf.lst S (q1.append q2) hp
        · exact hf.elim
      · exact hf.elim
    | _ => exact hf.elim
  | _ => exact (by cases r2 <;> exact hf.elim)
theorem bin_sub : OpR X (binaryOp .Sub) (R2D m E X (binV .sub)) := by
  intro pins s σ H x y v u Q I rx ry h
  obtain ⟨ρ, st, d, e, S, r1, r2, hf⟩ := h
  cases r1 with
  | int i =>
    cases r2 with
    | int j => exact L2.op_sub pins s σ H _ _ v u Q I rx ry ⟨i, j, rfl, rfl, hf.now S (.int _)⟩
    | _ => exact hf.elim
  | _ => exact (by cases r2 <;> exact hf.elim)
theorem bin_fdiv : OpR X (binaryOp .FloorDiv) (R2D m E X (binV .fdiv)) := by
  intro pins s σ H x y v u Q I rx ry h
  obtain ⟨ρ, st, d, e, S, r1, r2, hf⟩ := h
  cases r1 with
  | int i =>
    cases r2 with
    | int j =>
      unfold binV at hf
      simp only at hf
      split at hf
      · rename_i hc
        exact L2.op_fdiv pins s σ H _ _ v u Q I rx ry ⟨i, j, rfl, rfl, hc, hf.now S (.int _)⟩
      · exact hf.elim
    | _ => exact hf.elim
  | _ => exact (by cases r2 <;> exact hf.elim)
theorem bin_mod : OpR X (binaryOp .Mod) (R2D m E X (binV .mod)) := by
  intro pins s σ H x y v u Q I rx ry h
  obtain ⟨ρ, st, d, e, S, r1, r2, hf⟩ := h
  cases r1 with
  | int i =>
    cases r2 with
    | int j =>
      unfold binV at hf
      simp only at hf
      split at hf
      · rename_i hc
        exact L2.op_mod pins s σ H _ _ v u Q I rx ry ⟨i, j, rfl, rfl, hc, hf.now S (.int _)⟩
      · exact hf.elim
    | _ => exact hf.elim
  | _ => exact (by cases r2 <;> exact hf.elim)

theorem small3_ok {i : Int} (h : small3 i = true) : -1000 ≤ i ∧ i ≤ 1000 := by
  unfold small3 at h
  simp only [Bool.and_eq_true, decide_eq_true_eq] at h
  exact h
theorem rep_nil {α : Type} (n : Nat) : rep n ([] : List α) = [] := by simp [rep]
theorem rep_one {α : Type} (xs : List α) : rep 1 xs = xs := by simp [rep, List.replicate_succ]
theorem rep_zero {α : Type} (xs : List α) : rep 0 xs = [] := by simp [rep]
/-- t * n: the same object -/
theorem tuple_mul_same (l : Addr) (items : Array Value) (n : Nat) (dd : Option Addr) (sl : Array (Option Value)) (x : Int) (u : Tok) (c0 : (decide (x < -(2 ^ 63)) || decide (x ≥ 2 ^ 63)) = false) (c1 : (items.isEmpty || x == 1) = true) :
    Meets (Builtin.«tuple.__mul__» ⟨[.ref l, .int x u], []⟩) (fun _ R s => s.heap.get? l = some { cls := .type "tuple", dict := dd, data := .seq items n, slots := sl } ∧ R (.ok (.ret (Value.ref l))) s) :=
  .of_wp fun prog w A R s h => by
    obtain ⟨hp, g, d, tk, os⟩ := s
    obtain ⟨hl, h⟩ := h
    have f1 := AutoSeq1.idx_int
    wp_walk using wpAny_loadPart' hl
    repeat (first
      | (refine wpAny_ite_false (decide_eq_false (by rw [c0]; exact Bool.false_ne_true)) ?_; wp_walk using wpAny_loadPart' hl)
      | (refine wpAny_ite_true (decide_eq_true c1) ?_; wp_walk using wpAny_loadPart' hl))
    exact ⟨_, rfl, h⟩
theorem tuple_mul_none (l : Addr) (items : Array Value) (n : Nat) (dd : Option Addr) (sl : Array (Option Value)) (x : Int) (u : Tok) (c0 : (decide (x < -(2 ^ 63)) || decide (x ≥ 2 ^ 63)) = false) (c1 : (items.isEmpty || x == 1) = false) (c2 : (decide (x ≤ 0) || items.isEmpty) = true) :
    Meets (Builtin.«tuple.__mul__» ⟨[.ref l, .int x u], []⟩) (fun _ R s => s.heap.get? l = some { cls := .type "tuple", dict := dd, data := .seq items n, slots := sl } ∧
      R (.ok (.ret (Value.ref s.heap.objs.size))) { s with heap := s.heap.push { cls := Value.type "tuple", data := Data.seq #[] }, toks := s.toks }) :=
  .of_wp fun prog w A R s h => by
    obtain ⟨hp, g, d, tk, os⟩ := s
    obtain ⟨hl, h⟩ := h
    have f1 := AutoSeq1.idx_int
    wp_walk using wpAny_loadPart' hl
    repeat (first
      | (refine wpAny_ite_false (decide_eq_false (by rw [c0]; exact Bool.false_ne_true)) ?_; wp_walk using wpAny_loadPart' hl)
      | (refine wpAny_ite_false (decide_eq_false (by rw [c1]; exact Bool.false_ne_true)) ?_; wp_walk using wpAny_loadPart' hl)
      | (refine wpAny_ite_true (decide_eq_true c2) ?_; wp_walk using wpAny_loadPart' hl))
    exact ⟨_, rfl, h⟩
theorem foldl_repA (its : List Nat) : ∀ (k : Nat) (acc : List Nat), List.foldl (fun x1 x2 => x1 ++ x2) acc.toArray (List.replicate k its.toArray) = (acc ++ (List.replicate k its).flatten).toArray
  | 0, acc => by simp
  | k + 1, acc => by
    simp only [List.replicate_succ, List.foldl_cons, List.flatten_cons]
    have e : acc.toArray ++ its.toArray = (acc ++ its).toArray := by simp
    rw [e, foldl_repA its k (acc ++ its), List.append_assoc]
theorem rep_len {α : Type} (n : Nat) (xs : List α) : (rep n xs).length = n * xs.length := by
  unfold rep
  induction n with
  | zero => simp
  | succ n ih => rw [List.replicate_succ, List.flatten_cons, List.length_append, ih, Nat.add_mul]; omega
theorem c0_of {k : Int} (h : -1000 ≤ k ∧ k ≤ 1000) : (decide (k < -(2 ^ 63)) || decide (k ≥ 2 ^ 63)) = false := by
  rw [decide_eq_false (by omega), decide_eq_false (by omega)] <;> rfl
theorem bin_mul : OpR X (binaryOp .Mult) (R2D m E X (binV .mul)) := by
  intro pins s σ H x y v u Q I rx ry h
  obtain ⟨ρ, st, d, e, S, r1, r2, hf⟩ := h
  cases r2 with
  | int k =>
    cases r1 with
    | int i =>
      unfold binV at hf
      simp only at hf
      split at hf
      · rename_i hc
        simp only [Bool.or_eq_true] at hc
        exact L2.op_mul pins s σ H _ _ v u Q I rx ry ⟨i, k, rfl, rfl, hc.imp small64_ok small64_ok, hf.now S (.int _)⟩
      · exact hf.elim
    | tup hT rs =>
      rename_i xs l vs
      unfold binV at hf
      simp only at hf
      split at hf
      · rename_i hc
        have hk := small3_ok hc.2
        have hx : vs.length ≤ 1000 := by rw [← rs.length]; exact hc.1
        have hc0 := c0_of hk
        cases rx
        obtain ⟨t, rfl⟩ := ry
        obtain ⟨its, r, ⟨⟨cls, dd, data, sl⟩, ho, hcl, n, hd⟩, hs⟩ := I.tuple hT
        simp only at hcl hd
        subst hcl hd
        by_cases c1 : (its.toArray.isEmpty || k == 1) = true
        · refine wpAny_binaryOp_repeat_ref (T := "tuple") (U := "int") (by decide) ⟨_, ho, rfl⟩ (fun s' => typeIs_int s' k t) noFill_tuple_mul F.fills_int_mul F.slot_int_rmul repeat_tuple F.slot_int_index.lookup
            (call_meets F.slot_int_rmul (typeIs_int s k t) F.entry_int_rmul (F.args_int_rmul_2 _ _) (int_rmul_tuple k t l its.toArray n dd sl)
              ⟨ho, rfl, ⟨_, ho, rfl⟩, call_meets F.slot_tuple_mul ⟨_, ho, rfl⟩ F.entry_tuple_mul (F.args_tuple_mul_2 _ _) (tuple_mul_same l its.toArray n dd sl k t hc0 c1) ⟨ho, ?_⟩⟩)
          refine ⟨.ref l, H, I, rfl, ?_⟩
          have e : rep k.toNat xs = xs := by
            rcases Bool.or_eq_true_iff.mp c1 with z | z
            · have : its = [] := by simpa using z
              have hz : xs = [] := by
                have := rs.length
                have h2 := r.length
                rw [‹its = []›] at h2
                simp at h2
                subst h2
                simpa using this
              rw [hz, rep_nil]
            · have : k = 1 := by simpa using z
              subst this
              exact rep_one xs
          rw [e] at hf
          exact hf.now S (.tup hT rs)
        · have c1' : (its.toArray.isEmpty || k == 1) = false := by simpa using c1
          by_cases c2 : k ≤ 0
          · refine wpAny_binaryOp_repeat_ref (T := "tuple") (U := "int") (by decide) ⟨_, ho, rfl⟩ (fun s' => typeIs_int s' k t) noFill_tuple_mul F.fills_int_mul F.slot_int_rmul repeat_tuple F.slot_int_index.lookup
              (call_meets F.slot_int_rmul (typeIs_int s k t) F.entry_int_rmul (F.args_int_rmul_2 _ _) (int_rmul_tuple k t l its.toArray n dd sl)
                ⟨ho, rfl, ⟨_, ho, rfl⟩, call_meets F.slot_tuple_mul ⟨_, ho, rfl⟩ F.entry_tuple_mul (F.args_tuple_mul_2 _ _) (tuple_mul_none l its.toArray n dd sl k t hc0 c1' (by simp [c2])) ⟨ho, ?_⟩⟩)
            refine ⟨.ref s.heap.objs.size, _, I.laid (t' := s.toks) (o := .tup []) (fun b ob q => Heap.get?_push_of_some _ q) (Nat.le_refl _) ⟨Nat.zero_le _, [], .nil, IsTup.new _ _⟩, rfl, ?_⟩
            have e : rep k.toNat xs = [] := by
              have : k.toNat = 0 := by omega
              rw [this]; exact rep_zero xs
            rw [e] at hf
            exact hf.tup S .nil (I.hok.fresh (Nat.le_refl _))
          · have hne : its ≠ [] := fun e => by rw [e] at c1'; simp at c1'
            have hk1 : k ≠ 1 := fun e => by rw [e] at c1'; simp at c1'
            refine L2.op_repT pins s σ H (.ref l) (.int k) _ _ Q I rfl ⟨t, rfl⟩ ⟨l, k, vs, rfl, rfl, hT, fun e => hne ?_, by omega, hk.2, hx, fun p hp => ?_⟩
            · have := r.length
              rw [e] at this
              exact List.eq_nil_of_length_eq_zero this.symm
            · exact hf.tup S (Reps.replicate k.toNat rs) hp
      · exact hf.elim
    | str x =>
      unfold binV at hf
      simp only at hf
      split at hf
      · rename_i hc
        have hk := small3_ok hc.2
        obtain ⟨t, rfl⟩ := rx
        obtain ⟨t', rfl⟩ := ry
        have hx : (toS x).length ≤ 1000 := by rw [toS_len]; exact hc.1
        have hlen : (toS x).length * k.toNat ≤ 1000 * 1000 := Nat.mul_le_mul hx (by omega)
        refine PySem.P.mul_str (c0_of hk) (fun h1 _ => ?_) (fun h1 _ => ?_) ?_
        · have : (1 : Int) ≤ k := by omega
          have h9 : (9223372036854775807 : Int) / 1000 ≤ 9223372036854775807 / k := by
            refine Int.le_ediv_of_mul_le (by omega) ?_
            have : (9223372036854775807 : Int) / 1000 * k ≤ 9223372036854775807 / 1000 * 1000 := Int.mul_le_mul_of_nonneg_left hk.2 (by decide)
            have h8 : (9223372036854775807 : Int) / 1000 * 1000 ≤ 9223372036854775807 := by decide
            omega
          have h7 : (9223372036854775807 : Int) / 1000 = 9223372036854775 := by decide
          show ¬ (((toS x).length : Int) > 9223372036854775807 / k)
          omega
        · unfold Builtin.Str.tooLong
          rw [sizeLine_eq]
          exact decide_eq_false (by omega)
        · by_cases h1 : k < 1
          · rw [if_pos h1]
            have e : rep k.toNat x = [] := by
              have : k.toNat = 0 := by omega
              rw [this]; exact rep_zero x
            rw [e] at hf
            exact ⟨by decide, .str (toS []), H, I.tok _, ⟨_, rfl⟩, hf.now S (.str [])⟩
          · rw [if_neg h1]
            by_cases h2 : (k == 1 || (toS x).length == 0) = true
            · rw [if_pos h2]
              have e : rep k.toNat x = x := by
                rcases Bool.or_eq_true_iff.mp h2 with z | z
                · have : k = 1 := by simpa using z
                  subst this; exact rep_one x
                · rw [toS_len] at z
                  have : x = [] := by simpa using z
                  rw [this, rep_nil]
              rw [e] at hf
              exact ⟨.str (toS x), H, I, ⟨t, rfl⟩, hf.now S (.str x)⟩
            · rw [if_neg h2]
              have e : (⟨(List.replicate k.toNat (toS x).cps).foldl (· ++ ·) #[]⟩ : Str) = toS (rep k.toNat x) := by
                show (⟨(List.replicate k.toNat x.toArray).foldl (· ++ ·) #[]⟩ : Str) = _
                rw [foldl_repA x k.toNat []]
                simp [toS, rep]
              rw [e]
              refine ⟨?_, .str (toS (rep k.toNat x)), H, I.tok _, ⟨_, rfl⟩, hf.now S (.str _)⟩
              rw [toS_len, rep_len, sizeLine_eq]
              rw [toS_len] at hlen
              rw [Nat.mul_comm] at hlen
              omega
      · exact hf.elim
    | ref ha =>
      rename_i n l
      unfold binV at hf
      simp only at hf
      split at hf
      · rename_i xs g
        split at hf
        · rename_i hc
          have hk := small3_ok hc.2
          obtain ⟨vs, e1, q1⟩ := S.lst_at ha g
          have hx : vs.length ≤ 1000 := by rw [← q1.length]; exact hc.1
          refine L2.op_rep pins s σ H _ _ v u Q I rx ry ⟨l, k, vs, rfl, rfl, e1, by omega, by omega, ?_, fun p hp => ?_⟩
          · rw [sizeLine_eq]
            have : vs.length * k.toNat ≤ 1000 * 1000 := Nat.mul_le_mul hx (by omega)
            omega
          · exact hf.lst S (Reps.replicate k.toNat q1) hp
        · exact hf.elim
      · exact hf.elim
    | _ => exact hf.elim
  | _ => exact (by cases r1 <;> exact hf.elim)
end
end VI
/-! VIe: comparisons by values. -/
namespace VI
open PySem PySem.Spec PyProof.Rows L2
variable [LL]

mutual
def Pd.py : Pd → PyData
  | .non => .none
  | .bl b => .bool b
  | .int i => .int i
  | .str x => .str (toS x)
  | .tup xs => .tuple (Pd.pys xs)
  | .lst xs => .list (Pd.pys xs)
def Pd.pys : List Pd → List PyData
  | [] => []
  | x :: xs => Pd.py x :: Pd.pys xs
end
theorem toS_beq (x y : List Nat) : (toS x == toS y) = (x == y) := by
  by_cases h : x = y
  · subst h; simp
  · rw [beq_eq_false_iff_ne.mpr h, beq_eq_false_iff_ne.mpr fun e => h (toS_inj e)]
mutual
theorem Pd.py_eqv : ∀ (a b : Pd), PyData.eqv a.py b.py = a.eqv b
  | .non, b => by cases b <;> simp [Pd.py, PyData.eqv, Pd.eqv]
  | .bl x, b => by cases b <;> simp [Pd.py, PyData.eqv, Pd.eqv]
  | .int i, b => by cases b <;> simp [Pd.py, PyData.eqv, Pd.eqv]
  | .str x, b => by
    cases b with
    | str y => simp only [Pd.py, PyData.eqv, Pd.eqv]; exact toS_beq x y
    | _ => simp [Pd.py, PyData.eqv, Pd.eqv]
  | .tup xs, b => by
    cases b with
    | tup ys => simp only [Pd.py, PyData.eqv, Pd.eqv]; exact Pd.pys_eqv xs ys
    | _ => simp [Pd.py, PyData.eqv, Pd.eqv]
  | .lst xs, b => by
    cases b with
    | lst ys => simp only [Pd.py, PyData.eqv, Pd.eqv]; exact Pd.pys_eqv xs ys
    | _ => simp [Pd.py, PyData.eqv, Pd.eqv]
theorem Pd.pys_eqv : ∀ (a b : List Pd), PyData.eqvAll (Pd.pys a) (Pd.pys b) = Pd.eqvs a b
  | [], [] => rfl
  | [], _ :: _ => rfl
  | _ :: _, [] => rfl
  | x :: xs, y :: ys => by
    simp only [Pd.pys, PyData.eqvAll, Pd.eqvs]
    rw [Pd.py_eqv x y, Pd.pys_eqv xs ys]
end
theorem pys_any (a : Pd) : ∀ bs : List Pd, (Pd.pys bs).any (fun z => PyData.eqv z a.py) = bs.any fun b => b.eqv a
  | [] => rfl
  | b :: bs => by simp only [Pd.pys, List.any_cons]; rw [Pd.py_eqv, pys_any a bs]
theorem strOk_toS {x : List Nat} (h : x.all goodCp = true) : PyData.strOk (toS x) = true := by
  unfold PyData.strOk
  rw [List.all_eq_true] at h
  rw [toS, List.all_toArray, List.all_eq_true]
  intro c hc
  have := h c hc
  unfold goodCp at this
  simp only [decide_eq_true_eq] at this ⊢
  omega
theorem allOpt_some {α β : Type} {f : α → Option β} : ∀ {xs : List α} {ys : List β}, allOpt f xs = some ys → Paired (fun x y => f x = some y) xs ys
  | [], ys, h => by simp only [allOpt, Option.some.injEq] at h; subst h; exact .nil
  | x :: xs, ys, h => by
    unfold allOpt at h
    split at h
    · rename_i y zs h1 h2
      cases h
      exact .cons h1 (allOpt_some h2)
    · cases h
section
variable {m : Md} {E : XK} {X : Cx} {ρ : List Addr} {H : Hp} {st : Store}
theorem dats_ok {f : Nat} {g : D → Option Pd} (hg : ∀ d p v, g d = some p → Rep X.K ρ H d v → Dp X.K H v p.py ∧ p.py.canLay0 = true ∧ p.py.depth ≤ f) : ∀ {xs : List D} {ps : List Pd} {vs : List V}, Paired (fun x y => g x = some y) xs ps → Reps X.K ρ H xs vs →
    DpAll X.K H vs (Pd.pys ps) ∧ PyData.canLayAll0 (Pd.pys ps) = true ∧ PyData.depthAll (Pd.pys ps) ≤ f
  | _, _, _, .nil, .nil => ⟨.nil, rfl, Nat.zero_le _⟩
  | _, _, _, .cons h t, .cons r rs => by
    obtain ⟨a1, a2, a3⟩ := hg _ _ _ h r
    obtain ⟨b1, b2, b3⟩ := dats_ok hg t rs
    refine ⟨.cons a1 b1, ?_, ?_⟩
    · simp only [Pd.pys, PyData.canLayAll0, a2, b2, Bool.and_true]
    · simp only [Pd.pys, PyData.depthAll]; omega
theorem dat_ok (S : Rel m X ρ H st) : ∀ (f : Nat) (d : D) (p : Pd) (v : V), dat f st d = some p → Rep X.K ρ H d v → Dp X.K H v p.py ∧ p.py.canLay0 = true ∧ p.py.depth ≤ f := by
  intro f
  induction f with
  | zero =>
    intro d p v h r
    cases r with
    | non => simp only [dat, Option.some.injEq] at h; subst h; exact ⟨.non, rfl, Nat.le_refl _⟩
    | bl b => simp only [dat, Option.some.injEq] at h; subst h; exact ⟨.bl b, rfl, Nat.le_refl _⟩
    | int i => simp only [dat, Option.some.injEq] at h; subst h; exact ⟨.int i, rfl, Nat.le_refl _⟩
    | str x =>
      simp only [dat] at h
      split at h
      · cases h; exact ⟨.str _, by simp only [Pd.py, PyData.canLay0]; exact strOk_toS (by assumption), Nat.le_refl _⟩
      · cases h
    | tup _ _ => simp [dat] at h
    | ref _ => simp [dat] at h
    | fn => simp [dat] at h
    | err => simp [dat] at h
  | succ f ih =>
    intro d p v h r
    cases r with
    | non => simp only [dat, Option.some.injEq] at h; subst h; exact ⟨.non, rfl, Nat.zero_le _⟩
    | bl b => simp only [dat, Option.some.injEq] at h; subst h; exact ⟨.bl b, rfl, Nat.zero_le _⟩
    | int i => simp only [dat, Option.some.injEq] at h; subst h; exact ⟨.int i, rfl, Nat.zero_le _⟩
    | str x =>
      simp only [dat] at h
      split at h
      · cases h; exact ⟨.str _, by simp only [Pd.py, PyData.canLay0]; exact strOk_toS (by assumption), Nat.zero_le _⟩
      · cases h
    | tup q rs =>
      simp only [dat] at h
      obtain ⟨ps, h1, rfl⟩ := Option.map_eq_some_iff.mp h
      obtain ⟨a1, a2, a3⟩ := dats_ok (fun d p v => ih d p v) (allOpt_some h1) rs
      exact ⟨.tup q a1, by simpa only [Pd.py, PyData.canLay0] using a2, by simp only [Pd.py, PyData.depth]; omega⟩
    | fn => simp [dat] at h
    | err => simp [dat] at h
    | ref ha =>
      simp only [dat] at h
      split at h
      · rename_i xs g
        obtain ⟨ps, h1, rfl⟩ := Option.map_eq_some_iff.mp h
        obtain ⟨vs, e, rs⟩ := S.lst_at ha g
        obtain ⟨a1, a2, a3⟩ := dats_ok (fun d p v => ih d p v) (allOpt_some h1) rs
        exact ⟨.lst (SqL.of e) a1, by simpa only [Pd.py, PyData.canLay0] using a2, by simp only [Pd.py, PyData.depth]; omega⟩
      · rename_i xs g
        obtain ⟨ps, h1, rfl⟩ := Option.map_eq_some_iff.mp h
        obtain ⟨vs, e, rs⟩ := S.flst_at ha g
        obtain ⟨a1, a2, a3⟩ := dats_ok (fun d p v => ih d p v) (allOpt_some h1) rs
        exact ⟨.lst (.inl e) a1, by simpa only [Pd.py, PyData.canLay0] using a2, by simp only [Pd.py, PyData.depth]; omega⟩
      · cases h
theorem shaped_of {p : Pd} {f : Nat} (h1 : p.py.canLay0 = true) (h2 : p.py.depth ≤ f) (h3 : f ≤ 64) : SeqAt.shaped p.py = true := by
  unfold SeqAt.shaped
  rw [h1, Bool.true_and]
  exact decide_eq_true (by omega)
theorem eqS_ok (S : Rel m X ρ H st) {d e : D} {x y : V} {b : Bool} (r1 : Rep X.K ρ H d x) (r2 : Rep X.K ρ H e y) (h : eqS st d e = some b) : ∃ p q, Dp X.K H x p ∧ Dp X.K H y q ∧ SeqAt.shaped p = true ∧ SeqAt.shaped q = true ∧ PyData.eqv p q = b := by
  unfold eqS at h
  split at h
  · rename_i p q h1 h2
    cases h
    obtain ⟨a1, a2, a3⟩ := dat_ok S 60 _ _ _ h1 r1
    obtain ⟨b1, b2, b3⟩ := dat_ok S 60 _ _ _ h2 r2
    exact ⟨_, _, a1, b1, shaped_of a2 a3 (by decide), shaped_of b2 b3 (by decide), Pd.py_eqv _ _⟩
  · cases h
theorem cmp_ne (hu : X.A.units + 65 < cLine) : OpR X (compareOp .NotEq) (R2D m E X (cmpV .ne)) := by
  intro pins s σ H x y v u Q I rx ry h
  obtain ⟨ρ, st, d, e, S, r1, r2, hf⟩ := h
  obtain ⟨b, hb, hf⟩ := Fin.opt hf
  obtain ⟨c, hc, rfl⟩ := Option.map_eq_some_iff.mp hb
  obtain ⟨p, q, a1, a2, a3, a4, rfl⟩ := eqS_ok S r1 r2 hc
  exact L2.op_neD (by omega) pins s σ H _ _ v u Q I rx ry ⟨p, q, a1, a2, a3, a4, hf.now S (.bl _)⟩
theorem cmp_lt : OpR X (compareOp .Lt) (R2D m E X (cmpV .lt)) := by
  intro pins s σ H x y v u Q I rx ry h
  obtain ⟨ρ, st, d, e, S, r1, r2, hf⟩ := h
  cases r1 <;> cases r2 <;> first | exact L2.op_lt pins s σ H _ _ v u Q I rx ry ⟨_, _, rfl, rfl, hf.now S (.bl _)⟩ | exact hf.elim
theorem cmp_le : OpR X (compareOp .LtE) (R2D m E X (cmpV .le)) := by
  intro pins s σ H x y v u Q I rx ry h
  obtain ⟨ρ, st, d, e, S, r1, r2, hf⟩ := h
  cases r1 <;> cases r2 <;> first | exact L2.op_le pins s σ H _ _ v u Q I rx ry ⟨_, _, rfl, rfl, hf.now S (.bl _)⟩ | exact hf.elim
theorem cmp_gt : OpR X (compareOp .Gt) (R2D m E X (cmpV .gt)) := by
  intro pins s σ H x y v u Q I rx ry h
  obtain ⟨ρ, st, d, e, S, r1, r2, hf⟩ := h
  cases r1 <;> cases r2 <;> first | exact L2.op_gt pins s σ H _ _ v u Q I rx ry ⟨_, _, rfl, rfl, hf.now S (.bl _)⟩ | exact hf.elim
theorem cmp_ge : OpR X (compareOp .GtE) (R2D m E X (cmpV .ge)) := by
  intro pins s σ H x y v u Q I rx ry h
  obtain ⟨ρ, st, d, e, S, r1, r2, hf⟩ := h
  cases r1 <;> cases r2 <;> first | exact L2.op_ge pins s σ H _ _ v u Q I rx ry ⟨_, _, rfl, rfl, hf.now S (.bl _)⟩ | exact hf.elim
theorem cmp_is : OpR X (compareOp .Is) (R2D m E X (cmpV .is)) := by
  intro pins s σ H x y v u Q I rx ry h
  obtain ⟨ρ, st, d, e, S, r1, r2, hf⟩ := h
  obtain ⟨b, hb, hf⟩ := Fin.opt hf
  obtain ⟨c, hc, rfl⟩ := Option.map_eq_some_iff.mp hb
  cases r2 with
  | non =>
    refine L2.op_isN pins s σ H _ _ v u Q I rx ry ⟨rfl, ?_⟩
    cases r1 <;> first | (cases hc; done) | (simp only [isV, Option.some.injEq] at hc; subst hc; exact hf.now S (.bl _))
  | bl b =>
    cases r1 with
    | bl a =>
      simp only [isV, Option.some.injEq] at hc
      subst hc
      refine L2.op_isBl pins s σ H _ _ v u Q I rx ry ⟨a, b, rfl, rfl, ?_⟩
      have e : decide (a = b) = (a == b) := by cases a <;> cases b <;> rfl
      rw [e]
      exact hf.now S (.bl _)
    | non =>
      simp only [isV, Option.some.injEq] at hc
      subst hc
      cases (show v = Value.none from rx)
      cases (show u = Value.bool b from ry)
      exact wpAny_is_other rfl (fun z => nomatch z) ⟨.bl false, H, I, rfl, hf.now S (.bl _)⟩
    | _ => simp [isV] at hc
  | _ => cases r1 <;> simp [isV] at hc
theorem cmp_isnot : OpR X (compareOp .IsNot) (R2D m E X (cmpV .isnot)) := by
  intro pins s σ H x y v u Q I rx ry h
  obtain ⟨ρ, st, d, e, S, r1, r2, hf⟩ := h
  obtain ⟨b, hb, hf⟩ := Fin.opt hf
  obtain ⟨c, hc, rfl⟩ := Option.map_eq_some_iff.mp hb
  cases r2 with
  | non =>
    refine L2.op_notN pins s σ H _ _ v u Q I rx ry ⟨rfl, ?_⟩
    cases r1 <;> first | (cases hc; done) | (simp only [isV, Option.some.injEq] at hc; subst hc; exact hf.now S (.bl _))
  | bl b =>
    cases r1 with
    | bl a =>
      simp only [isV, Option.some.injEq] at hc
      subst hc
      refine L2.op_notBl pins s σ H _ _ v u Q I rx ry ⟨a, b, rfl, rfl, ?_⟩
      have e : decide (a = b) = (a == b) := by cases a <;> cases b <;> rfl
      rw [e]
      exact hf.now S (.bl _)
    | non =>
      simp only [isV, Option.some.injEq] at hc
      subst hc
      cases (show v = Value.none from rx)
      cases (show u = Value.bool b from ry)
      exact wpAny_isNot_other rfl (fun z => nomatch z) ⟨.bl true, H, I, rfl, hf.now S (.bl _)⟩
    | _ => simp [isV] at hc
  | _ => cases r1 <;> simp [isV] at hc
end
end VI
/-! VIf: dicts by values. -/
namespace VI
open PySem PySem.Spec PyProof.Rows L2
variable [LL]

/-! ### keys -/
theorem toS_dec (x y : List Nat) : decide (toS x = toS y) = (x == y) := by
  by_cases h : x = y
  · subst h; simp
  · rw [beq_eq_false_iff_ne.mpr h, decide_eq_false fun e => h (toS_inj e)]
mutual
theorem nkey_beq : ∀ (a b : D), a.flat = true → b.flat = true → NestedKey.beq (nkey a) (nkey b) = D.eqv a b
  | .non, b, _, hb => by cases b <;> simp_all [nkey, NestedKey.beq, D.eqv, D.flat]
  | .bl x, b, _, hb => by
    cases b with
    | bl y => cases x <;> cases y <;> rfl
    | int j => simp only [nkey, NestedKey.beq, D.eqv]; exact (Bool.beq_eq_decide_eq _ _).symm
    | ref n => simp [D.flat] at hb
    | _ => simp [nkey, NestedKey.beq, D.eqv]
  | .int i, b, _, hb => by
    cases b with
    | bl y => simp only [nkey, NestedKey.beq, D.eqv]; exact (Bool.beq_eq_decide_eq _ _).symm
    | int j => simp only [nkey, NestedKey.beq, D.eqv]; exact (Bool.beq_eq_decide_eq _ _).symm
    | ref n => simp [D.flat] at hb
    | _ => simp [nkey, NestedKey.beq, D.eqv]
  | .str x, b, _, hb => by
    cases b with
    | str y => simp only [nkey, NestedKey.beq, D.eqv]; exact toS_dec x y
    | ref n => simp [D.flat] at hb
    | _ => simp [nkey, NestedKey.beq, D.eqv]
  | .tup xs, b, ha, hb => by
    cases b with
    | tup ys => simp only [nkey, NestedKey.beq, D.eqv]; simp only [D.flat] at ha hb; exact nkeys_beq xs ys ha hb
    | ref n => simp [D.flat] at hb
    | _ => simp [nkey, NestedKey.beq, D.eqv]
  | .ref n, _, ha, _ => by simp [D.flat] at ha
theorem nkeys_beq : ∀ (a b : List D), D.flats a = true → D.flats b = true → NestedKey.beqAll (nkeys a) (nkeys b) = D.eqvs a b
  | [], [], _, _ => rfl
  | [], _ :: _, _, _ => rfl
  | _ :: _, [], _, _ => rfl
  | x :: xs, y :: ys, ha, hb => by
    simp only [D.flats, Bool.and_eq_true] at ha hb
    simp only [nkeys, NestedKey.beqAll, D.eqvs]
    rw [nkey_beq x y ha.1 hb.1, nkeys_beq xs ys ha.2 hb.2]
end
mutual
theorem nkey_depth : ∀ (a : D), a.flat = true → (nkey a).depth = a.depth
  | .non, _ => rfl
  | .bl _, _ => rfl
  | .int _, _ => rfl
  | .str _, _ => rfl
  | .tup xs, h => by simp only [D.flat] at h; simp only [nkey, NestedKey.depth, D.depth, nkeys_depth xs h]
  | .ref _, h => by simp [D.flat] at h
theorem nkeys_depth : ∀ (a : List D), D.flats a = true → NestedKey.depthAll (nkeys a) = D.depths a
  | [], _ => rfl
  | x :: xs, h => by
    simp only [D.flats, Bool.and_eq_true] at h
    simp only [nkeys, NestedKey.depthAll, D.depths, nkey_depth x h.1, nkeys_depth xs h.2]
end
theorem kk2 {d : D} (h : kk d = 2) : ∃ xs, d = .tup xs ∧ D.flats xs = true ∧ D.depths xs < 8 := by
  cases d with
  | tup xs =>
    unfold kk at h
    simp only at h
    split at h
    · rename_i hc
      simp only [Bool.and_eq_true, decide_eq_true_eq] at hc
      exact ⟨xs, rfl, hc.1, hc.2⟩
    · cases h
  | str x => unfold kk at h; simp only at h; split at h <;> cases h
  | _ => cases h
theorem kk2_flat {d : D} (h : kk d = 2) : d.flat = true := by
  obtain ⟨xs, rfl, h1, _⟩ := kk2 h
  simpa only [D.flat] using h1
theorem kk1 {d : D} (h : kk d = 1) : ∃ k, leafK d = some k := by
  cases d with
  | int i => exact ⟨_, rfl⟩
  | str x => exact ⟨_, rfl⟩
  | tup xs => unfold kk at h; simp only at h; split at h <;> cases h
  | _ => cases h
theorem leafK_rep {K : PySem.W.Frag} {ρ : List Addr} {H : Hp} {d : D} {v : V} {k : Key} (h : leafK d = some k) (r : Rep K ρ H d v) : v = kV k := by
  cases r <;> simp only [leafK, Option.some.injEq, reduceCtorEq] at h <;> (subst h; rfl)
theorem leafK_eqv {a b : D} {j k : Key} (h1 : leafK a = some j) (h2 : leafK b = some k) : D.eqv a b = decide (j = k) := by
  cases a <;> simp only [leafK, Option.some.injEq, reduceCtorEq] at h1 <;> cases b <;> simp only [leafK, Option.some.injEq, reduceCtorEq] at h2 <;> subst h1 h2
  · simp only [D.eqv]; rw [key_ll]
  · simp only [D.eqv]; rw [key_lr]
  · simp only [D.eqv]; rw [key_rl]
  · simp only [D.eqv]; rw [key_rr, toS_dec]
theorem nkey_eq {a b : D} (ha : a.flat = true) (hb : b.flat = true) : decide (nkey a = nkey b) = D.eqv a b := by
  rw [NestedKey.decide_eq, nkey_beq a b ha hb]

section
variable {m : Md} {E : XK} {X : Cx} {pins : List (Addr × Obj)} {σ : L2.St} {ρ : List Addr} {H : Hp} {st : Store} {s : Shared}
mutual
theorem rep_nested (I : Inv X pins σ H s) : ∀ (d : D) (v : V) (u : Value), d.flat = true → Rep X.K ρ H d v → RelV v u → NestedIs s.heap (nkey d) u
  | .non, _, u, _, .non, e => by cases e; exact .none
  | .bl b, _, u, _, .bl _, e => by cases e; exact .bool rfl
  | .int i, _, u, _, .int _, e => by obtain ⟨t, rfl⟩ := e; exact .int i t
  | .str x, _, u, _, .str _, e => by obtain ⟨t, rfl⟩ := e; exact .text _ t
  | .tup xs, _, u, h, .tup q r, e => by
    cases e
    simp only [D.flat] at h
    obtain ⟨its, rv, ⟨o, h1, h2, n, h3⟩, _⟩ := I.tuple q
    exact .tup h1 h2 h3 (by simpa using reps_nested I xs _ its h r rv)
  | .ref n, _, u, h, _, _ => by simp [D.flat] at h
theorem reps_nested (I : Inv X pins σ H s) : ∀ (d : List D) (v : List V) (u : List Value), D.flats d = true → Reps X.K ρ H d v → Vals v u → NestedAll s.heap (nkeys d) u
  | [], _, _, _, .nil, .nil => .nil
  | x :: xs, _, _, h, .cons a b, .cons c d => by
    simp only [D.flats, Bool.and_eq_true] at h
    exact .cons (rep_nested I x _ _ h.1 a c) (reps_nested I xs _ _ h.2 b d)
end
theorem key_is (I : Inv X pins σ H s) {d : D} {b : Addr} (h : kk d = 2) (r : Rep X.K ρ H d (.ref b)) : (nestedKind X.prog X.w).is s.heap (nkey d) b := by
  refine ⟨rep_nested I d _ _ (kk2_flat h) r rfl, ?_⟩
  obtain ⟨xs, rfl, h1, h2⟩ := kk2 h
  rw [nkey_depth _ (by simpa only [D.flat] using h1)]
  simp only [D.depth]
  omega
theorem At.ok {lk : Bool} {a : Addr} {u : HO} (I : Inv X pins σ H s) (h : At H lk a u) : ObjOk X.prog X.w H s.heap a u := by
  unfold At at h
  split at h
  · obtain ⟨o, h⟩ := h
    exact (I.hok a _ h).2
  · exact I.hok a _ h
theorem At.rd {lk : Bool} {a : Addr} {u : HO} (h : At H lk a u) : Rd H a u := by
  unfold At at h
  split at h
  · exact .inr h
  · exact .inl h
theorem tpairs_is (I : Inv X pins σ H s) : ∀ {kvs : List (D × D)} {xs : List (NestedKey × Addr × Value)}, TPairs X.K ρ H kvs xs → ∀ x ∈ xs, (nestedKind X.prog X.w).is s.heap x.1 x.2.1
  | _, _, .nil, _, hx => nomatch hx
  | _, _, .cons h t, x, hx => by
    rcases List.mem_cons.mp hx with e | hx
    · subst e
      rw [h.2.1]
      exact key_is I h.1 h.2.2.1
    · exact tpairs_is I t x hx
theorem dictOfH (I : Inv X pins σ H s) {lk : Bool} {a : Addr} {kvs : List (D × D)} {xs : List (NestedKey × Addr × Value)} (h : At H lk a (.ext (rawD X.prog X.w a xs))) (tp : TPairs X.K ρ H kvs xs) (nd : (xs.map (·.1)).Nodup) :
    s.heap.DictOfH (nestedKind X.prog X.w) a xs := by
  obtain ⟨⟨o, es, ep, h1, h2, h3, h4⟩, _⟩ := h.ok I
  exact ⟨o, es, ep, h1, h2, h3, h4, tpairs_is I tp, nd⟩
theorem paired_len {α β : Type} {F : α → β → Prop} : ∀ {l : List α} {m : List β}, Paired F l m → l.length = m.length
  | _, _, .nil => rfl
  | _, _, .cons _ t => congrArg (· + 1) (paired_len t)
theorem tp_look {k : D} (hk : kk k = 2) : ∀ {kvs : List (D × D)} {xs : List (NestedKey × Addr × Value)}, TPairs X.K ρ H kvs xs →
    (lookD kvs k = none ∧ atKey xs (nkey k) = none) ∨ ∃ d p v, lookD kvs k = some d ∧ atKey xs (nkey k) = some p ∧ RelV v p.2 ∧ Rep X.K ρ H d v
  | _, _, .nil => .inl ⟨rfl, rfl⟩
  | p :: kvs, q :: xs, .cons h t => by
    have e : decide (q.1 = nkey k) = D.eqv p.1 k := by rw [h.2.1]; exact nkey_eq (kk2_flat h.1) (kk2_flat hk)
    have ea : atKey (q :: xs) (nkey k) = if D.eqv p.1 k then some q.2 else atKey xs (nkey k) := by
      unfold atKey
      rw [List.find?_cons, e]
      cases D.eqv p.1 k <;> rfl
    rw [ea]
    show (lookD (p :: kvs) k = none ∧ _) ∨ _
    unfold lookD
    by_cases hq : D.eqv p.1 k = true
    · rw [if_pos hq, if_pos hq]
      obtain ⟨v, h1, h2⟩ := h.2.2.2
      exact .inr ⟨p.2, q.2, v, rfl, rfl, h1, h2⟩
    · rw [if_neg hq, if_neg hq]
      exact tp_look hk t
theorem lp_look {k : D} {j : Key} (hk : leafK k = some j) : ∀ {kvs : List (D × D)} {kv : List (Key × V)}, LPairs X.K ρ H kvs kv →
    (lookD kvs k = none ∧ valV kv j = none) ∨ ∃ d v, lookD kvs k = some d ∧ valV kv j = some v ∧ Rep X.K ρ H d v
  | _, _, .nil => .inl ⟨rfl, rfl⟩
  | p :: kvs, q :: kv, .cons h t => by
    have e : D.eqv p.1 k = decide (q.1 = j) := leafK_eqv h.1 hk
    unfold lookD
    by_cases hq : q.1 = j
    · rw [if_pos (by rw [e]; exact decide_eq_true hq), valV_pos hq]
      exact .inr ⟨p.2, q.2, rfl, rfl, h.2⟩
    · rw [if_neg (by rw [e, decide_eq_false hq]; exact Bool.false_ne_true), valV_neg hq]
      exact lp_look hk t
/-- a dict of the store, and a key that may be asked: as a dict of ints and texts, or as one of tuples -/
theorem dict_view (S : Rel m X ρ H st) {n : Nat} {a : Addr} {lk : Bool} {kvs : List (D × D)} {k : D} (ha : ρ[n]? = some a) (g : st.get n = some (.dct lk kvs)) (hk : kkOk kvs k = true) :
    kvs.length ≤ sizeLine ∧ (a == sysModules) = false ∧ ((∃ j kv, leafK k = some j ∧ At H lk a (.dK kv) ∧ LPairs X.K ρ H kvs kv) ∨ (kk k = 2 ∧ ((kvs = [] ∧ At H lk a (.dK [])) ∨ ∃ xs, kvs ≠ [] ∧ At H lk a (.ext (rawD X.prog X.w a xs)) ∧ TPairs X.K ρ H kvs xs ∧ (xs.map (·.1)).Nodup))) := by
  obtain ⟨o, g', r⟩ := S.ob n a ha
  rw [g] at g'; cases g'
  obtain ⟨hz, hs, r⟩ := r
  refine ⟨hz, hs, ?_⟩
  have hk0 : kk k = 1 ∨ kk k = 2 := by
    have h0 : kk k ≠ 0 := by
      cases kvs with
      | nil => simpa [kkOk] using hk
      | cons p r => simp only [kkOk, Bool.and_eq_true] at hk; simpa using hk.1
    cases k with
    | tup xs => unfold kk at h0 ⊢; simp only at h0 ⊢; split at h0 <;> simp_all
    | str x => unfold kk at h0 ⊢; simp only at h0 ⊢; split at h0 <;> simp_all
    | int i => exact .inl rfl
    | _ => exact absurd rfl h0
  cases kvs with
  | nil =>
    rcases r with ⟨kv, q, r⟩ | ⟨ne, _⟩
    · cases r
      rcases hk0 with h1 | h2
      · obtain ⟨j, hj⟩ := kk1 h1
        exact .inl ⟨j, [], hj, q, .nil⟩
      · exact .inr ⟨h2, .inl ⟨rfl, q⟩⟩
    · exact absurd rfl ne
  | cons p kvs =>
    simp only [kkOk, Bool.and_eq_true] at hk
    have hp : kk k = kk p.1 := by simpa using hk.2
    rcases r with ⟨kv, q, r⟩ | ⟨ne, xs, q, r, nd⟩
    · rcases hk0 with h1 | h2
      · obtain ⟨j, hj⟩ := kk1 h1
        exact .inl ⟨j, kv, hj, q, r⟩
      · exfalso
        cases r with
        | cons h t =>
          obtain ⟨ys, e, _⟩ := kk2 (hp.symm.trans h2)
          have h1 := h.1
          rw [e] at h1
          cases h1
    · rcases hk0 with h1 | h2
      · exfalso
        cases r with
        | cons h t => rw [hp, h.1] at h1; cases h1
      · exact .inr ⟨h2, .inr ⟨xs, ne, q, r, nd⟩⟩
/-- an empty dict may have tuples as keys -/
theorem empty_of (I : Inv X pins σ H s) {lk : Bool} {a : Addr} (h : At H lk a (.dK [])) : s.heap.DictOfH (nestedKind X.prog X.w) a [] := by
  obtain ⟨_, _, vs, r, o, es, ep, h1, h2, h3, h4⟩ := h.ok I
  cases r
  refine ⟨o, es, ep, h1, h2, h3, ?_, (by intro _ hx; cases hx), List.nodup_nil⟩
  have := Pairs.length h4.2.1
  simpa using this
theorem room8 {A : Around} (h : A.units + 65 < cLine) : (nestedKind X.prog X.w).room A.in1 := by
  show A.units + 1 + 8 < cLine
  omega
/-- what the key of a dict is asked -/
theorem dct_ask (I : Inv X pins σ H s) (hu : X.A.units + 65 < cLine) (S : Rel m X ρ H st) {n : Nat} {a : Addr} {lk : Bool} {kvs : List (D × D)} {k : D} {y : V} {u : Value} (ha : ρ[n]? = some a) (g : st.get n = some (.dct lk kvs)) (hk : kkOk kvs k = true) (r : Rep X.K ρ H k y) (ru : RelV y u)
    {Q : Value → Shared → Prop} {E : Value → Shared → Prop} (h : ∀ s', Inv X pins σ H s' → Q (.bool (lookD kvs k).isSome) s') : wpAny (model X.prog X.w) X.A (compareOp .In u (.ref a)) Q E s := by
  obtain ⟨hz, hs, hv⟩ := dict_view S ha g hk
  rcases hv with ⟨j, kv, hj, q, lp⟩ | ⟨h2, hv⟩
  · obtain rfl := leafK_rep hj r
    have e : (lookD kvs k).isSome = (valV kv j).isSome := by
      rcases lp_look hj lp with ⟨h1, h2⟩ | ⟨d, v, h1, h2, _⟩ <;> rw [h1, h2] <;> rfl
    refine d_in (by omega) I (.inl ⟨kv, j, q.rd, rfl, rfl⟩) ru fun s' I' => ?_
    rw [← e]; exact h s' I'
  · obtain ⟨xs0, rfl, _⟩ := kk2 h2
    cases r with
    | tup q1 q2 =>
      cases ru
      have hkey := key_is I h2 (.tup q1 q2)
      rcases hv with ⟨rfl, q⟩ | ⟨xs, ne, q, tp, nd⟩
      · exact wpAny_in_heap (room8 hu) hkey hs (empty_of I q) (h _ (I.tok _))
      · refine wpAny_in_heap (room8 hu) hkey hs (dictOfH I q tp nd) ?_
        have e : (lookD kvs (.tup xs0)).isSome = (atKey xs (nkey (.tup xs0))).isSome := by
          rcases tp_look h2 tp with ⟨h1, h2⟩ | ⟨d, p, v, h1, h2, _⟩ <;> rw [h1, h2] <;> rfl
        rw [← e]
        exact h _ (I.tok _)
theorem dct_item (I : Inv X pins σ H s) (hu : X.A.units + 65 < cLine) (S : Rel m X ρ H st) {n : Nat} {a : Addr} {lk : Bool} {kvs : List (D × D)} {k d : D} {y : V} {u : Value} (ha : ρ[n]? = some a) (g : st.get n = some (.dct lk kvs)) (hk : kkOk kvs k = true) (r : Rep X.K ρ H k y) (ru : RelV y u) (hd : lookD kvs k = some d)
    {Q : Value → Shared → Prop} {E : Value → Shared → Prop} (h : ∀ v w' s', Inv X pins σ H s' → Rep X.K ρ H d v → RelV v w' → Q w' s') : wpAny (model X.prog X.w) X.A (getItem (.ref a) u) Q E s := by
  obtain ⟨hz, hs, hv⟩ := dict_view S ha g hk
  rcases hv with ⟨j, kv, hj, q, lp⟩ | ⟨h2, hv⟩
  · obtain rfl := leafK_rep hj r
    rcases lp_look hj lp with ⟨h1, _⟩ | ⟨d', v, h1, h2, rd⟩
    · rw [hd] at h1; cases h1
    · rw [hd] at h1; cases h1
      exact d_getItem (by omega) I (.inl ⟨kv, j, q.rd, rfl, h2.symm⟩) ru fun w' s' I' rw' => h v w' s' I' rd rw'
  · obtain ⟨xs0, rfl, _⟩ := kk2 h2
    cases r with
    | tup q1 q2 =>
      cases ru
      have hkey := key_is I h2 (.tup q1 q2)
      rcases hv with ⟨rfl, q⟩ | ⟨xs, ne, q, tp, nd⟩
      · cases hd
      · rcases tp_look h2 tp with ⟨h1, _⟩ | ⟨d', p, v, h1, h2', rv, rd⟩
        · rw [hd] at h1; cases h1
        · rw [hd] at h1; cases h1
          exact wpAny_getItem_heap (room8 hu) hkey (dictOfH I q tp nd) h2' (h v _ _ (I.tok _) rd rv)

theorem paired_app {α β : Type} {F : α → β → Prop} : ∀ {l l2 : List α} {m m2 : List β}, Paired F l m → Paired F l2 m2 → Paired F (l ++ l2) (m ++ m2)
  | _, _, _, _, .nil, q => q
  | _, _, _, _, .cons h t, q => .cons h (paired_app t q)
theorem paired_map {α β : Type} {F : α → β → Prop} {f : α → α} {g : β → β} : ∀ {l : List α} {m : List β}, Paired F l m → (∀ a b, F a b → F (f a) (g b)) → Paired F (l.map f) (m.map g)
  | _, _, .nil, _ => .nil
  | _, _, .cons h t, k => .cons (k _ _ h) (paired_map t k)
theorem LPairs.put {ρ : List Addr} {H : Hp} {K : PySem.W.Frag} {k v : D} {j : Key} {u : V} (hk : leafK k = some j) (rv : Rep K ρ H v u) {kvs : List (D × D)} {kv : List (Key × V)} (h : LPairs K ρ H kvs kv) (he : (lookD kvs k).isSome = (valV kv j).isSome) : LPairs K ρ H (putD kvs k v) (putK kv j u) := by
  unfold putD putK
  rw [valV_any, ← he]
  split
  · refine paired_map h fun p q h => ?_
    have e : D.eqv p.1 k = decide (q.1 = j) := leafK_eqv h.1 hk
    by_cases hq : q.1 = j
    · rw [if_pos (by rw [e]; exact decide_eq_true hq), if_pos hq]
      exact ⟨h.1, rv⟩
    · rw [if_neg (by rw [e, decide_eq_false hq]; exact Bool.false_ne_true), if_neg hq]
      exact h
  · exact paired_app h (.cons ⟨hk, rv⟩ .nil)
theorem TPairs.put {ρ : List Addr} {H : Hp} {K : PySem.W.Frag} {k v : D} {b : Addr} {u : V} {w' : Value} (hk : kk k = 2) (rk : Rep K ρ H k (.ref b)) (rv : Rep K ρ H v u) (rw' : RelV u w') {kvs : List (D × D)} {xs : List (NestedKey × Addr × Value)} (h : TPairs K ρ H kvs xs) (he : (lookD kvs k).isSome = (atKey xs (nkey k)).isSome) : TPairs K ρ H (putD kvs k v) (storedH xs (nkey k) b w') := by
  unfold putD storedH
  rw [he]
  split
  · refine paired_map h fun p q h => ?_
    have e : decide (q.1 = nkey k) = D.eqv p.1 k := by rw [h.2.1]; exact nkey_eq (kk2_flat h.1) (kk2_flat hk)
    unfold putAt
    by_cases hq : q.1 = nkey k
    · rw [if_pos (by rw [← e]; exact decide_eq_true hq), if_pos hq]
      exact ⟨h.1, h.2.1, h.2.2.1, u, rw', rv⟩
    · rw [if_neg (by rw [← e, decide_eq_false hq]; exact Bool.false_ne_true), if_neg hq]
      exact h
  · exact paired_app h (.cons ⟨hk, rfl, rk, u, rw', rv⟩ .nil)
theorem putD_len (kvs : List (D × D)) (k v : D) : (putD kvs k v).length ≤ kvs.length + 1 := by
  unfold putD
  split
  · rw [List.length_map]; omega
  · simp
theorem putD_ne (kvs : List (D × D)) (k v : D) : putD kvs k v ≠ [] := by
  unfold putD
  split
  · rename_i h
    cases kvs with
    | nil => simp [lookD] at h
    | cons p r => simp
  · simp
theorem rawD_stay {P : Program} {w : World} {a : Addr} {xs : List (NestedKey × Addr × Value)} {h1 h2 : Heap} (r : rawD P w a xs h1) (k : ∀ o, h1.get? a = some o → h2.get? a = some o) : rawD P w a xs h2 := by
  obtain ⟨o, es, ep, e1, e2⟩ := r
  exact ⟨o, es, ep, k o e1, e2⟩
theorem SRel.dset {nm : Nm} {P : Program} {w : World} {K : PySem.W.Frag} (S : SRel nm P w K ρ H st) {n : Nat} {a : Addr} {o : HO} {kvs : List (D × D)} (ha : ρ[n]? = some a) (hnf : ∀ o u, H a ≠ some (.frz o u)) (r : Step ρ H ρ (upd H a o) → DRep P w K ρ (upd H a o) false kvs a) :
    SRel nm P w K ρ (upd H a o) (st.set n (.dct false kvs)) ∧ Step ρ H ρ (upd H a o) := SRel.change S ha hnf (fun b hb => upd_ne hb) r
/-- a dict of the store is written -/
theorem dct_put (I : Inv X pins σ H s) (hu : X.A.units + 65 < cLine) (S : Rel m X ρ H st) {n : Nat} {a : Addr} {kvs : List (D × D)} {k d : D} {y v : V} {u z : Value} (ha : ρ[n]? = some a) (g : st.get n = some (.dct false kvs)) (hk : kkOk kvs k = true) (hl : kvs.length < sizeLine)
    (r : Rep X.K ρ H k y) (ru : RelV y u) (rd : Rep X.K ρ H d v) (rv : RelV v z) {Q : Unit → Shared → Prop} {E : Value → Shared → Prop}
    (h : ∀ H' s', Inv X pins σ H' s' → Step ρ H ρ H' → Rel m X ρ H' (st.set n (.dct false (putD kvs k d))) → Q () s') : wpAny (model X.prog X.w) X.A (setItem (.ref a) u z) Q E s := by
  obtain ⟨hz, hs, hv⟩ := dict_view S ha g hk
  have hz' : (putD kvs k d).length ≤ sizeLine := Nat.le_trans (putD_len kvs k d) hl
  rcases hv with ⟨j, kv, hj, q, lp⟩ | ⟨h2, hv⟩
  · obtain rfl := leafK_rep hj r
    have e : (lookD kvs k).isSome = (valV kv j).isSome := by
      rcases lp_look hj lp with ⟨h1, h2⟩ | ⟨d, v, h1, h2, _⟩ <;> rw [h1, h2] <;> rfl
    have q : H a = some (.dK kv) := q
    refine d_setItem (by omega) I (.inl ⟨kv, j, q, rfl, by rw [← paired_len lp]; exact hl, rfl⟩) ru rv fun s' I' => ?_
    obtain ⟨S', stp⟩ := SRel.dset (o := .dK (putK kv j v)) (kvs := putD kvs k d) S ha (fun o u z => by rw [q] at z; cases z) fun stp => ⟨hz', hs, .inl ⟨_, upd_same, by
      have := LPairs.put hj rd lp e
      exact paired_imp this fun p q z => ⟨z.1, Rep.mono S stp _ _ z.2⟩⟩⟩
    exact h _ s' I' stp S'
  · obtain ⟨xs0, rfl, _⟩ := kk2 h2
    cases r with
    | tup q1 q2 =>
      rename_i b _
      cases ru
      have hkey := key_is I h2 (.tup q1 q2)
      have fin : ∀ (xs : List (NestedKey × Addr × Value)) (o0 : HO) (h' : Heap), H a = some o0 → Mut (some o0) → TPairs X.K ρ H kvs xs → h'.DictOfH (nestedKind X.prog X.w) a (storedH xs (nkey (.tup xs0)) b z) → Heap.SameBut a s.heap h' →
          (lookD kvs (.tup xs0)).isSome = (atKey xs (nkey (.tup xs0))).isSome → ∀ tk, Q () { s with heap := h', toks := tk } := fun xs o0 h' e0 mu tp hm' hsb e tk => by
        obtain ⟨o, es, ep, e1, e2, e3, e4, e5, e6⟩ := hm'
        have tp' := TPairs.put (k := .tup xs0) h2 (.tup q1 q2) rd rv tp e
        have raw : rawD X.prog X.w a (storedH xs (nkey (.tup xs0)) b z) h' := ⟨o, es, ep, e1, e2, e3, e4⟩
        have I' : Inv X pins σ (upd H a (.ext (rawD X.prog X.w a (storedH xs (nkey (.tup xs0)) b z)))) { s with heap := h', toks := tk } :=
          I.write (x := a) (e := a) (by rw [e0]; exact mu) (.inl rfl) (fun b' u' hb hu' => (hsb.2 b' hb).trans hu') ⟨o, e1⟩ ⟨raw, ⟨o, e1⟩, fun h1 h2 r k => rawD_stay r k⟩
        obtain ⟨S', stp⟩ := SRel.dset (o := .ext (rawD X.prog X.w a (storedH xs (nkey (.tup xs0)) b z))) (kvs := putD kvs (.tup xs0) d) S ha (fun o u z => by rw [e0] at z; cases z; exact mu) fun stp => ⟨hz', hs, .inr ⟨putD_ne _ _ _, _, upd_same, paired_imp tp' fun p q z => ⟨z.1, z.2.1, Rep.mono S stp _ _ z.2.2.1, let ⟨v, h1, h2⟩ := z.2.2.2; ⟨v, h1, Rep.mono S stp _ _ h2⟩⟩, e6⟩⟩
        exact h _ _ I' stp S'
      rcases hv with ⟨rfl, q⟩ | ⟨xs, ne, q, tp, nd⟩
      · have q' : H a = some (.dK []) := q
        exact wpAny_setItem_heap (hsz := Nat.zero_le _) (room8 hu) hkey (empty_of I q) fun h' hm' hsb => fin [] _ h' q' trivial .nil hm' hsb rfl _
      · have q' : H a = some (.ext _) := q
        refine wpAny_setItem_heap (hsz := by rw [← paired_len tp]; exact hz) (room8 hu) hkey (dictOfH I q tp nd) fun h' hm' hsb => fin xs _ h' q' trivial tp hm' hsb ?_ _
        rcases tp_look h2 tp with ⟨h1, h2⟩ | ⟨d, p, v, h1, h2, _⟩ <;> rw [h1, h2] <;> rfl
end
end VI
/-! VIfb: None asked of a dict with tuple keys. -/
namespace VI
open PySem PySem.Spec PyProof.Rows L2
variable [LL]
theorem eqB_none {prog : Program} {w : World} {A : Around} {E : Value → Shared → Prop} {s : Shared} {a : Addr} {dd : List PyData} {as : List Addr} {Q : Bool → Shared → Prop} (hr : Reads s.heap (.ref a) (.tuple dd) as) (hs : SeqAt.shaped (.tuple dd) = true) (hu : A.units + 64 < cLine) (h : Q false s) :
    wpAny (model prog w) A (eqBool (.ref a) .none) Q E s := by
  unfold eqBool
  refine wpAny_holding ?_
  rw [if_neg (fun z => by have := eq_of_beq z; cases this)]
  show wpAny _ _ (compareOp .Eq (.ref a) .none >>= _) _ _ _
  refine wpAny_bind (eq_dataH hr .none hs rfl hu ?_)
  have e : PyData.eqv (.tuple dd) .none = false := by simp [PyData.eqv]
  rw [e]
  exact wpAny_truthy_bool h
theorem tell_none {prog : Program} {w : World} {A : Around} {E : Value → Shared → Prop} {s : Shared} {stored : List Value} {Q : Bool → Shared → Prop}
    (hst : ∀ v ∈ stored, ∃ k b, v = .ref b ∧ (nestedKind prog w).is s.heap k b) (h : Q false s) : wpAny (model prog w) A (tableMayTell .none stored) Q E s := by
  unfold tableMayTell
  split
  · exact wpAny_pure h
  · refine wpAny_bind (quiet_key .none .none 8 s .none (by decide) A E _ ?_)
    show wpAny _ _ (forIn stored (none, ()) _ >>= _) _ _ _
    refine wpAny_bind (wpAny_forIn_list _ (fun rest r s' => s' = s ∧ r = (none, ()) ∧ ∀ v ∈ rest, ∃ k b, v = .ref b ∧ (nestedKind prog w).is s.heap k b) _ (fun x rest r s' hI => ?_) (fun r s' hI => ?_) stored (none, ()) ⟨rfl, rfl, hst⟩)
    · obtain ⟨rfl, rfl, hv⟩ := hI
      obtain ⟨k, b, rfl, hk⟩ := hv x List.mem_cons_self
      refine wpAny_bind ((nestedKind prog w).quiet hk (wpAny_pure ?_))
      exact ⟨rfl, rfl, fun v hv' => hv v (List.mem_cons_of_mem _ hv')⟩
    · obtain ⟨rfl, rfl, _⟩ := hI
      exact wpAny_pure h
theorem find_none {prog : Program} {w : World} {A : Around} {E : Value → Shared → Prop} {s : Shared} {d : Addr} {o : Obj} {es : Array DictEntry} {ep : Nat} {xs : List (NestedKey × Addr × Value)} {hN : Int} {Q : Option Nat → Shared → Prop}
    (hu : A.units + 64 < cLine) (ho : s.heap.get? d = some o) (hd : o.data = .dict es ep) (he : es.toList = xs.map (entryOfKey (nestedKind prog w))) (his : ∀ x ∈ xs, (nestedKind prog w).is s.heap x.1 x.2.1)
    (hrd : ∀ x ∈ xs, ∃ dd as, Reads s.heap (.ref x.2.1) (.tuple dd) as ∧ SeqAt.shaped (.tuple dd) = true) (h : Q none s) : wpAny (model prog w) A (dictFind d .none hN) Q E s := by
  have hmem : ∀ (i : Nat) (e : DictEntry), es[i]? = some e → ∃ x ∈ xs, e.key = .ref x.2.1 := by
    intro i e hi
    have : e ∈ es.toList := Array.mem_toList_iff.mpr (Array.mem_of_getElem? hi)
    rw [he] at this
    obtain ⟨x, hx, rfl⟩ := List.mem_map.mp this
    exact ⟨x, hx, rfl⟩
  unfold dictFind
  refine wpAny_holding (wpAny_bind (wpAny_dictEntries ho hd ?_))
  refine wpAny_ite_split (fun hall => ?_) (fun hall => ?_)
  · unfold dictWalkPlain
    refine wpAny_bind (wpAny_forIn_list _ (fun rest r s' => s' = s ∧ r = (none, ())) _ (fun i rest r s' hI => ?_) (fun r s' hI => ?_) _ (none, ()) ⟨rfl, rfl⟩)
    · obtain ⟨rfl, rfl⟩ := hI
      cases hi : es[i]? with
      | none => exact wpAny_pure ⟨rfl, rfl⟩
      | some e =>
        simp only []
        split
        · obtain ⟨x, hx, hk⟩ := hmem i e hi
          obtain ⟨dd, as, r1, r2⟩ := hrd x hx
          rw [hk]
          refine wpAny_bind (wpAny_dictEpoch ho hd (wpAny_bind (eqB_none r1 r2 hu (wpAny_bind (wpAny_dictEpoch ho hd ?_)))))
          refine wpAny_ite_split (fun hb => absurd hb (by simp)) (fun _ => ?_)
          first
            | exact wpAny_bind (wpAny_rule (wpAny_pure ⟨rfl, rfl⟩))
            | exact wpAny_bind (wpAny_rule (wpAny_ite_split (fun hb => by cases hb) fun _ => wpAny_pure ⟨rfl, rfl⟩))
        · exact wpAny_pure ⟨rfl, rfl⟩
    · obtain ⟨rfl, rfl⟩ := hI
      exact wpAny_pure h
  · have hst : ∀ v ∈ List.filterMap (fun i => Option.map (fun x => x.key) es[i]?) (placesWithHash es.size (fun i => Option.map (fun x => x.hash) es[i]?) hN), ∃ k b, v = .ref b ∧ (nestedKind prog w).is s.heap k b := by
      intro v hv
      obtain ⟨i, _, hi⟩ := List.mem_filterMap.mp hv
      cases hei : es[i]? with
      | none => rw [hei] at hi; cases hi
      | some e =>
        rw [hei] at hi
        cases hi
        obtain ⟨x, hx, hk⟩ := hmem i e hei
        exact ⟨x.1, x.2.1, hk, his x hx⟩
    refine wpAny_ite_split (fun hb => ?_) (fun _ => ?_)
    · have hb := eq_of_beq hb
      obtain ⟨k, b, e, _⟩ := hst .none (by rw [hb]; exact List.mem_cons_self)
      cases e
    refine wpAny_bind (tell_none hst ?_)
    refine wpAny_ite_split (fun hb => by cases hb) (fun _ => ?_)
    refine wpAny_bind (wpAny_forIn_list _ (fun rest r s' => s' = s ∧ r = (none, none)) _ (fun i rest r s' hI => ?_) (fun r s' hI => ?_) _ (none, none) ⟨rfl, rfl⟩)
    · obtain ⟨rfl, rfl⟩ := hI
      cases hi : es[i]? with
      | none => exact wpAny_pure ⟨rfl, rfl⟩
      | some e =>
        simp only []
        split
        · obtain ⟨x, hx, hk⟩ := hmem i e hi
          obtain ⟨dd, as, r1, r2⟩ := hrd x hx
          rw [hk]
          refine wpAny_bind (wpAny_dictEpoch ho hd (wpAny_bind (eqB_none r1 r2 hu (wpAny_bind (wpAny_dictEpoch ho hd ?_)))))
          refine wpAny_ite_split (fun hb => absurd hb (by simp)) (fun _ => ?_)
          first
            | exact wpAny_bind (wpAny_rule (wpAny_pure ⟨rfl, rfl⟩))
            | exact wpAny_bind (wpAny_rule (wpAny_ite_split (fun hb => by cases hb) fun _ => wpAny_pure ⟨rfl, rfl⟩))
        · exact wpAny_pure ⟨rfl, rfl⟩
    · obtain ⟨rfl, rfl⟩ := hI
      exact wpAny_pure h
theorem get_none {prog : Program} {w : World} {A : Around} {E : Value → Shared → Prop} {s : Shared} {d : Addr} {xs : List (NestedKey × Addr × Value)} {Q : Option Value → Shared → Prop}
    (hu : A.units + 64 < cLine) (hm : s.heap.DictOfH (nestedKind prog w) d xs) (hrd : ∀ x ∈ xs, ∃ dd as, Reads s.heap (.ref x.2.1) (.tuple dd) as ∧ SeqAt.shaped (.tuple dd) = true)
    (h : Q none { s with toks := s.toks + NestedKey.none.draws }) : wpAny (model prog w) A (dictGet d .none) Q E s := by
  obtain ⟨o, es, ep, ho, _, hd, he, his, _⟩ := hm
  unfold dictGet
  refine wpAny_holding (wpAny_bind (pyHash_key .none .none A s _ .none (by simp only [NestedKey.depth]; omega) ?_))
  exact wpAny_bind (find_none (s := { s with toks := s.toks + NestedKey.none.draws }) hu ho hd he his hrd (wpAny_pure h))
theorem has_none {prog : Program} {w : World} {A : Around} {E : Value → Shared → Prop} {s : Shared} {d : Addr} {xs : List (NestedKey × Addr × Value)} {Q : Bool → Shared → Prop}
    (hu : A.units + 65 < cLine) (hs : (d == sysModules) = false) (hm : s.heap.DictOfH (nestedKind prog w) d xs) (hrd : ∀ x ∈ xs, ∃ dd as, Reads s.heap (.ref x.2.1) (.tuple dd) as ∧ SeqAt.shaped (.tuple dd) = true)
    (h : Q false { s with toks := s.toks + NestedKey.none.draws }) : wpAny (model prog w) A (contains (.ref d) .none) Q E s := by
  refine wpAny_contains_slot hm.typeIs F.slot_dict_contains (wpAny_call_entry F.slot_dict_contains hm.typeIs F.entry_dict_contains ?_ (F.args_dict_contains_2 _ _))
  show wpAny _ _ (dictGet d .none >>= _) _ _ _
  refine wpAny_bind (get_none (show A.in1.units + 64 < cLine by show A.units + 1 + 64 < cLine; omega) hm hrd ?_)
  show wpAny _ _ (Builtin.Dict.pendingKey? d .none >>= _) _ _ _
  exact wpAny_bind (wpAny_pendingKey_other hs (wpAny_pure ⟨_, rfl, wpAny_truthy_bool h⟩))
section
variable {m : Md} {E : XK} {X : Cx} {ρ : List Addr} {H : Hp} {st : Store} {pins : List (Addr × Obj)} {σ : L2.St} {s : Shared}
theorem dct_none (I : Inv X pins σ H s) (hu : X.A.units + 65 < cLine) (S : Rel m X ρ H st) {n : Nat} {a : Addr} {lk : Bool} {kvs : List (D × D)} {k : D} {y : V} {u : Value} (ha : ρ[n]? = some a) (g : st.get n = some (.dct lk kvs)) (hk : noneIn k kvs st = true) (r : Rep X.K ρ H k y) (ru : RelV y u)
    {Q : Bool → Shared → Prop} {EE : Value → Shared → Prop} (h : ∀ s', Inv X pins σ H s' → Q false s') : wpAny (model X.prog X.w) X.A (contains (.ref a) u) Q EE s := by
  cases kvs with
  | nil => cases k <;> cases hk
  | cons p0 rest =>
    cases r with
    | non =>
      cases ru
      simp only [noneIn, Bool.and_eq_true, beq_iff_eq] at hk
      obtain ⟨h2, hs⟩ := hk
      obtain ⟨ps, hps⟩ := Option.isSome_iff_exists.mp hs
      obtain ⟨o, g', r⟩ := S.ob n a ha
      rw [g] at g'; cases g'
      obtain ⟨hz, hsy, r⟩ := r
      rcases r with ⟨kv, q, r⟩ | ⟨ne, xs, q, tp, nd⟩
      · exfalso
        cases r with
        | cons hp _ =>
          obtain ⟨ys, e, _⟩ := kk2 h2
          rw [e] at hp
          cases hp.1
      · refine has_none hu hsy (dictOfH I q tp nd) (fun x hx => ?_) (h _ (I.tok _))
        have key : ∀ (kvs : List (D × D)) (xs : List (NestedKey × Addr × Value)) (ps : List Pd), TPairs X.K ρ H kvs xs → allOpt (fun q : D × D => dat 58 st q.1) kvs = some ps → ∀ x ∈ xs, ∃ dd as, Reads s.heap (.ref x.2.1) (.tuple dd) as ∧ SeqAt.shaped (.tuple dd) = true := by
          intro kvs
          induction kvs with
          | nil => intro xs ps tp _ x hx; cases tp; cases hx
          | cons p kvs ih =>
            intro xs ps tp hps x hx
            cases tp with
            | cons hq tp =>
              unfold allOpt at hps
              cases e1 : dat 58 st p.1 with
              | none => simp only [e1] at hps; cases hps
              | some pd =>
                cases e2 : allOpt (fun q : D × D => dat 58 st q.1) kvs with
                | none => simp only [e1, e2] at hps; cases hps
                | some pds =>
                  rcases List.mem_cons.mp hx with rfl | hx
                  · obtain ⟨k2', _, rk, _⟩ := hq
                    obtain ⟨a1, a2, a3⟩ := dat_ok S 58 _ _ _ e1 rk
                    obtain ⟨as, hr⟩ := Dp.reads I _ _ _ a1 (show RelV (.ref x.2.1) (.ref x.2.1) from rfl)
                    obtain ⟨ys, e, _⟩ := kk2 k2'
                    rw [e] at e1
                    obtain ⟨qs, _, rfl⟩ : ∃ qs, True ∧ pd = .tup qs := by
                      unfold dat at e1
                      obtain ⟨qs, _, e⟩ := Option.map_eq_some_iff.mp e1
                      exact ⟨qs, trivial, e.symm⟩
                    exact ⟨_, as, hr, shaped_of a2 a3 (by decide)⟩
                  · exact ih _ _ tp e2 x hx
        exact key _ _ _ tp hps x hx
    | _ => cases hk
end
end VI
/-! VIeb: == of dicts with tuple keys, and of tuples with such dicts in them. -/
namespace VI
open PySem PySem.Spec PyProof.Rows L2
variable [LL]
section
variable {prog : Program} {w : World} {K : Type} [DecidableEq K] {knd : HeapKind prog w K} {A : Around} {E : Value → Shared → Prop} {s : Shared}
inductive HitsH (prog : Program) (w : World) {K : Type} [DecidableEq K] (A : Around) (s : Shared) (xb : List (K × Addr × Value)) : List (K × Addr × Value) → Bool → Prop
  | nil : HitsH prog w A s xb [] true
  | miss {k : K} {p : Addr × Value} {r : List (K × Addr × Value)} : atKey xb k = none → HitsH prog w A s xb ((k, p) :: r) false
  | hit {k : K} {p q : Addr × Value} {r : List (K × Addr × Value)} {e b : Bool} : atKey xb k = some q → SeqAt.EqIn prog w A s p.2 q.2 e → HitsH prog w A s xb r b → HitsH prog w A s xb ((k, p) :: r) (e && b)
theorem HitsH.inv {xb : List (K × Addr × Value)} {k : K} {p : Addr × Value} {r : List (K × Addr × Value)} {b : Bool} (h : HitsH prog w A s xb ((k, p) :: r) b) :
    (atKey xb k = none ∧ b = false) ∨ ∃ q e b', atKey xb k = some q ∧ SeqAt.EqIn prog w A s p.2 q.2 e ∧ HitsH prog w A s xb r b' ∧ b = (e && b') := by
  cases h with
  | miss hn => exact .inl ⟨hn, rfl⟩
  | hit hy he hr => exact .inr ⟨_, _, _, hy, he, hr, rfl⟩
theorem samePairsH {nm : String} {a b : Addr} {xa xb : List (K × Addr × Value)} {r : Bool} {Q : Bool → Shared → Prop} (ha : (a == sysModules) = false) (hb : (b == sysModules) = false) (hu : knd.room A)
    (da : s.heap.DictOfH knd a xa) (db : s.heap.DictOfH knd b xb) (hits : xa.length = xb.length → HitsH prog w A s xb xa r) (h : Q (xa.length == xb.length && r) s) :
    wpAny (model prog w) A (Builtin.Dict.samePairs nm a b) Q E s := by
  obtain ⟨oa, es, ep, hoa, _, hda, hea, hisa, hna⟩ := da
  obtain ⟨ob, es', ep', hob, _, hdb, heb, hisb, hnb⟩ := db
  have hla : xa.length = es.size := (size_of_entries hea).symm
  have hlb : xb.length = es'.size := (size_of_entries heb).symm
  rw [hla, hlb] at h
  unfold Builtin.Dict.samePairs Builtin.Dict.showsAll
  rw [if_neg (show ¬ (a == sysModules) = true by rw [ha]; exact Bool.false_ne_true), if_neg (show ¬ (b == sysModules) = true by rw [hb]; exact Bool.false_ne_true)]
  refine wpAny_bind (wpAny_pure (wpAny_bind (wpAny_pure ?_)))
  refine wpAny_bind (wpAny_dictEntries hoa hda ?_)
  dsimp only
  refine wpAny_bind (wpAny_dictEntries hob hdb ?_)
  by_cases hsz : es.size = es'.size
  case neg =>
    rw [if_pos (by simpa using hsz)]
    have hbf : (es.size == es'.size) = false := by simpa using hsz
    rw [hbf, Bool.false_and] at h
    exact wpAny_bind (wpAny_rule (wpAny_pure h))
  case pos =>
    have h' : Q r s := by simpa [hsz] using h
    have hits' := hits (by rw [hla, hlb]; exact hsz)
    rw [if_neg (by rw [hsz]; simp)]
    refine wpAny_bind (wpAny_dictEpoch hoa hda ?_)
    refine wpAny_bind ?_
    rw [Std.Legacy.Range.forIn_eq_forIn_range']
    simp only [Std.Legacy.Range.size, Nat.sub_zero, Nat.add_sub_cancel, Nat.div_one]
    refine wpAny_forIn_list _
      (fun rest q s' => s' = s ∧ q = (none, ()) ∧ ∃ i, rest = List.range' i (es.size - i) ∧ i ≤ es.size ∧ HitsH prog w A s xb (xa.drop i) r)
      _ ?_ ?_ _ _ ⟨rfl, rfl, 0, by simp, Nat.zero_le _, hits'⟩
    · rintro x rest q s' ⟨rfl, rfl, i, hr, hi, hpre⟩
      have hlt : i < es.size := by
        rcases Nat.lt_or_ge i es.size with h | h
        · exact h
        · rw [Nat.sub_eq_zero_of_le h] at hr; simp at hr
      obtain ⟨rfl, hrest⟩ : x = i ∧ rest = List.range' (i + 1) (es.size - (i + 1)) := by
        have e : es.size - i = (es.size - (i + 1)) + 1 := by omega
        rw [e, List.range'_succ] at hr
        injection hr with h1 h2
        exact ⟨h1, h2⟩
      refine wpAny_bind (wpAny_dictEntries hoa hda ?_)
      rw [Array.getElem?_eq_getElem hlt]
      have hlt' : x < xa.length := by rw [hla]; exact hlt
      obtain ⟨k, p, hkv⟩ : ∃ k p, xa[x] = (k, p) := ⟨_, _, rfl⟩
      have hdrop : xa.drop x = (k, p) :: xa.drop (x + 1) := by rw [← hkv]; exact List.drop_eq_getElem_cons hlt'
      have hent : es[x] = entryOfKey knd (k, p) := by
        have := entry_at hea x
        rw [Array.getElem?_eq_getElem hlt, List.getElem?_eq_getElem hlt', hkv] at this
        exact Option.some.inj this
      have hkey : knd.is s'.heap k p.1 := by
        have := hisa xa[x] (List.getElem_mem hlt')
        rw [hkv] at this
        exact this
      rw [hdrop] at hpre
      rw [hent]
      show wpAny _ _ (holding [Value.ref p.1, p.2] _ >>= _) _ _ _
      refine wpAny_bind (wpAny_holding (wpAny_bind (wpAny_dictFind_heap hu hkey hob hdb heb hisb hnb (fun hno => ?_) (fun j q hj => ?_))))
      · have hn : atKey xb k = none := atKey_none_of_get hno
        rcases hpre.inv with ⟨_, er⟩ | ⟨y, _, _, hy, _⟩
        · rw [er] at h'
          refine wpAny_pure ?_
          show wpAny _ _ (if (!false) = true then _ else _) _ _ _
          rw [if_pos (by decide)]
          exact wpAny_pure (wpAny_pure h')
        · rw [hn] at hy; exact nomatch hy
      · have hv' : atKey xb k = some q := atKey_of_get hnb hj
        have hjl : j < xb.length := (List.getElem?_eq_some_iff.mp hj).1
        have hjs : j < es'.size := by rw [← hlb]; exact hjl
        have hent' : es'[j]? = some (entryOfKey knd (k, q)) := by rw [entry_at heb j, hj]; rfl
        refine wpAny_bind (wpAny_dictEntries hob hdb ?_)
        rw [hent']
        rcases hpre.inv with ⟨hn, _⟩ | ⟨y, e, b', hy, he, hrr, er⟩
        · rw [hv'] at hn; exact nomatch hn
        · have ey : q = y := Option.some.inj (hv'.symm.trans hy)
          rw [← ey] at he
          refine wpAny_holding (he _ _ ?_)
          cases e with
          | false =>
            rw [er, Bool.false_and] at h'
            show wpAny _ _ (if (!false) = true then _ else _) _ _ _
            rw [if_pos (by decide)]
            exact wpAny_pure (wpAny_pure h')
          | true =>
            rw [Bool.true_and] at er
            rw [← er] at hrr
            show wpAny _ _ (if (!true) = true then _ else _) _ _ _
            rw [if_neg (by decide)]
            refine wpAny_bind (wpAny_dictEpoch hoa hda ?_)
            rw [if_neg (by simp)]
            exact wpAny_pure ⟨rfl, rfl, x + 1, hrest, hlt, hrr⟩
    · rintro q s' ⟨rfl, rfl, i, hr, hi, hpre⟩
      have hin : i = es.size := by
        rcases Nat.lt_or_ge i es.size with h | h
        · have e : es.size - i = (es.size - (i + 1)) + 1 := by omega
          rw [e, List.range'_succ] at hr; exact nomatch hr
        · exact Nat.le_antisymm hi h
      refine wpAny_pure ?_
      rw [hin, ← hla, List.drop_length] at hpre
      cases hpre
      exact h'
theorem rc_dictsH {a b : Addr} {xa xb : List (K × Addr × Value)} {r : Bool} (ha : (a == sysModules) = false) (hb : (b == sysModules) = false) (hk : knd.room A.in1)
    (da : s.heap.DictOfH knd a xa) (db : s.heap.DictOfH knd b xb) (hu : A.units < cLine) (hits : xa.length = xb.length → HitsH prog w A.in1 s xb xa r) (E Q : Value → Shared → Prop) (h : Q (.bool (xa.length == xb.length && r)) s) :
    wpAny (model prog w) A (richCompare .Eq (.ref a) (.ref b)) Q E s := by
  refine wpAny_richCompare_same_room (op := .Eq) da.typeIs db.typeIs PySem.F.slot_dict_eq (wpAny_call_entry PySem.F.slot_dict_eq da.typeIs PySem.F.entry_dict_eq ?_ (PySem.F.args_dict_eq_2 _ _)) hu
  show wpAny _ _ (Builtin.Dict.dictSlotArgs "__eq__" ⟨[.ref a, .ref b], []⟩ >>= _) _ _ s
  refine wpAny_bind ?_
  unfold Builtin.Dict.dictSlotArgs
  refine wpAny_bind (wpAny_notOrdered_dict da.typeIs ?_)
  show wpAny _ _ (pure (Value.ref a, Value.ref b)) _ _ s
  refine wpAny_pure ?_
  refine wpAny_bind (wpAny_isInstance (T := "dict") db.typeIs PySem.F.sub_dict_dict ?_)
  simp only [Bool.not_true, Bool.false_eq_true, if_false]
  refine wpAny_bind (wpAny_pure (wpAny_bind (wpAny_pure ?_)))
  refine wpAny_bind (samePairsH ha hb hk da db hits ?_)
  refine wpAny_pure ⟨_, rfl, ?_, ?_⟩
  · exact fun x => nomatch x
  · simpa using h
end
end VI
namespace VI
open PySem PySem.Spec PyProof.Rows L2
variable [LL]
section
variable {m : Md} {E : XK} {X : Cx} {ρ : List Addr} {H : Hp} {st : Store} {pins : List (Addr × Obj)} {σ : L2.St} {s : Shared}
theorem eqS4_ok (I : Inv X pins σ H s) (S : Rel m X ρ H st) {d e : D} {x y : V} {u v : Value} {b : Bool} (r1 : Rep X.K ρ H d x) (r2 : Rep X.K ρ H e y) (ru : RelV x u) (rv : RelV y v) (h : eqS4 st d e = some b) (A : Around) (hu : A.units + 40 < cLine) : SeqAt.EqIn X.prog X.w A s u v b := by
  unfold eqS4 at h
  split at h
  · rename_i p q h1 h2
    cases h
    obtain ⟨a1, a2, a3⟩ := dat_ok S 40 _ _ _ h1 r1
    obtain ⟨b1, b2, b3⟩ := dat_ok S 40 _ _ _ h2 r2
    obtain ⟨as, q1⟩ := Dp.reads I _ _ _ a1 ru
    obtain ⟨bs, q2⟩ := Dp.reads I _ _ _ b1 rv
    have := (SeqAt.eqAt_reads _ _ A s _ _ as bs q1 q2 a2 b2 (by have := Nat.min_le_left p.py.depth q.py.depth; omega)).inModel X.prog X.w
    rwa [Pd.py_eqv] at this
  · cases h
theorem dct_H (I : Inv X pins σ H s) (S : Rel m X ρ H st) {n : Nat} {a : Addr} {lk : Bool} {kvs : List (D × D)} (ha : ρ[n]? = some a) (g : st.get n = some (.dct lk kvs)) (hk : tupKeys kvs = true) :
    (a == sysModules) = false ∧ ∃ xs, s.heap.DictOfH (nestedKind X.prog X.w) a xs ∧ TPairs X.K ρ H kvs xs := by
  obtain ⟨o, g', r⟩ := S.ob n a ha
  rw [g] at g'; cases g'
  obtain ⟨hz, hs, r⟩ := r
  refine ⟨hs, ?_⟩
  rcases r with ⟨kv, q, r⟩ | ⟨ne, xs, q, tp, nd⟩
  · cases kvs with
    | nil => cases r; exact ⟨[], empty_of I q, .nil⟩
    | cons p kvs =>
      exfalso
      cases r with
      | cons hp _ =>
        unfold tupKeys at hk
        rw [List.all_cons, Bool.and_eq_true, beq_iff_eq] at hk
        obtain ⟨ys, e, _⟩ := kk2 hk.1
        have h1 := hp.1
        rw [e] at h1
        cases h1
  · exact ⟨xs, dictOfH I q tp nd, tp⟩
theorem eqKV_ok (I : Inv X pins σ H s) (S : Rel m X ρ H st) {kb : List (D × D)} {xb : List (NestedKey × Addr × Value)} (tb : TPairs X.K ρ H kb xb) (A : Around) (hu : A.units + 40 < cLine) :
    ∀ {ka : List (D × D)} {xa : List (NestedKey × Addr × Value)} {b : Bool}, TPairs X.K ρ H ka xa → eqKV st kb ka = some b → HitsH X.prog X.w A s xb xa b
  | [], [], b, .nil, h => by
    have h : some true = some b := h
    cases h
    exact .nil
  | p :: ka, q :: xa, b, .cons hp t, h => by
    obtain ⟨h2, hn, rk, v, rv, rd⟩ := hp
    obtain ⟨qk, qa, qv⟩ := q
    unfold eqKV at h
    have hn : qk = nkey p.1 := hn
    subst hn
    rcases tp_look h2 tb with ⟨e1, e2⟩ | ⟨d, z, w, e1, e2, rz, rw'⟩
    · rw [e1] at h
      cases h
      exact .miss e2
    · rw [e1] at h
      simp only at h
      cases k1 : eqS4 st p.2 d with
      | none => simp only [k1] at h; cases h
      | some e =>
        cases k2 : eqKV st kb ka with
        | none => simp only [k1, k2] at h; cases h
        | some b' =>
          simp only [k1, k2] at h
          cases h
          exact .hit e2 (eqS4_ok I S rd rw' rv rz k1 A hu) (eqKV_ok I S tb A hu t k2)
theorem eqDct_ok (I : Inv X pins σ H s) (S : Rel m X ρ H st) {i j : Nat} {a b : Addr} {r : Bool} (ha : ρ[i]? = some a) (hb : ρ[j]? = some b) (h : eqDct st i j = some r) (A : Around) (hu : A.units + 45 < cLine) :
    a ≠ b ∧ ∀ (E Q : Value → Shared → Prop), Q (.bool r) s → wpAny (model X.prog X.w) A (richCompare .Eq (.ref a) (.ref b)) Q E s := by
  unfold eqDct at h
  split at h
  · rename_i l1 ka l2 kb g1 g2
    split at h
    · rename_i hc
      obtain ⟨hne, ta, tb⟩ := hc
      obtain ⟨sa, xa, da, pa⟩ := dct_H I S ha g1 ta
      obtain ⟨sb, xb, db, pb⟩ := dct_H I S hb g2 tb
      refine ⟨fun e => ?_, fun E Q hq => ?_⟩
      · subst e
        obtain ⟨l1, e1⟩ := List.getElem?_eq_some_iff.mp ha
        obtain ⟨l2, e2⟩ := List.getElem?_eq_some_iff.mp hb
        exact hne ((List.getElem_inj S.nd).mp (e1.trans e2.symm))
      · have la := paired_len pa
        have lb := paired_len pb
        have hk : (nestedKind X.prog X.w).room A.in1 := by
          show A.units + 1 + 8 < cLine
          omega
        by_cases hl : ka.length = kb.length
        · rw [if_pos hl] at h
          refine rc_dictsH (r := r) sa sb hk da db (by omega) (fun _ => eqKV_ok I S pb A.in1 (by show A.units + 1 + 40 < cLine; omega) pa h) E Q ?_
          rw [show (xa.length == xb.length && r) = r from by rw [← la, ← lb, hl]; simp]
          exact hq
        · rw [if_neg hl] at h
          cases h
          refine rc_dictsH (r := false) sa sb hk da db (by omega) (fun z => absurd (by rw [la, lb]; exact z) hl) E Q ?_
          rw [Bool.and_false]
          exact hq
    · cases h
  · cases h
theorem eqI_ok (I : Inv X pins σ H s) (S : Rel m X ρ H st) {d e : D} {x y : V} {u v : Value} {b : Bool} (r1 : Rep X.K ρ H d x) (r2 : Rep X.K ρ H e y) (ru : RelV x u) (rv : RelV y v) (h : eqI st d e = some b) (A : Around) (hu : A.units + 45 < cLine) : SeqAt.EqIn X.prog X.w A s u v b := by
  unfold eqI at h
  cases k : eqS4 st d e with
  | some r =>
    rw [k] at h
    cases h
    exact eqS4_ok I S r1 r2 ru rv k A (by omega)
  | none =>
    rw [k] at h
    cases r1 with
    | ref ha =>
      cases r2 with
      | ref hb =>
        obtain ⟨hne, hk⟩ := eqDct_ok I S ha hb h A hu
        cases ru
        cases rv
        exact SeqAt.EqIn.of_refs hne hk
      | _ => cases h
    | _ => cases h
theorem eqIs_ok (I : Inv X pins σ H s) (S : Rel m X ρ H st) (A : Around) (hu : A.units + 45 < cLine) : ∀ {xs ys : List D} {vs ws : List V} {us zs : List Value} {b : Bool}, Reps X.K ρ H xs vs → Reps X.K ρ H ys ws → Vals vs us → Vals ws zs → eqIs st xs ys = some b →
    us.length = zs.length ∧ ∃ e : Nat → Bool, (∀ j (h1 : j < us.length) (h2 : j < zs.length), SeqAt.EqIn X.prog X.w A s us[j] zs[j] (e j)) ∧ (List.range us.length).all e = b
  | _, _, _, _, _, _, b, .nil, .nil, .nil, .nil, h => by
    have h : some true = some b := h
    cases h
    exact ⟨rfl, fun _ => true, (fun j h1 => by cases h1), rfl⟩
  | x :: xs, y :: ys, _, _, _, _, b, .cons a1 t1, .cons a2 t2, .cons c1 d1, .cons c2 d2, h => by
    unfold eqIs at h
    cases k1 : eqI st x y with
    | none => simp only [k1] at h; cases h
    | some p =>
      cases k2 : eqIs st xs ys with
      | none => simp only [k1, k2] at h; cases h
      | some q =>
        simp only [k1, k2] at h
        cases h
        obtain ⟨hl, e, he, hb⟩ := eqIs_ok I S A hu t1 t2 d1 d2 k2
        refine ⟨congrArg (· + 1) hl, fun j => match j with | 0 => p | j + 1 => e j, fun j h1 h2 => ?_, ?_⟩
        · cases j with
          | zero => exact eqI_ok I S a1 a2 c1 c2 k1 A hu
          | succ j => exact he j (Nat.lt_of_succ_lt_succ h1) (Nat.lt_of_succ_lt_succ h2)
        · rw [List.length_cons, List.range_succ_eq_map, List.all_cons, List.all_map]
          show (p && (List.range _).all e) = _
          rw [hb]
theorem cmp_eq (hu : X.A.units + 65 < cLine) : OpR X (compareOp .Eq) (R2D m E X (cmpV .eq)) := by
  intro pins s σ H x y v u Q I rx ry h
  obtain ⟨ρ, st, d, e, S, r1, r2, hf⟩ := h
  obtain ⟨b, hb, hg⟩ := Fin.opt hf
  clear hf
  obtain ⟨c, hc, rfl⟩ := Option.map_eq_some_iff.mp hb
  clear hb
  unfold eqV at hc
  cases k : eqS st d e with
  | some r =>
    rw [k] at hc
    cases hc
    obtain ⟨p, q, a1, a2, a3, a4, rfl⟩ := eqS_ok S r1 r2 k
    exact L2.op_eqD (by omega) pins s σ H _ _ v u Q I rx ry ⟨p, q, a1, a2, a3, a4, hg.now S (.bl _)⟩
  | none =>
    rw [k] at hc
    cases r1 with
    | ref ha =>
      cases r2 with
      | ref hb' =>
        obtain ⟨_, hk⟩ := eqDct_ok I S ha hb' hc X.A (by omega)
        cases rx
        cases ry
        exact hk _ _ ⟨.bl c, H, I, rfl, hg.now S (.bl _)⟩
      | _ => cases hc
    | tup q1 p1 =>
      cases r2 with
      | tup q2 p2 =>
        obtain ⟨us, v1, t1, _⟩ := I.tuple q1
        obtain ⟨zs, v2, t2, _⟩ := I.tuple q2
        cases rx
        cases ry
        obtain ⟨hl, f, hf1, hf2⟩ := eqIs_ok I S X.A.in1 (by show X.A.units + 1 + 45 < cLine; omega) p1 p2 v1 v2 hc
        refine SeqAt.rcIn_tuples (e := f) t1 t2 (by omega) (fun j h1 h2 => hf1 j (by simpa using h1) (by simpa using h2)) ?_
        have e1 : ((List.range (min us.toArray.size zs.toArray.size)).all f && us.toArray.size == zs.toArray.size) = c := by
          rw [List.size_toArray, List.size_toArray, ← hl, Nat.min_self, hf2]
          simp
        rw [e1]
        exact ⟨.bl c, H, I, rfl, hg.now S (.bl _)⟩
      | _ => cases hc
    | _ => cases hc
end
end VI
/-! VIg: in, places, slices, stores, built-in functions, by values. -/
namespace VI
open PySem PySem.Spec PyProof.Rows L2
variable [LL]
section
variable {m : Md} {E : XK} {X : Cx} {ρ : List Addr} {H : Hp} {st : Store}

theorem memS_ok (S : Rel m X ρ H st) {d : D} {x : V} {xs : List D} {vs : List V} {b : Bool} (r : Rep X.K ρ H d x) (rs : Reps X.K ρ H xs vs) (h : memS st d xs = some b) :
    ∃ p ps, Dp X.K H x p ∧ DpAll X.K H vs ps ∧ SeqAt.shaped p = true ∧ PyData.canLayAll0 ps = true ∧ PyData.depthAll ps ≤ 58 ∧ p.depth ≤ 58 ∧ (ps.any fun z => PyData.eqv z p) = b := by
  unfold memS at h
  split at h
  · rename_i p ps h1 h2
    cases h
    obtain ⟨a1, a2, a3⟩ := dat_ok S 58 _ _ _ h1 r
    obtain ⟨b1, b2, b3⟩ := dats_ok (fun d p v => dat_ok S 58 d p v) (allOpt_some h2) rs
    exact ⟨_, _, a1, b1, shaped_of a2 a3 (by decide), b2, b3, a3, pys_any _ _⟩
  · cases h
theorem in_seq (hu : X.A.units + 65 < cLine) (neg : Bool) {pins : List (Addr × Obj)} {s : Shared} {σ : L2.St} {x : V} {v : Value} {a : Addr} {Q : VK} (I : Inv X pins σ H s) (rx : RelV x v) {p : PyData} {ps : List PyData} {vs : List V} (hp : Dp X.K H x p) (hps : DpAll X.K H vs ps) (sp : SeqAt.shaped p = true)
    (h1 : PyData.canLayAll0 ps = true) (h3 : p.depth ≤ 58) (hq : SqL X.K H a vs ∨ SqT X.K H a vs) (q : Q (.bl (if neg then !(ps.any fun z => PyData.eqv z p) else ps.any fun z => PyData.eqv z p)) H) :
    wpAny (model X.prog X.w) X.A (compareOp (if neg then .NotIn else .In) v (.ref a)) (EP X pins σ Q) X.xe s := by
  obtain ⟨as, r1⟩ := Dp.reads I p x v hp rx
  have hu' : X.A.units + 1 + min (PyData.depthAll ps) p.depth < cLine := by
    have : min (PyData.depthAll ps) p.depth ≤ p.depth := Nat.min_le_right _ _
    omega
  rcases hq with hq | hq
  · obtain ⟨bs, r2⟩ := Dp.reads I (.list ps) (.ref a) (.ref a) (.lst hq hps) rfl
    cases neg with
    | false => exact SeqAt.in_list_reads r2 r1 h1 (SeqAt.canLay_of_shaped sp) hu' ⟨.bl _, H, I, rfl, q⟩
    | true => exact SeqAt.notIn_list_reads r2 r1 h1 (SeqAt.canLay_of_shaped sp) hu' ⟨.bl _, H, I, rfl, q⟩
  · obtain ⟨bs, r2⟩ := Dp.reads I (.tuple ps) (.ref a) (.ref a) (.tup hq hps) rfl
    cases neg with
    | false => exact SeqAt.in_tuple_reads r2 r1 h1 (SeqAt.canLay_of_shaped sp) hu' ⟨.bl _, H, I, rfl, q⟩
    | true => exact SeqAt.notIn_tuple_reads r2 r1 h1 (SeqAt.canLay_of_shaped sp) hu' ⟨.bl _, H, I, rfl, q⟩
theorem dct_asknot {pins : List (Addr × Obj)} {σ : L2.St} {s : Shared} (I : Inv X pins σ H s) (hu : X.A.units + 65 < cLine) (S : Rel m X ρ H st) {n : Nat} {a : Addr} {lk : Bool} {kvs : List (D × D)} {k : D} {y : V} {u : Value} (ha : ρ[n]? = some a) (g : st.get n = some (.dct lk kvs)) (hk : kkOk kvs k = true) (r : Rep X.K ρ H k y) (ru : RelV y u)
    {Q : Value → Shared → Prop} {E : Value → Shared → Prop} (h : ∀ s', Inv X pins σ H s' → Q (.bool !(lookD kvs k).isSome) s') : wpAny (model X.prog X.w) X.A (compareOp .NotIn u (.ref a)) Q E s := by
  obtain ⟨hz, hs, hv⟩ := dict_view S ha g hk
  rcases hv with ⟨j, kv, hj, q, lp⟩ | ⟨h2, hv⟩
  · obtain rfl := leafK_rep hj r
    have e : (lookD kvs k).isSome = (valV kv j).isSome := by
      rcases lp_look hj lp with ⟨h1, h2⟩ | ⟨d, v, h1, h2, _⟩ <;> rw [h1, h2] <;> rfl
    refine d_notIn (by omega) I (.inl ⟨kv, j, q.rd, rfl, rfl⟩) ru fun s' I' => ?_
    rw [← e]; exact h s' I'
  · obtain ⟨xs0, rfl, _⟩ := kk2 h2
    cases r with
    | tup q1 q2 =>
      cases ru
      have hkey := key_is I h2 (.tup q1 q2)
      rcases hv with ⟨rfl, q⟩ | ⟨xs, ne, q, tp, nd⟩
      · exact wpAny_bind (wpAny_contains_heap (room8 hu) hkey hs (empty_of I q) (wpAny_pure (h _ (I.tok _))))
      · refine wpAny_bind (wpAny_contains_heap (room8 hu) hkey hs (dictOfH I q tp nd) (wpAny_pure ?_))
        have e : (lookD kvs (.tup xs0)).isSome = (atKey xs (nkey (.tup xs0))).isSome := by
          rcases tp_look h2 tp with ⟨h1, h2⟩ | ⟨d, p, v, h1, h2, _⟩ <;> rw [h1, h2] <;> rfl
        rw [← e]
        exact h _ (I.tok _)
theorem cmp_in (hu : X.A.units + 65 < cLine) : OpR X (compareOp .In) (R2D m E X (cmpV .inn)) := by
  intro pins s σ H x y v u Q I rx ry h
  obtain ⟨ρ, st, d, e, S, r1, r2, hf⟩ := h
  obtain ⟨b, hb, hf⟩ := Fin.opt hf
  obtain ⟨c, hc, rfl⟩ := Option.map_eq_some_iff.mp hb
  cases r2 with
  | str z =>
    unfold inV at hc
    simp only at hc
    split at hc
    · rename_i c'
      cases hc
      cases r1
      refine L2.op_in_sign pins s σ H _ _ v u Q I rx ry ⟨c', toS z, rfl, rfl, ?_⟩
      rw [toS_list]
      exact hf.now S (.bl _)
    · cases hc
  | tup q rs =>
    obtain ⟨p, ps, a1, a2, a3, a4, a5, a6, rfl⟩ := memS_ok S r1 rs hc
    cases ry
    exact in_seq hu false I rx a1 a2 a3 a4 a6 (.inr q) (hf.now S (.bl _))
  | ref ha =>
    unfold inV at hc
    simp only at hc
    split at hc
    · rename_i xs g
      obtain ⟨vs, e1, rs⟩ := S.lst_at ha g
      obtain ⟨p, ps, a1, a2, a3, a4, a5, a6, rfl⟩ := memS_ok S r1 rs hc
      cases ry
      exact in_seq hu false I rx a1 a2 a3 a4 a6 (.inl (SqL.of e1)) (hf.now S (.bl _))
    · rename_i xs g
      obtain ⟨vs, e1, rs⟩ := S.flst_at ha g
      obtain ⟨p, ps, a1, a2, a3, a4, a5, a6, rfl⟩ := memS_ok S r1 rs hc
      cases ry
      exact in_seq hu false I rx a1 a2 a3 a4 a6 (.inl (.inl e1)) (hf.now S (.bl _))
    · rename_i lk kvs g
      split at hc
      · rename_i hk
        cases hc
        cases ry
        exact dct_ask I hu S ha g hk r1 rx fun s' I' => ⟨.bl _, H, I', rfl, hf.now S (.bl _)⟩
      · split at hc
        · rename_i hk
          cases hc
          cases ry
          exact wpAny_bind (dct_none I hu S ha g hk r1 rx fun s' I' => wpAny_pure ⟨.bl _, H, I', rfl, hf.now S (.bl _)⟩)
        · cases hc
    · cases hc
  | _ => cases hc
theorem cmp_notin (hu : X.A.units + 65 < cLine) : OpR X (compareOp .NotIn) (R2D m E X (cmpV .notin)) := by
  intro pins s σ H x y v u Q I rx ry h
  obtain ⟨ρ, st, d, e, S, r1, r2, hf⟩ := h
  obtain ⟨b, hb, hf⟩ := Fin.opt hf
  obtain ⟨c, hc, rfl⟩ := Option.map_eq_some_iff.mp hb
  cases r2 with
  | str z =>
    unfold inV at hc
    simp only at hc
    split at hc
    · rename_i c'
      cases hc
      cases r1
      refine L2.op_notIn_sign pins s σ H _ _ v u Q I rx ry ⟨c', toS z, rfl, rfl, ?_⟩
      rw [toS_list]
      exact hf.now S (.bl _)
    · cases hc
  | tup q rs =>
    obtain ⟨p, ps, a1, a2, a3, a4, a5, a6, rfl⟩ := memS_ok S r1 rs hc
    cases ry
    exact in_seq hu true I rx a1 a2 a3 a4 a6 (.inr q) (hf.now S (.bl _))
  | ref ha =>
    unfold inV at hc
    simp only at hc
    split at hc
    · rename_i xs g
      obtain ⟨vs, e1, rs⟩ := S.lst_at ha g
      obtain ⟨p, ps, a1, a2, a3, a4, a5, a6, rfl⟩ := memS_ok S r1 rs hc
      cases ry
      exact in_seq hu true I rx a1 a2 a3 a4 a6 (.inl (SqL.of e1)) (hf.now S (.bl _))
    · rename_i xs g
      obtain ⟨vs, e1, rs⟩ := S.flst_at ha g
      obtain ⟨p, ps, a1, a2, a3, a4, a5, a6, rfl⟩ := memS_ok S r1 rs hc
      cases ry
      exact in_seq hu true I rx a1 a2 a3 a4 a6 (.inl (.inl e1)) (hf.now S (.bl _))
    · rename_i lk kvs g
      split at hc
      · rename_i hk
        cases hc
        cases ry
        exact dct_asknot I hu S ha g hk r1 rx fun s' I' => ⟨.bl _, H, I', rfl, hf.now S (.bl _)⟩
      · split at hc
        · rename_i hk
          cases hc
          cases ry
          exact wpAny_bind (dct_none I hu S ha g hk r1 rx fun s' I' => wpAny_pure ⟨.bl _, H, I', rfl, hf.now S (.bl _)⟩)
        · cases hc
    · cases hc
  | _ => cases hc

/-! ### places -/
theorem ixP_eq (n : Nat) (i : Int) : ixP n i = ixN n i := rfl
theorem atP_ok {ds : List D} {vs : List V} {i : Int} {d : D} (rs : Reps X.K ρ H ds vs) (h : atP ds i = some d) : ∃ v, atI vs i = some v ∧ Rep X.K ρ H d v := by
  unfold atP at h
  split at h
  · rename_i j hj
    obtain ⟨v, h1, h2⟩ := rs.get h
    refine ⟨v, ?_, h2⟩
    unfold atI
    rw [← rs.length, ← ixP_eq, hj]
    exact h1
  · cases h
theorem atP_nat {xs : List Nat} {i : Int} {c : Nat} (h : atP xs i = some c) : atI xs i = some c := by
  unfold atP at h
  split at h
  · rename_i j hj
    unfold atI
    rw [← ixP_eq, hj]
    exact h
  · cases h
theorem ix_sub (hu : X.A.units + 65 < cLine) : IxR X (R2D m E X subV) := by
  intro value slice pins s σ H x y v u Q I rx ry h hs
  obtain ⟨ρ, st, d, e, S, r1, r2, hf⟩ := h
  cases r1 with
  | tup q rs =>
    cases r2 with
    | int i =>
      obtain ⟨b, hb, hf⟩ := Fin.opt hf
      obtain ⟨w', h1, h2⟩ := atP_ok rs hb
      exact L2.ix_tup value slice pins s σ H _ _ v u Q I rx ry ⟨_, _, i, w', rfl, rfl, q, h1, hf.now S h2⟩ hs
    | _ => exact hf.elim
  | str x =>
    cases r2 with
    | int i =>
      unfold subV at hf
      simp only at hf
      split at hf
      · rename_i hl
        obtain ⟨b, hb, hf⟩ := Fin.opt hf
        obtain ⟨c, hc, rfl⟩ := Option.map_eq_some_iff.mp hb
        refine L2.ix_str value slice pins s σ H _ _ v u Q I rx ry ⟨toS x, i, c, rfl, rfl, ?_, ?_, hf.now S (.str [c])⟩ hs
        · rw [toS_len, ← line_eq]; exact hl
        · rw [toS_list]; exact atP_nat hc
      · exact hf.elim
    | _ => exact hf.elim
  | ref ha =>
    unfold subV at hf
    simp only at hf
    split at hf
    · rename_i xs g
      obtain ⟨vs, e1, rs⟩ := S.lst_at ha g
      cases r2 with
      | int i =>
        obtain ⟨b, hb, hf⟩ := Fin.opt hf
        obtain ⟨w', h1, h2⟩ := atP_ok rs hb
        exact L2.ix_list value slice pins s σ H _ _ v u Q I rx ry ⟨_, _, i, w', rfl, rfl, SqL.of e1, h1, hf.now S h2⟩ hs
      | _ => exact hf.elim
    · rename_i xs g
      obtain ⟨vs, e1, rs⟩ := S.flst_at ha g
      cases r2 with
      | int i =>
        obtain ⟨b, hb, hf⟩ := Fin.opt hf
        obtain ⟨w', h1, h2⟩ := atP_ok rs hb
        exact L2.ix_list value slice pins s σ H _ _ v u Q I rx ry ⟨_, _, i, w', rfl, rfl, .inl e1, h1, hf.now S h2⟩ hs
      | _ => exact hf.elim
    · rename_i lk kvs g
      split at hf
      · rename_i hk
        obtain ⟨b, hb, hf⟩ := Fin.opt hf
        cases rx
        refine tail_any (T := "dict") ?_ PySem.F.slot_dict_getitem.lookup (dct_item I hu S ha g hk r2 ry hb fun v' w' s' I' rv rw' => ⟨v', H, I', rw', hf.now S rv⟩) hs
        obtain ⟨o, g', r⟩ := S.ob _ _ ha
        rw [g] at g'; cases g'
        obtain ⟨hz, hsm, hv⟩ := r
        rcases hv with ⟨kv, q, _⟩ | ⟨_, xs, q, _⟩
        · obtain ⟨_, _, vs, _, o, es, ep, h1, h2, _⟩ := q.ok I
          exact ⟨o, h1, h2.1⟩
        · obtain ⟨⟨o, es, ep, h1, h2, _⟩, _⟩ := q.ok I
          exact ⟨o, h1, h2.1⟩
      · exact hf.elim
    · exact hf.elim
  | _ => exact (by cases r2 <;> exact hf.elim)
theorem sIx_eq (n d : Nat) (o : Option Int) : sIx n d o = HT.sIx n d o := by cases o <;> rfl
theorem cut_reps {ds : List D} {vs : List V} (rs : Reps X.K ρ H ds vs) (lo hi : Option Int) : Reps X.K ρ H (cut ds lo hi) (cutV vs lo hi) := by
  unfold cut cutV
  rw [rs.length, sIx_eq, sIx_eq]
  exact (rs.drop _).take _
theorem cut_str (x : List Nat) (lo hi : Option Int) : cutS (toS x) lo hi = toS (cut x lo hi) := by
  unfold cutS cut
  rw [toS_list, toS_len, sIx_eq, sIx_eq]
  rfl
/-- a slice, by the values of its parts -/
def RSl (m : Md) (E : XK) (X : Cx) : V → Option Int → Option Int → Hp → VK → Prop := fun x lo hi H Q => ∃ ρ st d, Rel m X ρ H st ∧ Rep X.K ρ H d x ∧ Fin m E X ρ H (slV d lo hi st) (rD X) Q
theorem sl_any : SlR X (RSl m E X) := by
  intro pins s σ H x v vl vu lo hi sl Q I rx hs pl pu h
  obtain ⟨ρ, st, d, S, r, hf⟩ := h
  unfold slV at hf
  cases r with
  | tup q rs =>
    refine L2.sl_tupA pins s σ H _ v vl vu lo hi sl Q I rx hs pl pu ⟨_, _, rfl, q, fun e => ?_, fun _ p hp => hf.tup S (cut_reps rs lo hi) hp⟩
    refine hf.now S (.tup q ?_)
    rename_i vs
    have ec : cutV vs lo hi = vs := by
      unfold cutV
      rw [e.1, e.2, List.drop_zero, Nat.sub_zero, List.take_length]
    have h2 := cut_reps rs lo hi
    rw [ec] at h2
    exact h2
  | str x =>
    simp only at hf
    split at hf
    · rename_i hz
      refine L2.sl_str pins s σ H _ v vl vu lo hi sl Q I rx hs pl pu ⟨toS x, rfl, by rw [toS_len, ← line_eq]; exact hz, ?_⟩
      rw [cut_str]
      exact hf.now S (.str _)
    · exact hf.elim
  | ref ha =>
    simp only at hf
    split at hf
    · rename_i xs g
      obtain ⟨vs, q, rs⟩ := S.lists ha g
      exact L2.sl_list pins s σ H _ v vl vu lo hi sl Q I rx hs pl pu ⟨_, vs, rfl, q, fun p hp => hf.lst S (cut_reps rs lo hi) hp⟩
    · exact hf.elim
  | _ => exact hf.elim

/-! ### stores -/
def RSet (m : Md) (E : XK) (X : Cx) : V → V → V → Hp → (Hp → Prop) → Prop := fun o i v H Q => ∃ ρ st a b d, Rel m X ρ H st ∧ Rep X.K ρ H a o ∧ Rep X.K ρ H b i ∧ Rep X.K ρ H d v ∧ Fin m E X ρ H (setItemV a b d st) (fun _ _ _ (_ : Unit) => True) (fun _ H' => Q H')
theorem set_any (hu : X.A.units + 65 < cLine) : PSet X (RSet m E X) := by
  intro pins s σ H o i v ov iv u Q I ro ri rv h
  obtain ⟨ρ, st, a, b, d, S, ra, rb, rd, hf⟩ := h
  cases ra with
  | ref ha =>
    unfold setItemV at hf
    simp only at hf
    split at hf
    · rename_i xs g
      obtain ⟨vs, e1, rs⟩ := S.lst_at ha g
      cases rb with
      | int k =>
        simp only at hf
        split at hf
        · rename_i j hj
          obtain ⟨S', st'⟩ := SRel.lset (ys := xs.set j d) (us := vs.set j v) S ha e1 (rs.set rd j)
          exact L2.set_list pins s σ H _ _ v ov iv u Q I ro ri rv ⟨_, vs, k, j, rfl, rfl, e1, by rw [← rs.length]; exact hj, hf ρ _ () st' S' trivial⟩
        · exact hf.elim
      | _ => exact hf.elim
    · rename_i kvs g
      split at hf
      · rename_i hk
        simp only [Bool.and_eq_true, decide_eq_true_eq] at hk
        cases ro
        exact dct_put I hu S ha g hk.1 (by rw [← line_eq]; exact hk.2) rb ri rd rv fun H' s' I' stp S' => ⟨H', I', hf ρ H' () stp S' trivial⟩
      · exact hf.elim
    · exact hf.elim
  | _ => exact hf.elim

/-! ### built-in functions -/
theorem reps1 {xs : List D} {v : V} (r : Reps X.K ρ H xs [v]) : ∃ d, xs = [d] ∧ Rep X.K ρ H d v := by
  cases r with
  | cons a b => cases b; exact ⟨_, rfl, a⟩
theorem reps_one {d : D} {vs : List V} (r : Reps X.K ρ H [d] vs) : ∃ v, vs = [v] ∧ Rep X.K ρ H d v := by
  cases r with
  | cons a b => cases b; exact ⟨_, rfl, a⟩
theorem allOpt_ints {xs : List D} {is : List Int} {vs : List V} (h : allOpt intOf xs = some is) (rs : Reps X.K ρ H xs vs) : vs = is.map V.int := by
  induction xs generalizing is vs with
  | nil => cases rs; simp only [allOpt, Option.some.injEq] at h; subst h; rfl
  | cons x xs ih =>
    unfold allOpt at h
    split at h
    · rename_i y ys h1 h2
      cases h
      cases rs with
      | cons a b =>
        cases x <;> simp only [intOf, Option.some.injEq, reduceCtorEq] at h1
        subst h1
        cases a
        rw [ih h2 b]; rfl
    · cases h
theorem allOpt_bls {xs : List D} {is : List Bool} {vs : List V} (h : allOpt blOf xs = some is) (rs : Reps X.K ρ H xs vs) : vs = is.map V.bl := by
  induction xs generalizing is vs with
  | nil => cases rs; simp only [allOpt, Option.some.injEq] at h; subst h; rfl
  | cons x xs ih =>
    unfold allOpt at h
    split at h
    · rename_i y ys h1 h2
      cases h
      cases rs with
      | cons a b =>
        cases x <;> simp only [blOf, Option.some.injEq, reduceCtorEq] at h1
        subst h1
        cases a
        rw [ih h2 b]; rfl
    · cases h
theorem allOpt_strs {xs : List D} {is : List (List Nat)} {vs : List V} (h : allOpt strOf xs = some is) (rs : Reps X.K ρ H xs vs) : vs = (is.map toS).map V.str := by
  induction xs generalizing is vs with
  | nil => cases rs; simp only [allOpt, Option.some.injEq] at h; subst h; rfl
  | cons x xs ih =>
    unfold allOpt at h
    split at h
    · rename_i y ys h1 h2
      cases h
      cases rs with
      | cons a b =>
        cases x <;> simp only [strOf, Option.some.injEq, reduceCtorEq] at h1
        subst h1
        cases a
        rw [ih h2 b]; rfl
    · cases h
theorem blt_sum (hc : X.calm = true) : CallR X (.builtin "sum") (RLD m E X sumV) := by
  intro pins s σ H xs us Q I r h
  obtain ⟨ρ, st, ds, S, rs, hf⟩ := h
  unfold sumV at hf
  split at hf
  · rename_i n
    obtain ⟨v, rfl, rv⟩ := reps_one rs
    cases rv with
    | ref ha =>
      split at hf
      · rename_i xs g
        obtain ⟨b, hb, hf⟩ := Fin.opt hf
        obtain ⟨is, hi, rfl⟩ := Option.map_eq_some_iff.mp hb
        obtain ⟨vs, q, rs⟩ := S.lists ha g
        obtain rfl := allOpt_ints hi rs
        exact L2.cr_sum hc pins s σ H _ us Q I r ⟨_, is, rfl, q, hf.now S (.int _)⟩
      · exact hf.elim
  · exact hf.elim
theorem blt_all (hc : X.calm = true) : CallR X (.builtin "all") (RLD m E X allV) := by
  intro pins s σ H xs us Q I r h
  obtain ⟨ρ, st, ds, S, rs, hf⟩ := h
  unfold allV at hf
  split at hf
  · rename_i n
    obtain ⟨v, rfl, rv⟩ := reps_one rs
    cases rv with
    | ref ha =>
      split at hf
      · rename_i xs g
        obtain ⟨b, hb, hf⟩ := Fin.opt hf
        obtain ⟨is, hi, rfl⟩ := Option.map_eq_some_iff.mp hb
        obtain ⟨vs, q, rs⟩ := S.lists ha g
        obtain rfl := allOpt_bls hi rs
        exact L2.cr_all hc pins s σ H _ us Q I r ⟨_, is, rfl, q, hf.now S (.bl _)⟩
      · exact hf.elim
  · exact hf.elim
theorem blt_any (hc : X.calm = true) : CallR X (.builtin "any") (RLD m E X anyV) := by
  intro pins s σ H xs us Q I r h
  obtain ⟨ρ, st, ds, S, rs, hf⟩ := h
  unfold anyV at hf
  split at hf
  · rename_i n
    obtain ⟨v, rfl, rv⟩ := reps_one rs
    cases rv with
    | ref ha =>
      split at hf
      · rename_i xs g
        obtain ⟨b, hb, hf⟩ := Fin.opt hf
        obtain ⟨is, hi, rfl⟩ := Option.map_eq_some_iff.mp hb
        obtain ⟨vs, q, rs⟩ := S.lists ha g
        obtain rfl := allOpt_bls hi rs
        exact L2.cr_any hc pins s σ H _ us Q I r ⟨_, is, rfl, q, hf.now S (.bl _)⟩
      · exact hf.elim
  · exact hf.elim
theorem blt_int : CallR X (.type "int") (RLD m E X intV) := by
  intro pins s σ H xs us Q I r h
  obtain ⟨ρ, st, ds, S, rs, hf⟩ := h
  unfold intV at hf
  split at hf
  · obtain ⟨v, rfl, rv⟩ := reps_one rs
    cases rv
    exact L2.call_int1 pins s σ H _ us Q I r (.inl ⟨_, rfl, hf.now S (.int _)⟩)
  · exact hf.elim
theorem blt_abs : CallR X (.builtin "abs") (RLD m E X absV) := by
  intro pins s σ H xs us Q I r h
  obtain ⟨ρ, st, ds, S, rs, hf⟩ := h
  unfold absV at hf
  split at hf
  · obtain ⟨v, rfl, rv⟩ := reps_one rs
    cases rv
    exact L2.call_abs pins s σ H _ us Q I r ⟨_, rfl, hf.now S (.int _)⟩
  · exact hf.elim
theorem blt_tuple : CallR X (.type "tuple") (RLD m E X tupleV) := by
  intro pins s σ H xs us Q I r h
  obtain ⟨ρ, st, ds, S, rs, hf⟩ := h
  unfold tupleV at hf
  split at hf
  · obtain ⟨v, rfl, rv⟩ := reps_one rs
    cases rv with
    | tup q rs' => exact L2.call_tuple_of pins s σ H _ us Q I r ⟨_, _, rfl, .inr ⟨q, hf.now S (.tup q rs')⟩⟩
  · obtain ⟨v, rfl, rv⟩ := reps_one rs
    cases rv with
    | ref ha =>
      split at hf
      · rename_i xs g
        obtain ⟨vs, e, rs⟩ := S.lst_at ha g
        exact L2.call_tuple_of pins s σ H _ us Q I r ⟨_, vs, rfl, .inl ⟨SqL.of e, fun p hp => hf.tup S rs hp⟩⟩
      · exact hf.elim
  · exact hf.elim
theorem minL_ok {is : List Int} {k : Int} (h : minL is = some k) : k ∈ is ∧ ∀ y ∈ is, k ≤ y := by
  cases is with
  | nil => cases h
  | cons x xs =>
    simp only [minL, Option.some.injEq] at h
    subst h
    induction xs generalizing x with
    | nil => simp
    | cons y ys ih =>
      simp only [List.foldl_cons]
      obtain ⟨h1, h2⟩ := ih (if y < x then y else x)
      refine ⟨?_, fun z hz => ?_⟩
      · rcases List.mem_cons.mp h1 with e | e
        · rw [e]
          split
          · simp
          · simp
        · exact List.mem_cons_of_mem _ (List.mem_cons_of_mem _ e)
      · have h0 := h2 _ List.mem_cons_self
        rcases List.mem_cons.mp hz with e | hz
        · subst e; exact Int.le_trans h0 (by split <;> omega)
        · rcases List.mem_cons.mp hz with e | hz
          · subst e; exact Int.le_trans h0 (by split <;> omega)
          · exact h2 _ (List.mem_cons_of_mem _ hz)
theorem maxL_ok {is : List Int} {k : Int} (h : maxL is = some k) : k ∈ is ∧ ∀ y ∈ is, y ≤ k := by
  cases is with
  | nil => cases h
  | cons x xs =>
    simp only [maxL, Option.some.injEq] at h
    subst h
    induction xs generalizing x with
    | nil => simp
    | cons y ys ih =>
      simp only [List.foldl_cons]
      obtain ⟨h1, h2⟩ := ih (if y > x then y else x)
      refine ⟨?_, fun z hz => ?_⟩
      · rcases List.mem_cons.mp h1 with e | e
        · rw [e]
          split
          · simp
          · simp
        · exact List.mem_cons_of_mem _ (List.mem_cons_of_mem _ e)
      · have h0 := h2 _ List.mem_cons_self
        rcases List.mem_cons.mp hz with e | hz
        · subst e; exact Int.le_trans (by split <;> omega) h0
        · rcases List.mem_cons.mp hz with e | hz
          · subst e; exact Int.le_trans (by split <;> omega) h0
          · exact h2 _ (List.mem_cons_of_mem _ hz)
theorem blt_min (hc : X.calm = true) : CallR X (.builtin "min") (RLD m E X minV) := by
  intro pins s σ H xs us Q I r h
  obtain ⟨ρ, st, ds, S, rs, hf⟩ := h
  unfold minV at hf
  split at hf
  · cases rs with
    | cons a b =>
      obtain ⟨v, rfl, rv⟩ := reps_one b
      cases a; cases rv
      exact L2.call_min2 hc pins s σ H _ us Q I r ⟨_, _, rfl, hf.now S (.int _)⟩
  · obtain ⟨v, rfl, rv⟩ := reps_one rs
    cases rv with
    | ref ha =>
      split at hf
      · rename_i xs g
        obtain ⟨b, hb, hf⟩ := Fin.opt hf
        obtain ⟨k, hk, rfl⟩ := Option.map_eq_some_iff.mp hb
        obtain ⟨is, hi, hk⟩ := Option.bind_eq_some_iff.mp hk
        obtain ⟨vs, q, rs⟩ := S.lists ha g
        obtain rfl := allOpt_ints hi rs
        obtain ⟨h1, h2⟩ := minL_ok hk
        refine L2.cr_min hc pins s σ H _ us Q I r ⟨_, is, rfl, q, List.length_pos_of_mem h1, fun k' h3 h4 => ?_⟩
        have : k' = k := Int.le_antisymm (h4 _ h1) (h2 _ h3)
        subst this
        exact hf.now S (.int _)
      · exact hf.elim
  · exact hf.elim
theorem blt_max (hc : X.calm = true) : CallR X (.builtin "max") (RLD m E X maxV) := by
  intro pins s σ H xs us Q I r h
  obtain ⟨ρ, st, ds, S, rs, hf⟩ := h
  unfold maxV at hf
  split at hf
  · obtain ⟨v, rfl, rv⟩ := reps_one rs
    cases rv with
    | ref ha =>
      split at hf
      · rename_i xs g
        obtain ⟨b, hb, hf⟩ := Fin.opt hf
        obtain ⟨k, hk, rfl⟩ := Option.map_eq_some_iff.mp hb
        obtain ⟨is, hi, hk⟩ := Option.bind_eq_some_iff.mp hk
        obtain ⟨vs, q, rs⟩ := S.lists ha g
        obtain rfl := allOpt_ints hi rs
        obtain ⟨h1, h2⟩ := maxL_ok hk
        refine L2.cr_max hc pins s σ H _ us Q I r ⟨_, is, rfl, q, List.length_pos_of_mem h1, fun k' h3 h4 => ?_⟩
        have : k' = k := Int.le_antisymm (h2 _ h3) (h4 _ h1)
        subst this
        exact hf.now S (.int _)
      · exact hf.elim
  · exact hf.elim
end
end VI
/-! VIh: dicts as they are walked; len, list; methods, by values. -/
namespace VI
open PySem PySem.Spec PyProof.Rows L2
variable [LL]
section
variable {m : Md} {E : XK} {X : Cx} {pins : List (Addr × Obj)} {σ : L2.St} {ρ : List Addr} {H : Hp} {st : Store} {s : Shared}

theorem paired_at {α β : Type} {F : α → β → Prop} : ∀ {l : List α} {m : List β} {i : Nat} {b : β}, Paired F l m → m[i]? = some b → ∃ a, l[i]? = some a ∧ F a b
  | _, _, _, _, .nil, e => by simp at e
  | _, _, 0, _, .cons h _, e => by simp at e; subst e; exact ⟨_, rfl, h⟩
  | _, _, i + 1, b, .cons _ t, e => by
    obtain ⟨a, h1, h2⟩ := paired_at (i := i) (b := b) t (by simpa using e)
    exact ⟨a, by simpa using h1, h2⟩
theorem paired_at' {α β : Type} {F : α → β → Prop} : ∀ {l : List α} {m : List β} {i : Nat} {a : α}, Paired F l m → l[i]? = some a → ∃ b, m[i]? = some b ∧ F a b
  | _, _, _, _, .nil, e => by simp at e
  | _, _, 0, _, .cons h _, e => by simp at e; subst e; exact ⟨_, rfl, h⟩
  | _, _, i + 1, b, .cons _ t, e => by
    obtain ⟨a, h1, h2⟩ := paired_at' (i := i) (a := b) t (by simpa using e)
    exact ⟨a, by simpa using h1, h2⟩
theorem leafK_kV {k : D} {j : Key} (h : leafK k = some j) (K : PySem.W.Frag) (ρ : List Addr) (H : Hp) : Rep K ρ H k (kV j) := by
  cases k <;> simp only [leafK, Option.some.injEq, reduceCtorEq] at h <;> subst h
  · exact .int _
  · exact .str _
/-- a dict's entries, one by one -/
theorem dct_raw (I : Inv X pins σ H s) {lk : Bool} {kvs : List (D × D)} {a : Addr} (r : DRep X.prog X.w X.K ρ H lk kvs a) :
    ∃ es ep, s.heap.DictRaw a es ep ∧ es.size = kvs.length ∧ ∀ i (hi : i < es.size), ∃ p vk vd, kvs[i]? = some p ∧ RelV vk es[i].key ∧ Rep X.K ρ H p.1 vk ∧ RelV vd es[i].val ∧ Rep X.K ρ H p.2 vd := by
  obtain ⟨hz, hs, hv⟩ := r
  rcases hv with ⟨kv, q, lp⟩ | ⟨ne, xs, q, tp, nd⟩
  · obtain ⟨_, _, vs, rel, dd⟩ := q.ok I
    obtain ⟨es, ep, hr, hsz, he⟩ := dd.raw
    have e1 : vs.length = kv.length := (paired_len rel).symm
    have e2 : kvs.length = kv.length := paired_len lp
    refine ⟨es, ep, hr, by omega, fun i hi => ?_⟩
    have hi' : i < kv.length := by omega
    obtain ⟨y, hy, ry⟩ := paired_at' rel (List.getElem?_eq_getElem hi')
    obtain ⟨p, hp, rp⟩ := paired_at lp (List.getElem?_eq_getElem hi')
    obtain ⟨k1, k2⟩ := he i hi y.1 y.2 hy
    refine ⟨p, kV (kv[i]).1, (kv[i]).2, hp, ?_, leafK_kV rp.1 _ _ _, ?_, rp.2⟩
    · have : keyIs (kv[i]).1 es[i].key = true := by rw [ry.1]; exact k1
      exact keyIs_rel this
    · rw [k2]; exact ry.2
  · obtain ⟨es, ep, hr, hsz, he⟩ := (dictOfH I q tp nd).raw
    have e2 : kvs.length = xs.length := paired_len tp
    refine ⟨es, ep, hr, by omega, fun i hi => ?_⟩
    obtain ⟨y, hy, k1, k2, _⟩ := he i hi
    obtain ⟨p, hp, rp⟩ := paired_at tp hy
    obtain ⟨v, h1, h2⟩ := rp.2.2.2
    exact ⟨p, .ref y.2.1, v, hp, k1, rp.2.2.1, by rw [k2]; exact h1, h2⟩
theorem SRel.dct_at {nm : Nm} {P : Program} {w : World} {K : PySem.W.Frag} (S : SRel nm P w K ρ H st) {n : Nat} {a : Addr} {lk : Bool} {kvs : List (D × D)} (ha : ρ[n]? = some a) (g : st.get n = some (.dct lk kvs)) : DRep P w K ρ H lk kvs a := by
  obtain ⟨o, g', r⟩ := S.ob n a ha
  rw [g] at g'; cases g'
  exact r
theorem line64 {n : Nat} (h : n ≤ sizeLine) : n < 2 ^ 63 := by rw [sizeLine_eq] at h; omega
theorem blt_len : CallR X (.builtin "len") (RLD m E X lenV) := by
  intro pins s σ H xs us Q I r h
  obtain ⟨ρ, st, ds, S, rs, hf⟩ := h
  unfold lenV at hf
  split at hf
  · obtain ⟨v, rfl, rv⟩ := reps_one rs
    cases rv with
    | tup q rs' =>
      refine L2.call_len_seq pins s σ H _ us Q I r ⟨_, _, rfl, .inr q, ?_⟩
      rw [← rs'.length]
      exact hf.now S (.int _)
  · obtain ⟨v, rfl, rv⟩ := reps_one rs
    cases rv
    split at hf
    · rename_i hl
      refine L2.call_len_str pins s σ H _ us Q I r ⟨_, rfl, by rw [toS_len, ← line_eq]; exact hl, ?_⟩
      rw [toS_len]
      exact hf.now S (.int _)
    · exact hf.elim
  · obtain ⟨v, rfl, rv⟩ := reps_one rs
    cases rv with
    | ref ha =>
      split at hf
      · rename_i xs g
        obtain ⟨vs, e, rs'⟩ := S.lst_at ha g
        refine L2.call_len_seq pins s σ H _ us Q I r ⟨_, vs, rfl, .inl (SqL.of e), ?_⟩
        rw [← rs'.length]
        exact hf.now S (.int _)
      · rename_i xs g
        obtain ⟨vs, e, rs'⟩ := S.flst_at ha g
        refine L2.call_len_seq pins s σ H _ us Q I r ⟨_, vs, rfl, .inl (.inl e), ?_⟩
        rw [← rs'.length]
        exact hf.now S (.int _)
      · rename_i lk kvs g
        have dr := S.dct_at ha g
        obtain ⟨es, ep, hr, hsz, _⟩ := dct_raw I dr
        obtain ⟨u, rfl, rx⟩ := r.one
        cases rx
        have hz := dr.1
        refine PyProof.Rows.call_len_slot (n := kvs.length) hr.typeIs PySem.F.slot_dict_len (fun Q' hq => call_len_raw dr.2.1 hr ?_) (by omega) (by rw [sizeLine_eq] at hz; omega) ?_
        · rw [hsz]; exact hq
        · exact ⟨.int _, H, I.tok _, ⟨_, rfl⟩, hf.now S (.int _)⟩
      · exact hf.elim
  · exact hf.elim

theorem vals_at : ∀ {vs : List V} {us : List Value}, vs.length = us.length → (∀ (j : Nat) (x : V) (u : Value), vs[j]? = some x → us[j]? = some u → RelV x u) → Vals vs us := fun h f => vals_of_at h f
/-- a list whose items are told one by one -/
theorem reps_of {ds : List D} {us : List Value} (hl : ds.length = us.length) (h : ∀ (j : Nat) (d : D) (u : Value), ds[j]? = some d → us[j]? = some u → ∃ v, RelV v u ∧ Rep X.K ρ H d v) : ∃ vs, Vals vs us ∧ Reps X.K ρ H ds vs := by
  induction ds generalizing us with
  | nil =>
    cases us with
    | nil => exact ⟨[], .nil, .nil⟩
    | cons u us => simp at hl
  | cons d ds ih =>
    cases us with
    | nil => simp at hl
    | cons u us =>
      obtain ⟨v, h1, h2⟩ := h 0 d u rfl rfl
      obtain ⟨vs, h3, h4⟩ := ih (us := us) (by simpa using hl) fun j x y e1 e2 => h (j + 1) x y (by simpa using e1) (by simpa using e2)
      exact ⟨v :: vs, .cons h1 h3, .cons h2 h4⟩
theorem blt_list (hc : X.calm = true) : CallR X (.type "list") (RLD m E X listV) := by
  intro pins s σ H xs us Q I r h
  obtain ⟨ρ, st, ds, S, rs, hf⟩ := h
  unfold listV at hf
  split at hf
  · obtain ⟨v, rfl, rv⟩ := reps_one rs
    cases rv with
    | tup q rs' => exact L2.call_list_of pins s σ H _ us Q I r ⟨_, _, rfl, .inr q, fun p hp => hf.lst S rs' hp⟩
  · obtain ⟨v, rfl, rv⟩ := reps_one rs
    cases rv with
    | str _ =>
      split at hf
      · rename_i x hl
        obtain ⟨u, rfl, rx⟩ := r.one
        obtain ⟨t, rfl⟩ := rx
        have hn : (toS x).cps.size ≤ sizeLine := by have := toS_len x; unfold Str.length at this; rw [this, ← line_eq]; exact hl
        refine call_list_str (I.ok.hd hc) (toS x) t (hn := hn) fun h' tk acc c' hk hS' hacc => ?_
        have hsz : acc.toList.length = x.length := by
          have := hacc.1
          have h2 := toS_len x
          unfold Str.length at h2
          rw [Array.length_toList, this, h2]
        obtain ⟨vs, h1, h2⟩ := reps_of (X := X) (ρ := ρ) (H := H) (ds := x.map fun c => D.str [c]) (us := acc.toList) (by rw [List.length_map, hsz]) fun j d u e1 e2 => by
          obtain ⟨c, u', hc', e⟩ := hacc.2 j u (by rw [← Array.getElem?_toList]; exact e2)
          subst e
          rw [List.getElem?_map] at e1
          obtain ⟨c2, hc2, rfl⟩ := Option.map_eq_some_iff.mp e1
          have : c2 = c := by
            have h5 : (toS x).cps[j]? = x[j]? := by simp [toS]
            rw [h5, hc2] at hc'
            exact Option.some.inj hc'
          subst this
          exact ⟨.str (toS [c2]), ⟨u', rfl⟩, .str _⟩
        have hz : vs.length ≤ sizeLine := by rw [← h2.length, List.length_map, ← line_eq]; exact hl
        exact ⟨.ref s.heap.objs.size, upd H s.heap.objs.size (.lst vs), I.laid hk (Nat.le_refl _) (show ObjOk X.prog X.w _ _ _ (.lst vs) from ⟨hz, acc.toList, c', h1, by rw [Array.toArray_toList]; exact hS'⟩), rfl, hf.lst S h2 (I.hok.fresh (Nat.le_refl _))⟩
      · exact hf.elim
  · obtain ⟨v, rfl, rv⟩ := reps_one rs
    cases rv with
    | ref ha =>
      split at hf
      · rename_i xs g
        obtain ⟨vs, e, rs'⟩ := S.lst_at ha g
        exact L2.call_list_of pins s σ H _ us Q I r ⟨_, vs, rfl, .inl (SqL.of e), fun p hp => hf.lst S rs' hp⟩
      · rename_i xs g
        obtain ⟨vs, e, rs'⟩ := S.flst_at ha g
        exact L2.call_list_of pins s σ H _ us Q I r ⟨_, vs, rfl, .inl (.inl e), fun p hp => hf.lst S rs' hp⟩
      · rename_i lk kvs g
        have dr := S.dct_at ha g
        obtain ⟨es, ep, hr, hsz, he⟩ := dct_raw I dr
        obtain ⟨u, rfl, rx⟩ := r.one
        cases rx
        refine PySem.W.kdl_call (KdlSrc.rawDict (ep := ep) dr.2.1) (I.ok.hd hc) hr (by rw [hsz]; exact dr.1) fun h' tk acc c' hk hS' hacc => ?_
        obtain ⟨vs, h1, h2⟩ := reps_of (X := X) (ρ := ρ) (H := H) (ds := kvs.map (·.1)) (us := acc.toList) (by have := hacc.1; simp; omega) fun j d u e1 e2 => by
          obtain ⟨hj, rfl⟩ := hacc.2 j u (by rw [← Array.getElem?_toList]; exact e2)
          obtain ⟨p, vk, vd, h1, h2, h3, _⟩ := he j hj
          rw [List.getElem?_map, h1] at e1
          cases e1
          exact ⟨vk, h2, h3⟩
        have hz : vs.length ≤ sizeLine := by rw [← h2.length, List.length_map]; exact dr.1
        exact ⟨.ref s.heap.objs.size, upd H s.heap.objs.size (.lst vs), I.laid hk (Nat.le_refl _) (show ObjOk X.prog X.w _ _ _ (.lst vs) from ⟨hz, acc.toList, c', h1, by rw [Array.toArray_toList]; exact hS'⟩), rfl, hf.lst S h2 (I.hok.fresh (Nat.le_refl _))⟩
      · exact hf.elim
  · exact hf.elim

/-! ### methods -/
def RMt (m : Md) (E : XK) (X : Cx) (f : D → List D → Store → R D) : V → List V → Hp → VK → Prop := fun x xs H Q => ∃ ρ st d ds, Rel m X ρ H st ∧ Rep X.K ρ H d x ∧ Reps X.K ρ H ds xs ∧ Fin m E X ρ H (f d ds st) (rD X) Q
/-- a list of the store is changed by a method -/
theorem Fin.set {n : Nat} {a : Addr} {ys : List D} {us vs : List V} {d : D} {v : V} {Q : VK} (h : Fin m E X ρ H (.ok d (st.set n (.lst ys))) (rD X) Q) (S : Rel m X ρ H st) (ha : ρ[n]? = some a) (e : H a = some (.lst vs)) (rs : Reps X.K ρ H ys us) (rd : Rep X.K ρ H d v) : Q v (upd H a (.lst us)) := by
  obtain ⟨S', st'⟩ := SRel.lset (ys := ys) (us := us) S ha e rs
  exact h ρ _ v st' S' (Rep.mono S st' _ _ rd)
theorem mt_append : MtR X "list.append" (RMt m E X appendV) := by
  intro pins s σ H x xs v us Q I rx rv h
  obtain ⟨ρ, st, d, ds, S, r, rs, hf⟩ := h
  unfold appendV at hf
  split at hf
  · obtain ⟨y, rfl, ry⟩ := reps_one rs
    cases r with
    | ref ha =>
      split at hf
      · rename_i zs g
        split at hf
        · rename_i hl
          obtain ⟨vs, e, rz⟩ := S.lst_at ha g
          exact L2.mt_append pins s σ H _ _ v us Q I rx rv ⟨_, vs, y, rfl, rfl, e, by rw [← rz.length, ← line_eq]; exact hl, hf.set S ha e (rz.append (.cons ry .nil)) .non⟩
        · exact hf.elim
      · exact hf.elim
  · exact hf.elim
/-! list.count, list.index: None, bools, ints, texts -/
theorem leaf_flat {d : D} {v : V} (h : leafD d = true) (r : Rep X.K ρ H d v) : flatV v = true := by
  cases r <;> first | rfl | cases h
theorem leaf_eqv {d e : D} {v u : V} (h1 : leafD d = true) (h2 : leafD e = true) (r1 : Rep X.K ρ H d v) (r2 : Rep X.K ρ H e u) : L2.eqV v u = D.eqv d e := by
  cases r1 <;> (first | cases h1 | skip) <;> cases r2 <;> (first | cases h2 | skip) <;> simp only [L2.eqV, D.eqv]
  rename_i x y
  exact Bool.eq_iff_iff.mpr (by simp only [beq_iff_eq]; exact ⟨fun h => toS_inj h, fun h => by rw [h]⟩)
theorem leaf_flats : ∀ {ds : List D} {vs : List V}, ds.all leafD = true → Reps X.K ρ H ds vs → vs.all flatV = true
  | _, _, _, .nil => rfl
  | _, _, h, .cons r t => by
    rw [List.all_cons, Bool.and_eq_true] at h ⊢
    exact ⟨leaf_flat h.1 r, leaf_flats h.2 t⟩
theorem leaf_count {e : D} {u : V} (h2 : leafD e = true) (r2 : Rep X.K ρ H e u) : ∀ {ds : List D} {vs : List V}, ds.all leafD = true → Reps X.K ρ H ds vs → vs.countP (fun z => L2.eqV z u) = ds.countP fun y => D.eqv y e
  | _, _, _, .nil => rfl
  | _, _, h, .cons r t => by
    rw [List.all_cons, Bool.and_eq_true] at h
    rw [List.countP_cons, List.countP_cons, leaf_count h2 r2 h.2 t, leaf_eqv h.1 h2 r r2]
theorem countU {x : V} : ∀ {xs : List V} {us : List Value}, Vals xs us → xs.all flatV = true → us.countP (eqU x) = xs.countP fun y => L2.eqV y x
  | _, _, .nil, _ => rfl
  | y :: xs, u :: us, .cons r t, f => by
    rw [List.all_cons, Bool.and_eq_true] at f
    rw [List.countP_cons, List.countP_cons, eqU_of r f.1, countU t f.2]
def rCntF (K : PySem.W.Frag) : V → List V → Hp → VK → Prop := fun x xs H Q => ∃ (a : Addr) (ys : List V) (y : V), x = V.ref a ∧ xs = [y] ∧ SqL K H a ys ∧ flatV y = true ∧ ys.all flatV = true ∧ Q (.int (ys.countP (fun z => L2.eqV z y) : Nat)) H
theorem mt_cntF : MtR X "list.count" (rCntF X.K) := by
  intro pins s σ H x xs v us Q I rx rxs h
  obtain ⟨a, ys, y, rfl, rfl, hs, fy, fys, q⟩ := h
  cases rx
  cases rxs with
  | cons ry rt =>
    rename_i uy ut
    cases rt
    obtain ⟨its, rv, ⟨⟨cls, dd, data, sl⟩, n, ho, hc, hdn, hd⟩, hlen⟩ := I.list hs
    simp only at hc hd
    subst hc hd
    refine call_meets PySem.F.slot_list_count ⟨_, ho, rfl⟩ PySem.F.entry_list_count (PySem.F.args_list_count_2 _ _)
      (SeqAt.list_countAt a its.toArray n dd sl uy (eqU y)) ⟨ho, fun u' hu' => mem_eqAt ry fy rv fys u' (by simpa using hu'), ?_⟩
    have ec : its.toArray.toList.countP (eqU y) = ys.countP fun z => L2.eqV z y := countU rv fys
    refine ⟨.int (ys.countP (fun z => L2.eqV z y) : Nat), H, I.tok _, ⟨s.toks, ?_⟩, q⟩
    show Value.int ((its.toArray.toList.countP (eqU y) : Nat) : Int) s.toks = Value.int ((ys.countP (fun z => L2.eqV z y) : Nat) : Int) s.toks
    rw [ec]
theorem mt_count : MtR X "list.count" (RMt m E X countV) := by
  intro pins s σ H x xs v us Q I rx rv h
  obtain ⟨ρ, st, d, ds, S, r, rs, hf⟩ := h
  unfold countV at hf
  split at hf
  · obtain ⟨y, rfl, ry⟩ := reps_one rs
    cases r with
    | ref ha =>
      split at hf
      · rename_i zs g
        split at hf
        · rename_i hl
          rw [Bool.and_eq_true] at hl
          obtain ⟨vs, e, rz⟩ := S.lst_at ha g
          refine mt_cntF pins s σ H _ _ v us Q I rx rv ⟨_, vs, y, rfl, rfl, SqL.of e, leaf_flat hl.1 ry, leaf_flats hl.2 rz, ?_⟩
          rw [leaf_count hl.1 ry hl.2 rz]
          exact hf.now S (.int _)
        · exact hf.elim
      · exact hf.elim
  · exact hf.elim
theorem mt_index : MtR X "list.index" (RMt m E X indexV) := by
  intro pins s σ H x xs v us Q I rx rv h
  obtain ⟨ρ, st, d, ds, S, r, rs, hf⟩ := h
  unfold indexV at hf
  split at hf
  · rename_i x0
    obtain ⟨y, rfl, ry⟩ := reps_one rs
    cases r with
    | ref ha =>
      split at hf
      · rename_i zs g
        split at hf
        · rename_i hl
          rw [Bool.and_eq_true] at hl
          split at hf
          · rename_i j hj
            obtain ⟨vs, e, rz⟩ := S.lst_at ha g
            obtain ⟨hlt, hp, hno⟩ := List.findIdx?_eq_some_iff_getElem.mp hj
            obtain ⟨u, hu, ru⟩ := rz.get (List.getElem?_eq_getElem hlt)
            have hlf : ∀ (i : Nat) (h : i < zs.length), leafD zs[i] = true := fun i h => List.all_eq_true.mp hl.2 _ (List.getElem_mem h)
            refine L2.mt_index pins s σ H _ _ v us Q I rx rv ⟨_, vs, y, j, u, rfl, rfl, SqL.of e, leaf_flat hl.1 ry, leaf_flats hl.2 rz, hu, ?_, fun i z' hi hz' => ?_, hf.now S (.int _)⟩
            · rw [leaf_eqv (hlf j hlt) hl.1 ru ry]
              exact hp
            · obtain ⟨u2, hu2, ru2⟩ := rz.get (List.getElem?_eq_getElem (Nat.lt_trans hi hlt))
              rw [hz'] at hu2
              cases hu2
              rw [leaf_eqv (hlf i (Nat.lt_trans hi hlt)) hl.1 ru2 ry]
              exact Bool.eq_false_iff.mpr (hno i hi)
          · exact hf.elim
        · exact hf.elim
      · exact hf.elim
  · exact hf.elim
theorem mt_extend : MtR X "list.extend" (RMt m E X extendV) := by
  intro pins s σ H x xs v us Q I rx rv h
  obtain ⟨ρ, st, d, ds, S, r, rs, hf⟩ := h
  unfold extendV at hf
  split at hf
  · obtain ⟨y, rfl, ry⟩ := reps_one rs
    cases r with
    | ref ha =>
      cases ry with
      | ref hb =>
        split at hf
        · rename_i zs ys g g2
          split at hf
          · rename_i hl
            obtain ⟨vs, e, rz⟩ := S.lst_at ha g
            obtain ⟨ws, e2, rw'⟩ := S.lst_at hb g2
            exact L2.mt_extend pins s σ H _ _ v us Q I rx rv ⟨_, _, vs, ws, rfl, rfl, e, e2, by rw [← rz.length, ← rw'.length, ← line_eq]; exact hl, hf.set S ha e (rz.append rw') .non⟩
          · exact hf.elim
        · exact hf.elim
  · exact hf.elim
theorem mt_pop : MtR X "list.pop" (RMt m E X popV) := by
  intro pins s σ H x xs v us Q I rx rv h
  obtain ⟨ρ, st, d, ds, S, r, rs, hf⟩ := h
  unfold popV at hf
  split at hf
  · cases rs
    cases r with
    | ref ha =>
      split at hf
      · rename_i zs g
        split at hf
        · rename_i y hy
          obtain ⟨vs, e, rz⟩ := S.lst_at ha g
          obtain ⟨w', h1, h2⟩ := rz.get hy
          exact L2.mt_pop pins s σ H _ _ v us Q I rx rv ⟨_, vs, w', rfl, rfl, e, by rw [← rz.length]; exact h1, hf.set S ha e rz.dropLast h2⟩
        · exact hf.elim
      · exact hf.elim
  · obtain ⟨y, rfl, ry⟩ := reps_one rs
    cases ry
    cases r with
    | ref ha =>
      split at hf
      · rename_i zs g
        split at hf
        · rename_i j hj
          split at hf
          · rename_i y hy
            obtain ⟨vs, e, rz⟩ := S.lst_at ha g
            obtain ⟨w', h1, h2⟩ := rz.get hy
            obtain ⟨q1, q2, q3, q4⟩ := ixN_seq hj
            have hz := (I.lstM e).1
            rw [rz.length] at q1 q3 q4
            rw [sizeLine_eq] at hz
            exact L2.mt_popAt pins s σ H _ _ v us Q I rx rv ⟨_, vs, _, j, w', rfl, rfl, e, by omega, by omega, q1, h1, hf.set S ha e (rz.eraseIdx j) h2⟩
          · exact hf.elim
        · exact hf.elim
      · exact hf.elim
  · exact hf.elim
theorem mt_reverse : MtR X "list.reverse" (RMt m E X reverseV) := by
  intro pins s σ H x xs v us Q I rx rv h
  obtain ⟨ρ, st, d, ds, S, r, rs, hf⟩ := h
  unfold reverseV at hf
  split at hf
  · cases rs
    cases r with
    | ref ha =>
      split at hf
      · rename_i zs g
        obtain ⟨vs, e, rz⟩ := S.lst_at ha g
        exact L2.mt_reverse pins s σ H _ _ v us Q I rx rv ⟨_, vs, rfl, rfl, e, hf.set S ha e rz.reverse .non⟩
      · exact hf.elim
  · exact hf.elim
theorem mt_clear : MtR X "list.clear" (RMt m E X clearV) := by
  intro pins s σ H x xs v us Q I rx rv h
  obtain ⟨ρ, st, d, ds, S, r, rs, hf⟩ := h
  unfold clearV at hf
  split at hf
  · cases rs
    cases r with
    | ref ha =>
      split at hf
      · rename_i zs g
        obtain ⟨vs, e, rz⟩ := S.lst_at ha g
        exact L2.mt_clear pins s σ H _ _ v us Q I rx rv ⟨_, vs, rfl, rfl, e, hf.set S ha e .nil .non⟩
      · exact hf.elim
  · exact hf.elim
theorem join_eq' (z : List Nat) : ∀ ts : List (List Nat), Str.join (toS z) (ts.map toS) = toS (joinS z ts)
  | [] => rfl
  | [x] => rfl
  | x :: y :: r => by
    show toS x ++ toS z ++ Str.join (toS z) ((y :: r).map toS) = toS (x ++ z ++ joinS z (y :: r))
    rw [join_eq' z (y :: r), toS_app, toS_app]
theorem join_eq (z : List Nat) (ts : List (List Nat)) : Txt.join (toS z) (ts.map toS) = toS (joinS z ts) := (TL.join_eq _ _).trans (join_eq' z ts)
theorem mt_join : MtR X "str.join" (RMt m E X joinV) := by
  intro pins s σ H x xs v us Q I rx rv h
  obtain ⟨ρ, st, d, ds, S, r, rs, hf⟩ := h
  unfold joinV at hf
  split at hf
  · obtain ⟨y, rfl, ry⟩ := reps_one rs
    cases r
    cases ry with
    | ref ha =>
      split at hf
      · rename_i zs g
        split at hf
        · rename_i ts ht
          split at hf
          · rename_i hl
            obtain ⟨vs, q, rz⟩ := S.lists ha g
            obtain rfl := allOpt_strs ht rz
            refine L2.mt_join pins s σ H _ _ v us Q I rx rv ⟨_, _, ts.map toS, rfl, rfl, .inl q, ?_, ?_⟩
            · have e1 : ((ts.map toS).map (·.length)) = ts.map (·.length) := by
                rw [List.map_map]
                exact List.map_congr_left fun x _ => toS_len x
              rw [e1, List.length_map, toS_len]
              exact hl
            · rw [join_eq]
              exact hf.now S (.str _)
          · exact hf.elim
        · exact hf.elim
      · exact hf.elim
  · obtain ⟨y, rfl, ry⟩ := reps_one rs
    cases r
    cases ry with
    | tup q rz =>
      split at hf
      · rename_i ts ht
        split at hf
        · rename_i hl
          obtain rfl := allOpt_strs ht rz
          refine L2.mt_join pins s σ H _ _ v us Q I rx rv ⟨_, _, ts.map toS, rfl, rfl, .inr q, ?_, ?_⟩
          · have e1 : ((ts.map toS).map (·.length)) = ts.map (·.length) := by
              rw [List.map_map]
              exact List.map_congr_left fun x _ => toS_len x
            rw [e1, List.length_map, toS_len]
            exact hl
          · rw [join_eq]
            exact hf.now S (.str _)
        · exact hf.elim
      · exact hf.elim
  · exact hf.elim
theorem reps_strs {ρ : List Addr} {H : Hp} : ∀ zs : List Str, Reps X.K ρ H ((zs.map fun z => z.cps.toList).map D.str) (zs.map V.str)
  | [] => .nil
  | z :: zs => by
    have h := Rep.str (K := X.K) (ρ := ρ) (H := H) z.cps.toList
    have e : toS z.cps.toList = z := by
      show (⟨z.cps.toList.toArray⟩ : Str) = z
      rw [Array.toArray_toList]
    rw [e] at h
    exact .cons h (reps_strs zs)
theorem mt_split : MtR X "str.split" (RMt m E X splitV) := by
  intro pins s σ H x xs v us Q I rx rv h
  obtain ⟨ρ, st, d, ds, S, r, rs, hf⟩ := h
  unfold splitV at hf
  split at hf
  · rename_i x y
    obtain ⟨w, rfl, ry⟩ := reps_one rs
    cases r
    cases ry
    split at hf
    · rename_i hl
      refine L2.mt_split pins s σ H _ _ v us Q I rx rv ⟨toS x, toS y, rfl, rfl, by rw [toS_len]; simpa using hl.1, by rw [toS_len, ← line_eq]; exact hl.2, fun p hp => ?_⟩
      exact hf.lst S (reps_strs _) hp
    · exact hf.elim
  · exact hf.elim
end
end VI
/-! VIi: expressions, construct by construct. -/
namespace VI
open PySem PySem.Spec PyProof.Rows L2
variable [LL]
section
variable (m : Md) (E : XK) (X : Cx)
def tEv (e : Ex) : TE := fun σ H Q => ∃ ρ env st, ERel X ρ H env σ ∧ Rel m X ρ H st ∧ Fin m E X ρ H (evE m.T m.F m.call e env st) (rD X) Q
def tEvX (es : Xs) : TA := fun σ H Q => ∃ ρ env st, ERel X ρ H env σ ∧ Rel m X ρ H st ∧ Fin m E X ρ H (evX m.T m.F m.call es env st) (rDs X) Q
def tEvT (e : Ex) : TT := fun σ H Q => ∃ ρ env st, ERel X ρ H env σ ∧ Rel m X ρ H st ∧ Fin m E X ρ H ((evE m.T m.F m.call e env st).bind boolOf) rB Q
end
section
variable {m : Md} {E : XK} {X : Cx} {e a b c : Expr} {x y z : Ex} {pos : Pos}
theorem imE {t t' : TE} (h : PE X e t) (k : ∀ σ H Q, t' σ H Q → t σ H Q) : PE X e t' := ⟨fun pins s σ H Q I q => h.run pins s σ H Q I (k σ H Q q)⟩
theorem imT {t t' : TT} (h : PT X e t) (k : ∀ σ H Q, t' σ H Q → t σ H Q) : PT X e t' := ⟨fun pins s σ H Q I q => h.run pins s σ H Q I (k σ H Q q)⟩
theorem imW {t t' : TT} (h : PW X e t) (k : ∀ σ H Q, t' σ H Q → t σ H Q) : PW X e t' := ⟨fun wh pins s σ H Q I q => h.run wh pins s σ H Q I (k σ H Q q)⟩
theorem imA {es : List Expr} {t t' : TA} (h : PA X es t) (k : ∀ σ H Q, t' σ H Q → t σ H Q) : PA X es t' := ⟨fun p pins s σ H Q I q => h.run p pins s σ H Q I (k σ H Q q)⟩
theorem bool_inv {ρ : List Addr} {H : Hp} {st : Store} {β γ : Type} {d : D} {f : Bool → Store → R γ} {rep : List Addr → Hp → γ → β → Prop} {Q : β → Hp → Prop} (h : Fin m E X ρ H ((boolOf d st).bind f) rep Q) : ∃ k, d = .bl k ∧ Fin m E X ρ H (f k st) rep Q := by
  cases d with
  | bl k => exact ⟨k, rfl, h⟩
  | _ => exact h.elim

/-! constants, names -/
theorem se_int {i : Int} {j : Nat} : PE X (.Constant (.int i) j pos) (tEv m E X (.c (.int i))) := imE pe_int fun σ H Q ⟨ρ, env, st, he, S, hf⟩ => hf.now S (.int i)
theorem se_bl {i : Bool} {j : Nat} : PE X (.Constant (.bool i) j pos) (tEv m E X (.c (.bl i))) := imE pe_bl fun σ H Q ⟨ρ, env, st, he, S, hf⟩ => hf.now S (.bl i)
theorem se_non {j : Nat} : PE X (.Constant .none j pos) (tEv m E X (.c .non)) := imE pe_non fun σ H Q ⟨ρ, env, st, he, S, hf⟩ => hf.now S .non
theorem se_str {i : Str} {j : Nat} : PE X (.Constant (.str i) j pos) (tEv m E X (.c (.str i.cps.toList))) := imE pe_str fun σ H Q ⟨ρ, env, st, he, S, hf⟩ => by
  have := hf.now S (.str i.cps.toList)
  have e : toS i.cps.toList = i := by cases i; simp [toS]
  rw [e] at this
  exact this
theorem se_var {i : Nat} {x : Str} (hN : X.N[i]? = some x) (hv : Vis X.env.scope x) (hd : (x == ("__debug__" : Str)) = false) (hcd : (x == ("__classdict__" : Str)) = false) : PE X (.Name x pos) (tEv m E X (.v i)) := imE (pe_var hN hv hd hcd) fun σ H Q ⟨ρ, env, st, he, S, hf⟩ => by
  simp only [evE] at hf
  split at hf
  · rename_i d hd
    obtain ⟨v, h1, h2⟩ := he.at_ i d hd
    exact ⟨v, h1, hf.now S h2⟩
  · exact hf.elim
/-- a module's constant -/
theorem se_glob {x : Str} {d : D} {v : V} {u : Value} (hg : Gl X x) (hm : X.mg x = some u) (ru : RelV v u) (rd : ∀ ρ H, Rep X.K ρ H d v) (hd : (x == ("__debug__" : Str)) = false) : PE X (.Name x pos) (tEv m E X (.c d)) :=
  ⟨fun pins s σ H Q I ⟨ρ, env, st, he, S, hf⟩ => ld_glob I hg hm ⟨v, H, I, ru, hf.now S (rd ρ H)⟩ hd⟩

/-! operators -/
theorem se_op {op : Operator} {o : Bop} (ho : OpR X (binaryOp op) (R2D m E X (binV o))) (ha : PE X a (tEv m E X x)) (hb : PE X b (tEv m E X y)) : PE X (.BinOp a op b pos) (tEv m E X (.bin o x y)) :=
  imE (pe_op ho ha hb) fun σ H Q ⟨ρ, env, st, he, S, hf⟩ => by
    simp only [evE] at hf
    refine ⟨ρ, env, st, he, S, hf.bind fun d st1 ρ1 H1 v s1 S1 r1 hf1 => ?_⟩
    refine ⟨ρ1, env, st1, he.mono S s1, S1, hf1.bind fun d2 st2 ρ2 H2 v2 s2 S2 r2 hf2 => ?_⟩
    exact ⟨ρ2, st2, d, d2, S2, Rep.mono S1 s2 _ _ r1, r2, hf2⟩
theorem se_neg (ha : PE X a (tEv m E X x)) : PE X (.UnaryOp .USub a pos) (tEv m E X (.neg x)) :=
  imE (pe_un un_neg ha) fun σ H Q ⟨ρ, env, st, he, S, hf⟩ => by
    simp only [evE] at hf
    refine ⟨ρ, env, st, he, S, hf.bind fun d st1 ρ1 H1 v s1 S1 r1 hf1 => ?_⟩
    cases r1 with
    | int i => exact ⟨i, rfl, hf1.now S1 (.int _)⟩
    | _ => exact hf1.elim
/-- a comparison without an own __eq__ -/
theorem cmpC_plain {T : Tbl} {call : Caller} {o : Cop} {d e : D} {st : Store} (h : clsAt st d = none ∨ (o ≠ .eq ∧ o ≠ .ne)) : cmpC T call o d e st = cmpV o d e st := by
  unfold cmpC
  rcases h with h | ⟨h1, h2⟩
  · rw [h]
  · cases hc : clsAt st d with
    | none => rfl
    | some c => cases o <;> first | rfl | exact absurd rfl h1 | exact absurd rfl h2
theorem se_cmp {op : CmpOp} {o : Cop} (ho : OpR X (compareOp op) (R2D m E X (cmpV o))) (hm : behindInMarks op b = false) (hn : o ≠ .eq ∧ o ≠ .ne) (ha : PE X a (tEv m E X x)) (hb : PE X b (tEv m E X y)) : PE X (.Compare a [op] [b] pos) (tEv m E X (.cmp o x y)) :=
  imE (pe_cmpR ho ha hb hm) fun σ H Q ⟨ρ, env, st, he, S, hf⟩ => by
    simp only [evE] at hf
    refine ⟨ρ, env, st, he, S, hf.bind fun d st1 ρ1 H1 v s1 S1 r1 hf1 => ?_⟩
    refine ⟨ρ1, env, st1, he.mono S s1, S1, hf1.bind fun d2 st2 ρ2 H2 v2 s2 S2 r2 hf2 => ?_⟩
    rw [cmpC_plain (.inr hn)] at hf2
    exact ⟨ρ2, st2, d, d2, S2, Rep.mono S1 s2 _ _ r1, r2, hf2⟩
/-- == and !=: by the values, or by an own __eq__ (given as a rule by values) -/
theorem se_eq {op : CmpOp} {o : Cop} (ho : OpR X (compareOp op) (R2D m E X (cmpC m.T m.call o))) (hm : behindInMarks op b = false) (ha : PE X a (tEv m E X x)) (hb : PE X b (tEv m E X y)) : PE X (.Compare a [op] [b] pos) (tEv m E X (.cmp o x y)) :=
  imE (pe_cmpR ho ha hb hm) fun σ H Q ⟨ρ, env, st, he, S, hf⟩ => by
    simp only [evE] at hf
    refine ⟨ρ, env, st, he, S, hf.bind fun d st1 ρ1 H1 v s1 S1 r1 hf1 => ?_⟩
    refine ⟨ρ1, env, st1, he.mono S s1, S1, hf1.bind fun d2 st2 ρ2 H2 v2 s2 S2 r2 hf2 => ?_⟩
    exact ⟨ρ2, st2, d, d2, S2, Rep.mono S1 s2 _ _ r1, r2, hf2⟩
theorem se_chain {op op' : CmpOp} {o p : Cop} (ho : OpR X (compareOp op) (R2D m E X (cmpV o))) (ho' : OpR X (compareOp op') (R2D m E X (cmpV p))) (hm : lastMarks [op, op'] [b, c] = false) (ha : PE X a (tEv m E X x)) (hb : PE X b (tEv m E X y)) (hc : PE X c (tEv m E X z)) :
    PE X (.Compare a [op, op'] [b, c] pos) (tEv m E X (.chain o p x y z)) :=
  imE (pe_chain ho ho' ha hb hc hm) fun σ H Q ⟨ρ, env, st, he, S, hf⟩ => by
    simp only [evE] at hf
    refine ⟨ρ, env, st, he, S, hf.bind fun d st1 ρ1 H1 v s1 S1 r1 hf1 => ?_⟩
    refine ⟨ρ1, env, st1, he.mono S s1, S1, hf1.bind fun d2 st2 ρ2 H2 v2 s2 S2 r2 hf2 => ?_⟩
    refine ⟨ρ2, st2, d, d2, S2, Rep.mono S1 s2 _ _ r1, r2, hf2.bind fun d3 st3 ρ3 H3 v3 s3 S3 r3 hf3 => ?_⟩
    obtain ⟨k, rfl, hf3⟩ := bool_inv hf3
    cases r3
    refine ⟨k, rfl, ?_⟩
    cases k with
    | false => exact iteF (hf3.now S3 (.bl _))
    | true =>
      refine iteT ⟨ρ3, env, st3, ((he.mono S s1).mono S1 s2).mono S2 s3, S3, Fin.bind hf3 fun d4 st4 ρ4 H4 v4 s4 S4 r4 hf4 => ?_⟩
      exact ⟨ρ4, st4, d2, d4, S4, Rep.mono S2 (s3.trans s4) _ _ r2, r4, hf4⟩
theorem se_and {rest : List Expr} (ha : PE X a (tEv m E X x)) (hb : PE X (.BoolOp .And (b :: rest) pos) (tEv m E X y)) : PE X (.BoolOp .And (a :: b :: rest) pos) (tEv m E X (.and x y)) :=
  imE (pe_and ha hb) fun σ H Q ⟨ρ, env, st, he, S, hf⟩ => by
    simp only [evE] at hf
    refine ⟨ρ, env, st, he, S, hf.bind fun d st1 ρ1 H1 v s1 S1 r1 hf1 => ?_⟩
    obtain ⟨k, rfl, hf1⟩ := bool_inv hf1
    cases r1
    refine ⟨k, rfl, ?_⟩
    cases k with
    | true => exact iteT ⟨ρ1, env, st1, he.mono S s1, S1, hf1⟩
    | false => exact iteF (hf1.now S1 (.bl _))
theorem se_or {rest : List Expr} (ha : PE X a (tEv m E X x)) (hb : PE X (.BoolOp .Or (b :: rest) pos) (tEv m E X y)) : PE X (.BoolOp .Or (a :: b :: rest) pos) (tEv m E X (.or x y)) :=
  imE (pe_or ha hb) fun σ H Q ⟨ρ, env, st, he, S, hf⟩ => by
    simp only [evE] at hf
    refine ⟨ρ, env, st, he, S, hf.bind fun d st1 ρ1 H1 v s1 S1 r1 hf1 => ?_⟩
    obtain ⟨k, rfl, hf1⟩ := bool_inv hf1
    cases r1
    refine ⟨k, rfl, ?_⟩
    cases k with
    | false => exact iteF ⟨ρ1, env, st1, he.mono S s1, S1, hf1⟩
    | true => exact iteT (hf1.now S1 (.bl _))
theorem se_not (ha : PE X a (tEv m E X x)) : PE X (.UnaryOp .Not a pos) (tEv m E X (.not x)) :=
  imE (pe_not ha) fun σ H Q ⟨ρ, env, st, he, S, hf⟩ => by
    simp only [evE] at hf
    refine ⟨ρ, env, st, he, S, hf.bind fun d st1 ρ1 H1 v s1 S1 r1 hf1 => ?_⟩
    obtain ⟨k, rfl, hf1⟩ := bool_inv hf1
    cases r1
    exact ⟨k, rfl, hf1.now S1 (.bl _)⟩
theorem se_ite {cx ax bx : Ex} (hc : PT X c (tEvT m E X cx)) (ha : PE X a (tEv m E X ax)) (hb : PE X b (tEv m E X bx)) : PE X (.IfExp c a b pos) (tEv m E X (.ite cx ax bx)) :=
  imE (pe_ifExp hc ha hb) fun σ H Q ⟨ρ, env, st, he, S, hf⟩ => by
    simp only [evE] at hf
    have hf' : Fin m E X ρ H (((evE m.T m.F m.call cx env st).bind boolOf).bind fun k s => if k then evE m.T m.F m.call ax env s else evE m.T m.F m.call bx env s) (rD X) Q := by
      cases h : evE m.T m.F m.call cx env st <;> simp only [h, R.bind] at hf ⊢ <;> exact hf
    refine ⟨ρ, env, st, he, S, hf'.bind fun k st1 ρ1 H1 k' s1 S1 r1 hf1 => ?_⟩
    cases r1
    cases k with
    | true => exact iteT ⟨ρ1, env, st1, he.mono S s1, S1, hf1⟩
    | false => exact iteF ⟨ρ1, env, st1, he.mono S s1, S1, hf1⟩
/-! tests -/
theorem st_val (h : PE X e (tEv m E X x)) (he : ∀ whole, isTrue e X.env whole = (do let v ← whole; standAt e.pos; holding [v] (truthy v))) : PT X e (tEvT m E X x) :=
  imT (pt_val h he) fun σ H Q ⟨ρ, env, st, he, S, hf⟩ => ⟨ρ, env, st, he, S, Fin.bind (f := boolOf) hf fun d st1 ρ1 H1 v s1 S1 r1 hf1 => by
    cases d with
    | bl k => cases r1; exact ⟨k, rfl, hf1.now S1 rfl⟩
    | _ => exact hf1.elim⟩
theorem bind_boolOf {ρ : List Addr} {H : Hp} {r : R D} {Q : Bool → Hp → Prop} (h : Fin m E X ρ H (r.bind boolOf) rB Q) : Fin m E X ρ H r (rD X) (fun v H1 => ∃ k, v = .bl k ∧ Q k H1) :=
  Fin.bind (f := boolOf) h fun d st1 ρ1 H1 v s1 S1 r1 hf1 => by
    cases d with
    | bl k => cases r1; exact ⟨k, rfl, hf1.now S1 rfl⟩
    | _ => exact hf1.elim
theorem bind_assoc {α β γ : Type} (r : R α) (f : α → Store → R β) (g : β → Store → R γ) : (r.bind f).bind g = r.bind fun a s => (f a s).bind g := by cases r <;> rfl
theorem st_cmp {op : CmpOp} {o : Cop} (ho : OpR X (compareOp op) (R2D m E X (cmpC m.T m.call o))) (hm : behindInMarks op b = false) (ha : PE X a (tEv m E X x)) (hb : PE X b (tEv m E X y)) : PT X (.Compare a [op] [b] pos) (tEvT m E X (.cmp o x y)) :=
  imT (pt_cmpR ho ha hb hm) fun σ H Q ⟨ρ, env, st, he, S, hf⟩ => by
    simp only [evE, bind_assoc] at hf
    refine ⟨ρ, env, st, he, S, hf.bind fun d st1 ρ1 H1 v s1 S1 r1 hf1 => ?_⟩
    refine ⟨ρ1, env, st1, he.mono S s1, S1, hf1.bind fun d2 st2 ρ2 H2 v2 s2 S2 r2 hf2 => ?_⟩
    exact ⟨ρ2, st2, d, d2, S2, Rep.mono S1 s2 _ _ r1, r2, bind_boolOf hf2⟩
theorem opr_plain {op : CmpOp} {o : Cop} (hn : o ≠ .eq ∧ o ≠ .ne) (ho : OpR X (compareOp op) (R2D m E X (cmpV o))) : OpR X (compareOp op) (R2D m E X (cmpC m.T m.call o)) := by
  intro pins s σ H x y v u Q I rx ry h
  obtain ⟨ρ, st, d, e, S, r1, r2, hf⟩ := h
  rw [cmpC_plain (.inr hn)] at hf
  exact ho pins s σ H x y v u Q I rx ry ⟨ρ, st, d, e, S, r1, r2, hf⟩
theorem bind_not (r : R D) : (r.bind fun x s => (boolOf x s).bind fun k s => R.ok (D.bl !k) s).bind boolOf = (r.bind boolOf).bind fun k s => .ok (!k) s := by
  cases r with
  | ok d st => cases d <;> rfl
  | exc c x s => rfl
  | stuck => rfl
theorem st_not (ha : PT X a (tEvT m E X x)) : PT X (.UnaryOp .Not a pos) (tEvT m E X (.not x)) :=
  imT (pt_not ha) fun σ H Q ⟨ρ, env, st, he, S, hf⟩ => by
    simp only [evE] at hf
    rw [bind_not] at hf
    refine ⟨ρ, env, st, he, S, hf.bind fun k st1 ρ1 H1 k' s1 S1 r1 hf1 => ?_⟩
    cases r1
    exact hf1.now S1 rfl

theorem st_chain {op op' : CmpOp} {o p : Cop} (ho : OpR X (compareOp op) (R2D m E X (cmpV o))) (ho' : OpR X (compareOp op') (R2D m E X (cmpV p))) (hm : lastMarks [op, op'] [b, c] = false) (ha : PE X a (tEv m E X x)) (hb : PE X b (tEv m E X y)) (hc : PE X c (tEv m E X z)) :
    PT X (.Compare a [op, op'] [b, c] pos) (tEvT m E X (.chain o p x y z)) :=
  imT (pt_chain ho ho' ha hb hc hm) fun σ H Q ⟨ρ, env, st, he, S, hf⟩ => by
    simp only [evE, bind_assoc] at hf
    refine ⟨ρ, env, st, he, S, hf.bind fun d st1 ρ1 H1 v s1 S1 r1 hf1 => ?_⟩
    refine ⟨ρ1, env, st1, he.mono S s1, S1, hf1.bind fun d2 st2 ρ2 H2 v2 s2 S2 r2 hf2 => ?_⟩
    refine ⟨ρ2, st2, d, d2, S2, Rep.mono S1 s2 _ _ r1, r2, hf2.bind fun d3 st3 ρ3 H3 v3 s3 S3 r3 hf3 => ?_⟩
    obtain ⟨k, rfl, hf3⟩ := bool_inv hf3
    cases r3
    refine ⟨k, rfl, ?_⟩
    cases k with
    | false => exact iteF ⟨false, rfl, hf3.now S3 rfl⟩
    | true =>
      have hf3 : Fin m E X ρ3 H3 (((evE m.T m.F m.call z env st3).bind fun z s => cmpV p d2 z s).bind boolOf) rB Q := hf3
      rw [bind_assoc] at hf3
      refine iteT ⟨ρ3, env, st3, ((he.mono S s1).mono S1 s2).mono S2 s3, S3, Fin.bind hf3 fun d4 st4 ρ4 H4 v4 s4 S4 r4 hf4 => ?_⟩
      exact ⟨ρ4, st4, d2, d4, S4, Rep.mono S2 (s3.trans s4) _ _ r2, r4, bind_boolOf hf4⟩
theorem bind_and {T : Tbl} {F : Nat} {call : Caller} (env : Env) (x y : Ex) (st : Store) : (evE T F call (.and x y) env st).bind boolOf = ((evE T F call x env st).bind boolOf).bind fun k s => if k then (evE T F call y env s).bind boolOf else .ok false s := by
  simp only [evE, bind_assoc]
  congr 1
  funext d s
  cases d <;> try rfl
  rename_i b
  cases b <;> rfl
theorem bind_or {T : Tbl} {F : Nat} {call : Caller} (env : Env) (x y : Ex) (st : Store) : (evE T F call (.or x y) env st).bind boolOf = ((evE T F call x env st).bind boolOf).bind fun k s => if k then .ok true s else (evE T F call y env s).bind boolOf := by
  simp only [evE, bind_assoc]
  congr 1
  funext d s
  cases d <;> try rfl
  rename_i b
  cases b <;> rfl
theorem sw_and {rest : List Expr} (ha : PT X a (tEvT m E X x)) (hb : PW X (.BoolOp .And (b :: rest) pos) (tEvT m E X y)) : PW X (.BoolOp .And (a :: b :: rest) pos) (tEvT m E X (.and x y)) :=
  imW (pw_and ha hb) fun σ H Q ⟨ρ, env, st, he, S, hf⟩ => by
    rw [bind_and] at hf
    refine ⟨ρ, env, st, he, S, hf.bind fun k st1 ρ1 H1 k' s1 S1 r1 hf1 => ?_⟩
    cases r1
    cases k with
    | true => exact iteT ⟨ρ1, env, st1, he.mono S s1, S1, hf1⟩
    | false => exact iteF (hf1.now S1 rfl)
theorem sw_or {rest : List Expr} (ha : PT X a (tEvT m E X x)) (hb : PW X (.BoolOp .Or (b :: rest) pos) (tEvT m E X y)) : PW X (.BoolOp .Or (a :: b :: rest) pos) (tEvT m E X (.or x y)) :=
  imW (pw_or ha hb) fun σ H Q ⟨ρ, env, st, he, S, hf⟩ => by
    rw [bind_or] at hf
    refine ⟨ρ, env, st, he, S, hf.bind fun k st1 ρ1 H1 k' s1 S1 r1 hf1 => ?_⟩
    cases r1
    cases k with
    | false => exact iteF ⟨ρ1, env, st1, he.mono S s1, S1, hf1⟩
    | true => exact iteT (hf1.now S1 rfl)

/-! places, slices -/
theorem se_sub (hu : X.A.units + 65 < cLine) (hs : PlainIx b) (ha : PE X a (tEv m E X x)) (hb : PE X b (tEv m E X y)) : PE X (.Subscript a b pos) (tEv m E X (.sub x y)) :=
  imE (pe_ix (ix_sub (m := m) (E := E) hu) ha hb hs) fun σ H Q ⟨ρ, env, st, he, S, hf⟩ => by
    simp only [evE] at hf
    refine ⟨ρ, env, st, he, S, hf.bind fun d st1 ρ1 H1 v s1 S1 r1 hf1 => ?_⟩
    refine ⟨ρ1, env, st1, he.mono S s1, S1, hf1.bind fun d2 st2 ρ2 H2 v2 s2 S2 r2 hf2 => ?_⟩
    exact ⟨ρ2, st2, d, d2, S2, Rep.mono S1 s2 _ _ r1, r2, hf2⟩
/-- a part of a slice -/
def tPt (m : Md) (E : XK) (X : Cx) (hl : Bool) (l : Ex) : TO := fun σ H Q => ∃ ρ env st, ERel X ρ H env σ ∧ Rel m X ρ H st ∧ Fin m E X ρ H (if hl then (evE m.T m.F m.call l env st).bind partV else .ok none st) (fun _ _ (d o : Option Int) => o = d) Q
theorem so_none : PO X none (tPt m E X false x) := ⟨fun pins s σ H Q I ⟨ρ, env, st, he, S, hf⟩ => po_none.run pins s σ H Q I (hf.now S rfl)⟩
theorem so_some (h : PE X e (tEv m E X x)) : PO X (some e) (tPt m E X true x) := ⟨fun pins s σ H Q I ⟨ρ, env, st, he, S, hf⟩ => (po_some h).run pins s σ H Q I ⟨ρ, env, st, he, S, Fin.bind (f := partV) hf fun d st1 ρ1 H1 v s1 S1 r1 hf1 => by
  cases r1 with
  | int i => exact ⟨i, rfl, hf1.now S1 rfl⟩
  | _ => exact hf1.elim⟩⟩
theorem se_sl {lo hi : Option Expr} {hl hh : Bool} {p2 : Pos} (ha : PE X a (tEv m E X x)) (hlo : PO X lo (tPt m E X hl y)) (hhi : PO X hi (tPt m E X hh z)) : PE X (.Subscript a (.Slice lo hi none p2) pos) (tEv m E X (.sl x hl y hh z)) :=
  imE (pe_slice (sl_any (m := m) (E := E)) ha hlo hhi) fun σ H Q ⟨ρ, env, st, he, S, hf⟩ => by
    simp only [evE] at hf
    refine ⟨ρ, env, st, he, S, hf.bind fun d st1 ρ1 H1 v s1 S1 r1 hf1 => ?_⟩
    refine ⟨ρ1, env, st1, he.mono S s1, S1, hf1.bind fun l st2 ρ2 H2 o2 s2 S2 r2 hf2 => ?_⟩
    cases r2
    refine ⟨ρ2, env, st2, (he.mono S s1).mono S1 s2, S2, hf2.bind fun h st3 ρ3 H3 o3 s3 S3 r3 hf3 => ?_⟩
    cases r3
    exact ⟨ρ3, st3, d, S3, Rep.mono S1 (s2.trans s3) _ _ r1, hf3⟩

/-! arguments, displays -/
theorem sa_nil : PA X [] (tEvX m E X .nil) := imA pa_nil fun σ H Q ⟨ρ, env, st, he, S, hf⟩ => hf.now S .nil
theorem sa_cons {es : List Expr} {ys : Xs} (ha : PE X e (tEv m E X x)) (hr : PA X es (tEvX m E X ys)) (hs : starEach (e :: es) X.env = (false, eval e X.env) :: starEach es X.env) : PA X (e :: es) (tEvX m E X (.cons false x ys)) :=
  imA (pa_cons ha hr hs) fun σ H Q ⟨ρ, env, st, he, S, hf⟩ => by
    simp only [evX] at hf
    refine ⟨ρ, env, st, he, S, hf.bind fun d st1 ρ1 H1 v s1 S1 r1 hf1 => ?_⟩
    have hf1 : Fin m E X ρ1 H1 ((evX m.T m.F m.call ys env st1).bind fun ys s => .ok (d :: ys) s) (rDs X) Q := hf1
    refine ⟨ρ1, env, st1, he.mono S s1, S1, hf1.bind fun ds st2 ρ2 H2 vs s2 S2 r2 hf2 => ?_⟩
    exact hf2.now S2 (.cons (Rep.mono S1 s2 _ _ r1) r2)
theorem se_tup {es : List Expr} {ys : Xs} {k : Nat} (h : PA X es (tEvX m E X ys)) : PE X (.Tuple es k pos) (tEv m E X (.tup ys)) :=
  imE (pe_tup h) fun σ H Q ⟨ρ, env, st, he, S, hf⟩ => by
    simp only [evE] at hf
    refine ⟨ρ, env, st, he, S, hf.bind fun ds st1 ρ1 H1 vs s1 S1 r1 hf1 => ?_⟩
    split at hf1
    · rename_i hl
      exact ⟨by rw [← r1.length, ← line_eq]; exact hl, fun p hp => hf1.tup S1 r1 hp⟩
    · exact hf1.elim
theorem se_lst {es : List Expr} {ys : Xs} (h : PA X es (tEvX m E X ys)) : PE X (.List es pos) (tEv m E X (.lst ys)) :=
  imE (pe_lst h) fun σ H Q ⟨ρ, env, st, he, S, hf⟩ => by
    simp only [evE] at hf
    refine ⟨ρ, env, st, he, S, hf.bind fun ds st1 ρ1 H1 vs s1 S1 r1 hf1 => ?_⟩
    split at hf1
    · rename_i hl
      exact ⟨by rw [← r1.length, ← line_eq]; exact hl, fun p hp => hf1.lst S1 r1 hp⟩
    · exact hf1.elim

/-! built-in functions -/
theorem se_blt {id : String} {f : Blt} {g : List D → Store → R D} {w : Str} {es : List Expr} {ys : Xs} {p : Pos} (hb : bltV f = g) (hc : CallR X (.builtin id) (RLD m E X g)) (hg : Gl X w) (hm : X.mg w = none) (hv : bootBuiltins w = some (.builtin id)) (ha : PA X (e :: es) (tEvX m E X ys)) (hn : w ≠ "__name__") (hdb : (w == ("__debug__" : Str)) = false)
    (he : starEach (e :: es) X.env = (false, eval e X.env) :: starEach es X.env) (hpl : (backTo pos (starEach es X.env)).any (·.1) = false) : PE X (.Call (.Name w p) (e :: es) [] pos) (tEv m E X (.blt f ys)) :=
  imE (pe_callB hc hg hm hv ha hn hdb he hpl) fun σ H Q ⟨ρ, env, st, he, S, hf⟩ => by
    simp only [evE, hb] at hf
    refine ⟨ρ, env, st, he, S, hf.bind fun ds st1 ρ1 H1 vs s1 S1 r1 hf1 => ?_⟩
    exact ⟨ρ1, st1, ds, S1, r1, hf1⟩
theorem se_bltT {id : String} {f : Blt} {g : List D → Store → R D} {w : Str} {es : List Expr} {ys : Xs} {p : Pos} (hb : bltV f = g) (hc : CallR X (.type id) (RLD m E X g)) (hg : Gl X w) (hm : X.mg w = none) (hv : bootBuiltins w = some (.type id)) (ha : PA X (e :: es) (tEvX m E X ys)) (hn : w ≠ "__name__") (hdb : (w == ("__debug__" : Str)) = false)
    (he : starEach (e :: es) X.env = (false, eval e X.env) :: starEach es X.env) (hpl : (backTo pos (starEach es X.env)).any (·.1) = false) : PE X (.Call (.Name w p) (e :: es) [] pos) (tEv m E X (.blt f ys)) :=
  imE (pe_callTy hc hg hm hv ha hn hdb he hpl) fun σ H Q ⟨ρ, env, st, he, S, hf⟩ => by
    simp only [evE, hb] at hf
    refine ⟨ρ, env, st, he, S, hf.bind fun ds st1 ρ1 H1 vs s1 S1 r1 hf1 => ?_⟩
    exact ⟨ρ1, st1, ds, S1, r1, hf1⟩
end
end VI
/-! VIj: calls. -/
namespace VI
open PySem PySem.Spec PyProof.Rows L2
variable [LL]
/-- what is wanted behind a result, without a place in the text -/
def FinK {α β : Type} (m : Md) (E : XK) (P : Program) (w : World) (K : PySem.W.Frag) (ρ : List Addr) (H : Hp) (r : R α) (rep : List Addr → Hp → α → β → Prop) (Q : β → Hp → Prop) : Prop := match r with
  | .ok a st => ∀ ρ' H' b, Step ρ H ρ' H' → SRel m.nm P w K ρ' H' st → rep ρ' H' a b → Q b H'
  | .exc c x st => ∀ ρ' H' o C, Step ρ H ρ' H' → SRel m.nm P w K ρ' H' st → m.xA[c]? = some C → XRep K ρ' H' x o → E (.ref C) o H'
  | .stuck => False
/-- what a def promises: it does what the evaluator does -/
def spI (m : Md) (P : Program) (w : World) (K : PySem.W.Frag) (call : Caller) (f np : Nat) : Sp := fun vs H Q E => vs.length = np ∧ ∃ ρ st ds, SRel m.nm P w K ρ H st ∧ Reps K ρ H ds vs ∧ FinK m E P w K ρ H (call f ds st) (fun ρ H d v => Rep K ρ H d v) Q
section
variable {m : Md} {E : XK} {X : Cx} {e a b c : Expr} {x y z : Ex} {pos : Pos}
theorem Fin.k {α β : Type} {ρ : List Addr} {H : Hp} {r : R α} {rep : List Addr → Hp → α → β → Prop} {Q : β → Hp → Prop} (h : Fin m E X ρ H r rep Q) : FinK m E X.prog X.w X.K ρ H r rep Q := by
  cases r <;> exact h
theorem Fin.of_k {α β : Type} {ρ : List Addr} {H : Hp} {r : R α} {rep : List Addr → Hp → α → β → Prop} {Q : β → Hp → Prop} (h : FinK m E X.prog X.w X.K ρ H r rep Q) : Fin m E X ρ H r rep Q := by
  cases r <;> exact h
theorem evX_len {T : Tbl} {F : Nat} {call : Caller} {env : Env} : ∀ (ys : Xs) (n : Nat) (st : Store) (ds : List D) (st' : Store), ys.plain = some n → evX T F call ys env st = .ok ds st' → ds.length = n
  | .nil, n, st, ds, st', h, e => by
    simp only [Xs.plain, Option.some.injEq] at h
    simp only [evX, R.ok.injEq] at e
    rw [← h, ← e.1]; rfl
  | .cons s e r, n, st, ds, st', h, hr => by
    cases s with
    | true => simp [Xs.plain] at h
    | false =>
      simp only [Xs.plain] at h
      obtain ⟨k, hk, rfl⟩ := Option.map_eq_some_iff.mp h
      simp only [evX] at hr
      cases h1 : evE T F call e env st with
      | ok d s1 =>
        rw [h1] at hr
        simp only [R.bind] at hr
        cases h2 : evX T F call r env s1 with
        | ok es s2 =>
          simp only [h2, R.ok.injEq, if_false, Bool.false_eq_true] at hr
          rw [← hr.1, List.length_cons, evX_len r k s1 es s2 hk h2]
        | exc c x s => simp [h2] at hr
        | stuck => simp [h2] at hr
      | exc c x s => simp [h1, R.bind] at hr
      | stuck => simp [h1, R.bind] at hr
/-- f(e, ..) of an own def -/
theorem se_call {k f : Nat} {g : Addr} {fd : FuncData} {ps : List Str} {w : Str} {es : List Expr} {ys : Xs} {p : Pos} (F : FnOk X.prog X.w X.K X.mg X.base (L2.CX X.prog X.w) k g fd ps (spI m X.prog X.w X.K m.call f ps.length)) (hr : Room k X.A) (hg : Gl X w) (hm : X.mg w = some (.ref g)) (hk : PySem.W.keepIn X.K (.ref g) = true)
    (hb : Binds X.K fd ps []) (hx : Passes (L2.CX X.prog X.w) X E) (hl : ys.plain = some ps.length) (ha : PA X (e :: es) (tEvX m E X ys)) (hdb : (w == ("__debug__" : Str)) = false)
    (he : starEach (e :: es) X.env = (false, eval e X.env) :: starEach es X.env) (hpl : (backTo pos (starEach es X.env)).any (·.1) = false) : PE X (.Call (.Name w p) (e :: es) [] pos) (tEv m E X (.call f ys)) :=
  imE (pe_call F hr hg hm hk hb .nil hx ha hdb he hpl) fun σ H Q ⟨ρ, env, st, hen, S, hf⟩ => by
    simp only [evE] at hf
    cases hr' : evX m.T m.F m.call ys env st with
    | ok ds st1 =>
      refine ⟨ρ, env, st, hen, S, ?_⟩
      rw [hr'] at hf ⊢
      intro ρ1 H1 vs s1 S1 r1
      rw [List.append_nil]
      exact ⟨by rw [← r1.length]; exact evX_len _ _ _ _ _ hl hr', ρ1, st1, ds, S1, r1, (Fin.step hf s1).k⟩
    | exc c x' s' => rw [hr'] at hf; exact ⟨ρ, env, st, hen, S, by rw [hr']; exact hf⟩
    | stuck => rw [hr'] at hf; exact hf.elim
theorem se_call0 {k f : Nat} {g : Addr} {fd : FuncData} {ps : List Str} {w : Str} {p : Pos} (F : FnOk X.prog X.w X.K X.mg X.base (L2.CX X.prog X.w) k g fd ps (spI m X.prog X.w X.K m.call f ps.length)) (hr : Room k X.A) (hg : Gl X w) (hm : X.mg w = some (.ref g)) (hk : PySem.W.keepIn X.K (.ref g) = true)
    (hb : Binds X.K fd ps []) (hx : Passes (L2.CX X.prog X.w) X E) (hl : ps.length = 0) (hdb : (w == ("__debug__" : Str)) = false) : PE X (.Call (.Name w p) [] [] pos) (tEv m E X (.call f .nil)) :=
  imE (pe_call0 F hr hg hm hk hb .nil hx hdb) fun σ H Q ⟨ρ, env, st, hen, S, hf⟩ => by
    simp only [evE, evX, R.bind] at hf
    exact ⟨by rw [hl]; rfl, ρ, st, [], S, .nil, hf.k⟩

/-! methods of built-in types -/
/-- the type of what a method is asked of -/
def recvT : Bm → String
  | .append | .pop | .extend | .clear | .reverse | .count | .index => "list"
  | .get | .dpop => "dict"
  | .join | .split | .replace => "str"
theorem recv_ok {pins : List (Addr × Obj)} {σ : L2.St} {s : Shared} {ρ : List Addr} {H : Hp} {st : Store} {mt : Bm} {d : D} {v : V} {u : Value} (I : Inv X pins σ H s) (S : Rel m X ρ H st) (r : Rep X.K ρ H d v) (ru : RelV v u) (h : recvOk mt d st = true) (hc : mt ≠ .clear) :
    s.TypeIs u (recvT mt) ∧ ∀ a, u = .ref a → ∃ ob, s.heap.get? a = some ob ∧ ob.dict = none := by
  have lst : ∀ n, d = .ref n → (∃ xs, st.get n = some (.lst xs)) → s.TypeIs u "list" ∧ ∀ a, u = .ref a → ∃ ob, s.heap.get? a = some ob ∧ ob.dict = none := fun n e ⟨xs, g⟩ => by
    subst e
    cases r with
    | ref ha =>
      obtain ⟨vs, e, _⟩ := S.lst_at ha g
      exact tyV_is I ru (.inl ⟨rfl, vs, SqL.of e⟩)
  have str : ∀ x, d = .str x → s.TypeIs u "str" ∧ ∀ a, u = .ref a → ∃ ob, s.heap.get? a = some ob ∧ ob.dict = none := fun x e => by
    subst e
    cases r
    exact tyV_is I ru rfl
  have dct : ∀ n, d = .ref n → (∃ lk kvs, st.get n = some (.dct lk kvs)) → s.TypeIs u "dict" ∧ ∀ a, u = .ref a → ∃ ob, s.heap.get? a = some ob ∧ ob.dict = none := fun n e ⟨lk, kvs, g⟩ => by
    subst e
    cases r with
    | ref ha =>
      cases ru
      obtain ⟨es, ep, ⟨o, h1, h2, h3⟩, _⟩ := dct_raw I (S.dct_at ha g)
      refine ⟨⟨o, h1, h2.1⟩, fun a e => ?_⟩
      cases e
      exact ⟨o, h1, h2.2.1⟩
  unfold recvOk at h
  cases mt <;> first | exact absurd rfl hc | (simp only at h <;> (split at h <;> first | (split at h <;> first | exact lst _ rfl ⟨_, by assumption⟩ | exact dct _ rfl ⟨_, _, by assumption⟩ | cases h) | exact str _ rfl | cases h))
theorem se_bm {id : String} {mt : Bm} {g : D → List D → Store → R D} {name : Str} {apos cpos : Pos} {o : Expr} {es : List Expr} {ys : Xs} (hc : mt ≠ .clear) (hb : bmV mt = g) (pa : PlainAttrs (recvT mt)) (slot : Slot (recvT mt) name id) (hty : typeOf (.builtin id) = pure (.type "method_descriptor")) (hm : MtR X id (RMt m E X g))
    (ho : PE X o (tEv m E X x)) (ha : PA X (e :: es) (tEvX m E X ys))
    (hbase : attributeBase o name X.env (eval o X.env) = eval o X.env)
    (hfew : ((backTo cpos (starEach (e :: es) X.env)).all (fun x => !x.1) && (backToKw cpos (keywordEach [] X.env)).all (fun x => x.1.isSome)
      && decide ((e :: es).length + ([] : List Keyword).length + (if ([] : List Keyword).isEmpty then 0 else 1) < 30)) = true)
    (hline : (apos.endLine == cpos.line) = true) (hs : starEach (e :: es) X.env = (false, eval e X.env) :: starEach es X.env) (hplain : (backTo cpos (starEach es X.env)).any (·.1) = false) :
    PE X (.Call (.Attribute o name apos) (e :: es) [] cpos) (tEv m E X (.bm mt x ys)) := by
  refine ⟨fun pins s σ H Q I ⟨ρ, env, st, he, S, hf⟩ => ?_⟩
  simp only [evE, hb] at hf
  refine wpAny_Call_method_late hbase hfew hline rfl (thn (ho.run pins s σ H _ I ⟨ρ, env, st, he, S, hf.bind (Q1 := fun v H1 => ∃ ρ1 st1 d, Step ρ H ρ1 H1 ∧ Rel m X ρ1 H1 st1 ∧ Rep X.K ρ1 H1 d v ∧ recvOk mt d st1 = true ∧ Fin m E X ρ1 H1 ((evX m.T m.F m.call ys env st1).bind fun ds s => g d ds s) (rD X) Q) fun d st1 ρ1 H1 v s1 S1 r1 hf1 => ?_⟩) fun v s1 ⟨v', H1, I1, rv, ρ1, st1, d, stp, S1, r1, hr, hf1⟩ => ?_)
  · split at hf1
    · exact ⟨ρ1, st1, d, s1, S1, r1, by assumption, hf1⟩
    · exact hf1.elim
  · obtain ⟨h1, h2⟩ := recv_ok I1 S1 r1 rv hr hc
    refine ⟨_, id, pa, slot, hty, h1, h2, ?_⟩
    have hA := ha.run cpos pins s1 σ H1 (fun vs H2 => ∃ ρ2 st2 ds, Step ρ1 H1 ρ2 H2 ∧ Rel m X ρ2 H2 st2 ∧ Reps X.K ρ2 H2 ds vs ∧ Fin m E X ρ2 H2 (g d ds st2) (rD X) Q) I1 ⟨ρ1, env, st1, he.mono S stp, S1, hf1.bind fun ds st2 ρ2 H2 vs s2 S2 r2 hf2 => ⟨ρ2, st2, ds, s2, S2, r2, hf2⟩⟩
    rw [hs] at hA ⊢
    refine Calls.callWith_builtin (by show (false || (backTo cpos (starEach es X.env)).any (·.1)) = false; rw [hplain] <;> rfl) (Calls.evalArgs_plain ?_)
    exact thn hA fun us s2 ⟨vs, H2, I2, r2, ρ2, st2, ds, stp2, S2, rs, hf2⟩ => hm pins s2 σ H2 v' vs v us Q I2 rv r2 ⟨ρ2, st2, d, ds, S2, Rep.mono S1 stp2 _ _ r1, rs, hf2⟩
theorem se_bm0 {id : String} {mt : Bm} {g : D → List D → Store → R D} {name : Str} {apos cpos : Pos} {o : Expr} (hc : mt ≠ .clear) (hb : bmV mt = g) (pa : PlainAttrs (recvT mt)) (slot : Slot (recvT mt) name id) (hty : typeOf (.builtin id) = pure (.type "method_descriptor")) (hm : MtR X id (RMt m E X g))
    (ho : PE X o (tEv m E X x)) (hbase : attributeBase o name X.env (eval o X.env) = eval o X.env) (hline : (apos.endLine == cpos.line) = true) :
    PE X (.Call (.Attribute o name apos) [] [] cpos) (tEv m E X (.bm mt x .nil)) := by
  refine ⟨fun pins s σ H Q I ⟨ρ, env, st, he, S, hf⟩ => ?_⟩
  have hf : Fin m E X ρ H ((evE m.T m.F m.call x env st).bind fun x s => if recvOk mt x s then g x [] s else .stuck) (rD X) Q := by
    simp only [evE, evX, hb] at hf
    exact hf
  refine wpAny_Call_method0_late hbase hline (thn (ho.run pins s σ H _ I ⟨ρ, env, st, he, S, hf.bind (Q1 := fun v H1 => ∃ ρ1 st1 d, Step ρ H ρ1 H1 ∧ Rel m X ρ1 H1 st1 ∧ Rep X.K ρ1 H1 d v ∧ recvOk mt d st1 = true ∧ Fin m E X ρ1 H1 (g d [] st1) (rD X) Q) fun d st1 ρ1 H1 v s1 S1 r1 hf1 => ?_⟩) fun v s1 ⟨v', H1, I1, rv, ρ1, st1, d, stp, S1, r1, hr, hf1⟩ => ?_)
  · split at hf1
    · exact ⟨ρ1, st1, d, s1, S1, r1, by assumption, hf1⟩
    · exact hf1.elim
  · obtain ⟨h1, h2⟩ := recv_ok I1 S1 r1 rv hr hc
    exact ⟨_, id, pa, slot, hty, h1, h2, Calls.callWith_builtin rfl (PySem.evalArgs_none (hm pins s1 σ H1 v' [] v [] Q I1 rv .nil ⟨ρ1, st1, d, [], S1, r1, .nil, hf1⟩))⟩
/-- o.clear(): a list's or a dict's -/
theorem recv_clear {pins : List (Addr × Obj)} {σ : L2.St} {s : Shared} {ρ : List Addr} {H : Hp} {st : Store} {d : D} {v : V} {u : Value} (I : Inv X pins σ H s) (S : Rel m X ρ H st) (r : Rep X.K ρ H d v) (ru : RelV v u) (h : recvOk .clear d st = true) :
    (isDct d st = false ∧ s.TypeIs u "list" ∨ isDct d st = true ∧ s.TypeIs u "dict") ∧ ∀ a, u = .ref a → ∃ ob, s.heap.get? a = some ob ∧ ob.dict = none := by
  unfold recvOk at h
  simp only at h
  split at h
  · rename_i n
    split at h
    · rename_i xs g
      have h1 : recvOk .append (.ref n) st = true := by simp only [recvOk, g]
      obtain ⟨a, b⟩ := recv_ok (mt := .append) I S r ru h1 (fun z => nomatch z)
      exact ⟨.inl ⟨by simp only [isDct, g], a⟩, b⟩
    · rename_i lk kvs g
      have h1 : recvOk .get (.ref n) st = true := by simp only [recvOk, g]
      obtain ⟨a, b⟩ := recv_ok (mt := .get) I S r ru h1 (fun z => nomatch z)
      exact ⟨.inr ⟨by simp only [isDct, g], a⟩, b⟩
    · cases h
  · cases h
theorem se_clr {id1 id2 : String} {name : Str} {apos cpos : Pos} {o : Expr} (pa1 : PlainAttrs "list") (slot1 : Slot "list" name id1) (hty1 : typeOf (.builtin id1) = pure (.type "method_descriptor")) (hm1 : MtR X id1 (RMt m E X clearV))
    (pa2 : PlainAttrs "dict") (slot2 : Slot "dict" name id2) (hty2 : typeOf (.builtin id2) = pure (.type "method_descriptor")) (hm2 : MtR X id2 (RMt m E X dclearV))
    (ho : PE X o (tEv m E X x)) (hbase : attributeBase o name X.env (eval o X.env) = eval o X.env) (hline : (apos.endLine == cpos.line) = true) :
    PE X (.Call (.Attribute o name apos) [] [] cpos) (tEv m E X (.bm .clear x .nil)) := by
  refine ⟨fun pins s σ H Q I ⟨ρ, env, st, he, S, hf⟩ => ?_⟩
  have hf : Fin m E X ρ H ((evE m.T m.F m.call x env st).bind fun x s => if recvOk .clear x s then bmV .clear x [] s else .stuck) (rD X) Q := by
    simp only [evE, evX] at hf
    exact hf
  refine wpAny_Call_method0_late hbase hline (thn (ho.run pins s σ H _ I ⟨ρ, env, st, he, S, hf.bind (Q1 := fun v H1 => ∃ ρ1 st1 d, Step ρ H ρ1 H1 ∧ Rel m X ρ1 H1 st1 ∧ Rep X.K ρ1 H1 d v ∧ recvOk .clear d st1 = true ∧ Fin m E X ρ1 H1 (bmV .clear d [] st1) (rD X) Q) fun d st1 ρ1 H1 v s1 S1 r1 hf1 => ?_⟩) fun v s1 ⟨v', H1, I1, rv, ρ1, st1, d, stp, S1, r1, hr, hf1⟩ => ?_)
  · split at hf1
    · exact ⟨ρ1, st1, d, s1, S1, r1, by assumption, hf1⟩
    · exact hf1.elim
  · obtain ⟨h1, h2⟩ := recv_clear I1 S1 r1 rv hr
    rcases h1 with ⟨hd, h1⟩ | ⟨hd, h1⟩
    · have hf2 : Fin m E X ρ1 H1 (clearV d [] st1) (rD X) Q := by
        have : bmV .clear d [] st1 = clearV d [] st1 := by show (if isDct d st1 then _ else _) = _; rw [hd]; rfl
        rw [← this]; exact hf1
      exact ⟨_, id1, pa1, slot1, hty1, h1, h2, Calls.callWith_builtin rfl (PySem.evalArgs_none (hm1 pins s1 σ H1 v' [] v [] Q I1 rv .nil ⟨ρ1, st1, d, [], S1, r1, .nil, hf2⟩))⟩
    · have hf2 : Fin m E X ρ1 H1 (dclearV d [] st1) (rD X) Q := by
        have : bmV .clear d [] st1 = dclearV d [] st1 := by show (if isDct d st1 then _ else _) = _; rw [hd]; rfl
        rw [← this]; exact hf1
      exact ⟨_, id2, pa2, slot2, hty2, h1, h2, Calls.callWith_builtin rfl (PySem.evalArgs_none (hm2 pins s1 σ H1 v' [] v [] Q I1 rv .nil ⟨ρ1, st1, d, [], S1, r1, .nil, hf2⟩))⟩
end
end VI
/-! VIk: what is walked. -/
namespace VI
open PySem PySem.Spec PyProof.Rows L2
variable [LL]
theorem nth_stop {α : Type} {xs : List α} {i : Nat} {f : α → D} (h : nth xs i f = .stop) : xs.length ≤ i := by
  unfold nth at h
  split at h
  · cases h
  · exact List.getElem?_eq_none_iff.mp (by assumption)
theorem nth_item {α : Type} {xs : List α} {i : Nat} {f : α → D} {d : D} (h : nth xs i f = .item d) : ∃ x, xs[i]? = some x ∧ d = f x := by
  unfold nth at h
  split at h
  · rename_i x hx
    cases h
    exact ⟨x, hx, rfl⟩
  · cases h
theorem relV_uniq {x y : V} {u : Value} (h1 : RelV x u) (h2 : RelV y u) : x = y := by
  cases x with
  | non => cases (show u = Value.none from h1); cases y <;> first | rfl | (obtain ⟨_, z⟩ := h2; cases z) | cases (show (Value.none : Value) = _ from h2)
  | bl b => cases (show u = Value.bool b from h1); cases y <;> first | (obtain ⟨_, z⟩ := h2; cases z) | (cases (show Value.bool b = _ from h2); rfl) | cases (show Value.bool b = _ from h2)
  | int i => obtain ⟨t, rfl⟩ := (show ∃ t, u = Value.int i t from h1); cases y <;> first | (obtain ⟨_, z⟩ := h2; cases z; rfl) | (obtain ⟨_, z⟩ := h2; cases z) | cases (show Value.int i t = _ from h2)
  | str i => obtain ⟨t, rfl⟩ := (show ∃ t, u = Value.str i t from h1); cases y <;> first | (obtain ⟨_, z⟩ := h2; cases z; rfl) | (obtain ⟨_, z⟩ := h2; cases z) | cases (show Value.str i t = _ from h2)
  | byt i => obtain ⟨t, rfl⟩ := (show ∃ t, u = Value.bytes i t from h1); cases y <;> first | (obtain ⟨_, z⟩ := h2; cases z; rfl) | (obtain ⟨_, z⟩ := h2; cases z) | cases (show Value.bytes i t = _ from h2)
  | flt i => obtain ⟨t, rfl⟩ := (show ∃ t, u = Value.float i t from h1); cases y <;> first | (obtain ⟨_, z⟩ := h2; cases z; rfl) | (obtain ⟨_, z⟩ := h2; cases z) | cases (show Value.float i t = _ from h2)
  | ref a => cases (show u = Value.ref a from h1); cases y <;> first | (obtain ⟨_, z⟩ := h2; cases z) | (cases (show Value.ref a = _ from h2); rfl) | cases (show Value.ref a = _ from h2)
  | ty n => cases (show u = Value.type n from h1); cases y <;> first | (obtain ⟨_, z⟩ := h2; cases z) | (cases (show Value.type n = _ from h2); rfl) | cases (show Value.type n = _ from h2)

/-! ### a dict is locked while it is walked -/
/-- it may be unlocked again -/
def NoFz (X : Cx) (d : Addr) : Prop := ∀ o' u', X.H_0 d ≠ some (.frz o' u')
def unlQ {α : Type} (X : Cx) (Q : α → Hp → Prop) : α → Hp → Prop := fun a H => Q a H ∨ ∃ d od u, H d = some (.frz od u) ∧ NoFz X d ∧ Q a (upd H d u)
def unlD (X : Cx) (D : Ends) : Ends := ⟨unlQ X D.nx, unlQ X D.rt, unlQ X D.bk, unlQ X D.ct⟩
theorem ps_unl {X : Cx} {st : Stmt} {t : TS} (h : PS X st t) : PS X st (fun D σ H => t (unlD X D) σ H) := by
  refine ⟨fun pins s σ H D inv hw => ?_⟩
  refine thn (h.run pins s σ H _ inv hw) fun f s1 q => ?_
  cases f with
  | next =>
    obtain ⟨τ, G, J, q⟩ := q
    rcases q with q | ⟨d, od, u, e, nf, q⟩
    · exact ⟨τ, G, J, q⟩
    · exact ⟨τ, _, J.unlock e nf, q⟩
  | brk =>
    obtain ⟨τ, G, J, q⟩ := q
    rcases q with q | ⟨d, od, u, e, nf, q⟩
    · exact ⟨τ, G, J, q⟩
    · exact ⟨τ, _, J.unlock e nf, q⟩
  | cont =>
    obtain ⟨τ, G, J, q⟩ := q
    rcases q with q | ⟨d, od, u, e, nf, q⟩
    · exact ⟨τ, G, J, q⟩
    · exact ⟨τ, _, J.unlock e nf, q⟩
  | ret v =>
    obtain ⟨x, τ, G, J, r, q⟩ := q
    rcases q with q | ⟨d, od, u, e, nf, q⟩
    · exact ⟨x, τ, G, J, r, q⟩
    · exact ⟨x, τ, _, J.unlock e nf, r, q⟩
theorem pe_unl {X : Cx} {e : Expr} {t : TE} (h : PE X e t) : PE X e (fun σ H Q => t σ H (unlQ X Q)) := by
  refine ⟨fun pins s σ H Q inv hw => ?_⟩
  refine thn (h.run pins s σ H _ inv hw) fun v s1 ⟨x, G, J, r, q⟩ => ?_
  rcases q with q | ⟨d, od, u, e2, nf, q⟩
  · exact ⟨x, G, J, r, q⟩
  · exact ⟨x, _, J.unlock e2 nf, r, q⟩
/-- the heap behind the lock -/
def Lk (X : Cx) (ρ : List Addr) (H : Hp) (l : Option (Nat × List (D × D))) (G : Hp) : Prop := match l with
  | none => G = H
  | some (n, _) => ∃ d od u, ρ[n]? = some d ∧ H d = some u ∧ Mut (some u) ∧ NoFz X d ∧ G = upd H d (.frz od u)
section
variable (m : Md) (E : XK) (X : Cx)
/-- an iterator does what the evaluator's turns do -/
def ItOk (k : Itk) (ds : List D) (ρ0 : List Addr) (H0 : Hp) (J : It) : Prop := ∀ (i : Nat) (ρ : List Addr) (H : Hp) (st : Store), StepI ρ0 H0 ρ H → Rel m X ρ H st →
  (itAt k ds i st = .stop → J.stop i H) ∧ (∀ d, itAt k ds i st = .item d → J.go i H ∧ ∀ x H', J.yld i H x H' → Rel m X ρ H' st ∧ Step ρ H ρ H' ∧ Rep X.K ρ H' d x)
/-- the reading of what is walked -/
def iEv (k : Itk) (es : Xs) : TI := fun σ H R => ∃ ρ env st, ERel X ρ H env σ ∧ Rel m X ρ H st ∧ Fin m E X ρ H ((evX m.T m.F m.call es env st).bind fun ds s => .ok (ds, s) s) (fun ρ1 H1 (p : List D × Store) (vs : List V) => Reps X.K ρ1 H1 p.1 vs) fun vs H1 =>
  ∃ ρ1 st1 ds, Step ρ H ρ1 H1 ∧ Rel m X ρ1 H1 st1 ∧ Reps X.K ρ1 H1 ds vs ∧ itAt (snap k ds st1).1 (snap k ds st1).2 0 (lock (lockOf k ds st1) st1) ≠ .bad ∧
    ∀ J G, Lk X ρ1 H1 (lockOf k ds st1) G → ItOk m X (snap k ds st1).1 (snap k ds st1).2 ρ1 G J → R J G
end
section
variable {m : Md} {E : XK} {X : Cx} {e a b c : Expr} {x y z : Ex} {pos : Pos} {tg : Expr}
theorem imI {iter : Expr} {w w' : TI} (h : PI X tg iter w) (k : ∀ σ H R, w' σ H R → w σ H R) : PI X tg iter w' := ⟨fun pins s σ H R I q => h.run pins s σ H R I (k σ H R q)⟩
theorem snap_same {k : Itk} {ds : List D} {st : Store} (h : k = .rng ∨ k = .enum ∨ k = .zip) : snap k ds st = (k, ds) := by
  unfold snap
  rcases h with rfl | rfl | rfl <;> (split <;> first | rfl | (split <;> rfl))
theorem itAt_zip {ds : List D} {i : Nat} {st : Store} (h : itAt .zip ds i st ≠ .bad) : ∃ xs ys, ds = [.tup xs, .tup ys] := by
  match ds with
  | [] => exact absurd rfl h
  | [_] => exact absurd rfl h
  | [.tup xs, .tup ys] => exact ⟨xs, ys, rfl⟩
  | _ :: _ :: _ :: _ => exact absurd rfl h
  | [.non, _] | [.bl _, _] | [.int _, _] | [.str _, _] | [.ref _, _] => exact absurd rfl h
  | [.tup _, .non] | [.tup _, .bl _] | [.tup _, .int _] | [.tup _, .str _] | [.tup _, .ref _] => exact absurd rfl h
theorem mut_frz {u : HO} (h : Mut (some u)) : ∀ o v, u ≠ .frz o v := fun o v z => by subst z; exact h
theorem mut_tup {u : HO} (h : Mut (some u)) : ∀ xs, u ≠ .tup xs := fun xs z => by subst z; exact h
theorem sqt_new {K : PySem.W.Frag} {H : Hp} {d : Addr} {u o : HO} (h : H d = some u) (n1 : ∀ xs, u ≠ .tup xs) (n2 : ∀ w xs, u ≠ .frz w (.tup xs)) : ∀ a xs, SqT K H a xs → SqT K (upd H d o) a xs := fun a xs q => by
  rcases q with q | q
  · have hn : a ≠ d := fun z => by
      subst z
      rcases q with q | ⟨w, q⟩
      · rw [h] at q; cases q; exact n1 _ rfl
      · rw [h] at q; cases q; exact n2 _ _ rfl
    rcases q with q | ⟨w, q⟩
    · exact .inl (.inl (by rw [upd_ne hn]; exact q))
    · exact .inl (.inr ⟨w, by rw [upd_ne hn]; exact q⟩)
  · exact .inr q
/-- what is known by what is true of it alone stays -/
abbrev Xk (ρ : List Addr) (H : Hp) (ρ' : List Addr) (H' : Hp) : Prop := ∀ (c : Addr) (φ : Heap → Prop), H c = some (.ext φ) → c ∉ ρ → H' c = some (.ext φ) ∧ c ∉ ρ'
theorem xk_upd {ρ : List Addr} {H : Hp} {p : Addr} {av : List V} {o : HO} (h : H p = some (.lst av)) : Xk ρ H ρ (upd H p o) := fun c φ hc hn => ⟨(upd_ne fun z => by rw [z, h] at hc; cases hc).trans hc, hn⟩
mutual
theorem Rep.mv {K : PySem.W.Frag} {ρ ρ' : List Addr} {H H' : Hp} (h1 : ∀ (n : Nat) (a : Addr), ρ[n]? = some a → ρ'[n]? = some a) (h2 : ∀ a xs, SqT K H a xs → SqT K H' a xs) (h3 : Xk ρ H ρ' H') : ∀ (d : D) (v : V), Rep K ρ H d v → Rep K ρ' H' d v
  | .non, _, .non => .non
  | .bl b, _, .bl _ => .bl b
  | .int i, _, .int _ => .int i
  | .str x, _, .str _ => .str x
  | .tup xs, _, .tup q r => .tup (h2 _ _ q) (Reps.mv h1 h2 h3 xs _ r)
  | .ref n, _, .ref q => .ref (h1 n _ q)
  | .fn k, _, .fn a b c d e g y => .fn a (h3 _ _ b c).1 (h3 _ _ b c).2 (h3 _ _ d e).1 (h3 _ _ d e).2 g y
  | .fn k, _, .err z => .err z
theorem Reps.mv {K : PySem.W.Frag} {ρ ρ' : List Addr} {H H' : Hp} (h1 : ∀ (n : Nat) (a : Addr), ρ[n]? = some a → ρ'[n]? = some a) (h2 : ∀ a xs, SqT K H a xs → SqT K H' a xs) (h3 : Xk ρ H ρ' H') : ∀ (d : List D) (v : List V), Reps K ρ H d v → Reps K ρ' H' d v
  | [], _, .nil => .nil
  | x :: xs, _, .cons a b => .cons (Rep.mv h1 h2 h3 x _ a) (Reps.mv h1 h2 h3 xs _ b)
end
theorem ORep.mv {nm : Nm} {P : Program} {w : World} {K : PySem.W.Frag} {ρ ρ' : List Addr} {H H' : Hp} (h1 : ∀ (n : Nat) (a : Addr), ρ[n]? = some a → ρ'[n]? = some a) (h2 : ∀ a xs, SqT K H a xs → SqT K H' a xs) (hcod : Xk ρ H ρ' H') {o : Ob} {a : Addr} (e : H' a = H a) (r : ORep nm P w K ρ H o a) : ORep nm P w K ρ' H' o a := by
  cases o with
  | lst xs => obtain ⟨vs, q, r⟩ := r; exact ⟨vs, e.trans q, Reps.mv h1 h2 hcod _ _ r⟩
  | flst xs => obtain ⟨vs, q, r, z⟩ := r; exact ⟨vs, q.imp e.trans fun ⟨u, q⟩ => ⟨u, e.trans q⟩, Reps.mv h1 h2 hcod _ _ r, z⟩
  | tab i =>
    obtain ⟨q, ps, a1, a2, a3, a4⟩ := r
    exact ⟨q, ps, a1, e.trans a2, a3, fun pos cv hc => let ⟨c, b1, b2, b3⟩ := a4 pos cv hc; ⟨c, b1, hcod c _ b2 b3⟩⟩
  | dct lk kvs =>
    obtain ⟨z, y, r⟩ := r
    have hat : ∀ u, At H lk a u → At H' lk a u := fun u q => by
      unfold At at q ⊢
      rw [e]; exact q
    refine ⟨z, y, ?_⟩
    rcases r with ⟨kv, q, r⟩ | ⟨ne, xs, q, r, n⟩
    · exact .inl ⟨kv, hat _ q, paired_imp r fun p q z => ⟨z.1, Rep.mv h1 h2 hcod _ _ z.2⟩⟩
    · exact .inr ⟨ne, xs, hat _ q, paired_imp r fun p q z => ⟨z.1, z.2.1, Rep.mv h1 h2 hcod _ _ z.2.2.1, let ⟨v, h3, h4⟩ := z.2.2.2; ⟨v, h3, Rep.mv h1 h2 hcod _ _ h4⟩⟩, n⟩
  | ins c fs => obtain ⟨C, dx, fv, c1, q, r⟩ := r; exact ⟨C, dx, fv, c1, e.trans q, paired_imp r fun p q z => ⟨z.1, z.2.1, Rep.mv h1 h2 hcod _ _ z.2.2⟩⟩
/-- what a dict of the store is -/
theorem dct_open {ρ : List Addr} {H : Hp} {kvs : List (D × D)} {d : Addr} (r : DRep X.prog X.w X.K ρ H false kvs d) : ∃ u, H d = some u ∧ Mut (some u) ∧ ∀ (od : Obj) (ρ' : List Addr) (H' : Hp), (∀ (x : D) (v : V), Rep X.K ρ H x v → Rep X.K ρ' H' x v) →
    (H' d = some u → DRep X.prog X.w X.K ρ' H' false kvs d) ∧ (H' d = some (.frz od u) → DRep X.prog X.w X.K ρ' H' true kvs d) := by
  obtain ⟨z, y, r⟩ := r
  rcases r with ⟨kv, q, r⟩ | ⟨ne, xs, q, r, n⟩
  · refine ⟨_, q, trivial, fun od ρ' H' f => ⟨fun e => ⟨z, y, .inl ⟨kv, e, paired_imp r fun p q z => ⟨z.1, f _ _ z.2⟩⟩⟩, fun e => ⟨z, y, .inl ⟨kv, ⟨od, e⟩, paired_imp r fun p q z => ⟨z.1, f _ _ z.2⟩⟩⟩⟩⟩
  · refine ⟨_, q, trivial, fun od ρ' H' f => ⟨fun e => ⟨z, y, .inr ⟨ne, xs, e, ?_, n⟩⟩, fun e => ⟨z, y, .inr ⟨ne, xs, ⟨od, e⟩, ?_, n⟩⟩⟩⟩
    all_goals exact paired_imp r fun p q z => ⟨z.1, z.2.1, f _ _ z.2.2.1, let ⟨v, h3, h4⟩ := z.2.2.2; ⟨v, h3, f _ _ h4⟩⟩
theorem dct_shut {ρ : List Addr} {H : Hp} {kvs : List (D × D)} {d : Addr} (r : DRep X.prog X.w X.K ρ H true kvs d) : ∃ o u, H d = some (.frz o u) := by
  obtain ⟨z, y, r⟩ := r
  rcases r with ⟨kv, ⟨o, q⟩, r⟩ | ⟨ne, xs, ⟨o, q⟩, r, n⟩
  · exact ⟨o, _, q⟩
  · exact ⟨o, _, q⟩
/-- the lock, as the store has it -/
theorem lk_rel {ρ : List Addr} {H G : Hp} {st : Store} {k : Itk} {ds : List D} (S : Rel m X ρ H st) (h : Lk X ρ H (lockOf k ds st) G) : Rel m X ρ G (lock (lockOf k ds st) st) ∧ Step ρ H ρ G := by
  unfold lockOf at h ⊢
  split at h
  · split at h
    · rename_i n kvs g
      obtain ⟨d, od, u, hn, hd, mu, nf, rfl⟩ := h
      obtain ⟨u', hu', mu', f⟩ := dct_open (S.dct_at hn g)
      rw [hd] at hu'; cases hu'
      exact SRel.change S hn (fun o v z => by rw [hd] at z; cases z; exact mu) (fun b hb => upd_ne hb) fun stp => (f od ρ _ fun x v r => Rep.mono S stp x v r).2 upd_same
    · cases h
      exact ⟨S, Step.refl _ _⟩
  · cases h
    exact ⟨S, Step.refl _ _⟩
/-- behind the walk the dict is unlocked -/
theorem fin_unl {α β : Type} {ρ : List Addr} {H G : Hp} {st : Store} {k : Itk} {ds : List D} {r : R α} {rep : List Addr → Hp → α → β → Prop} {Q : β → Hp → Prop} (S : Rel m X ρ H st) (h : Lk X ρ H (lockOf k ds st) G)
    (hrep : ∀ ρ' (H' : Hp) (H'' : Hp) a b, (∀ (x : D) (v : V), Rep X.K ρ' H' x v → Rep X.K ρ' H'' x v) → rep ρ' H' a b → rep ρ' H'' a b) (hf : Fin m E X ρ H (R.unl (lockOf k ds st) r) rep Q) : Fin m E X ρ G r rep (unlQ X Q) := by
  have hs := (lk_rel S h).2
  cases hl : lockOf k ds st with
  | none =>
    rw [hl] at h hf
    cases h
    cases r with
    | ok a st' => exact fun ρ' H' b s' S' rp => .inl (hf ρ' H' b s' S' rp)
    | exc c x st' => exact hf
    | stuck => exact hf.elim
  | some p =>
    obtain ⟨n, kvs⟩ := p
    have g : st.get n = some (.dct false kvs) := by
      unfold lockOf at hl
      split at hl
      · split at hl
        · rename_i g; cases hl; exact g
        · cases hl
      · cases hl
    rw [hl] at h hf
    obtain ⟨d, od, u, hn, hd, mu, nf, rfl⟩ := h
    cases r with
    | exc c x st' => exact hf.elim
    | stuck => exact hf.elim
    | ok a st' =>
      intro ρ' H' b s' S' rp
      have hfz : H' d = some (.frz od u) := s'.frz d od u upd_same
      have hn' : ρ'[n]? = some d := s'.ext n d hn
      have hsq := sqt_new (K := X.K) (o := u) hfz (fun _ z => by cases z) (fun w xs z => by cases z; exact mu)
      have hmv : ∀ (x : D) (v : V), Rep X.K ρ' H' x v → Rep X.K ρ' (upd H' d u) x v := fun x v r => Rep.mv (fun _ _ z => z) hsq (fun c φ hc hn => ⟨(upd_ne fun z => hn (z ▸ List.mem_of_getElem? hn')).trans hc, hn⟩) x v r
      have stp : Step ρ H ρ' (upd H' d u) := by
        refine ⟨fun n a z => s'.ext n a z, fun a o z hna => ?_, fun a o v z => ?_⟩
        · have ne : a ≠ d := fun z => hna (z ▸ List.mem_of_getElem? hn)
          obtain ⟨q1, q2⟩ := s'.keep a o (by rw [upd_ne ne]; exact z) hna
          exact ⟨by rw [upd_ne ne]; exact q1, q2⟩
        · have ne : a ≠ d := fun y => by subst y; rw [hd] at z; cases z; exact mu
          rw [upd_ne ne]
          exact s'.frz a o v (by rw [upd_ne ne]; exact z)
      obtain ⟨u', hu', mu', f⟩ := dct_open (S.dct_at hn g)
      rw [hd] at hu'; cases hu'
      have hlt : n < st'.sz := by rw [S'.sz]; exact (List.getElem?_eq_some_iff.mp hn').1
      refine .inr ⟨d, od, u, hfz, nf, hf ρ' _ b stp ⟨S'.nd, by show (st'.set n _).sz = _; rw [Store.set_sz]; exact S'.sz, fun i c hc => ?_, S'.ct.imp hmv⟩ (hrep ρ' H' _ a b hmv rp)⟩
      by_cases e : i = n
      · subst e
        rw [hn'] at hc; cases hc
        exact ⟨.dct false kvs, Store.get_set_self hlt, (f od ρ' _ fun x v r => Rep.mono S stp x v r).1 upd_same⟩
      · obtain ⟨ob, g', q⟩ := S'.ob i c hc
        refine ⟨ob, by show (st'.set n _).get i = _; rw [Store.get_set_ne e]; exact g', ORep.mv (fun _ _ z => z) hsq (fun c q hc hn => ⟨(upd_ne fun z => hn (z ▸ List.mem_of_getElem? hn')).trans hc, hn⟩) (upd_ne fun z => ?_) q⟩
        subst z
        obtain ⟨z1, e1⟩ := List.getElem?_eq_some_iff.mp hn'
        obtain ⟨z2, e2⟩ := List.getElem?_eq_some_iff.mp hc
        exact e ((List.getElem_inj S'.nd).mp (e2.trans e1.symm))
theorem ev1 {T : Tbl} {F : Nat} {call : Caller} {env : Env} {st : Store} : evX T F call (.cons false x .nil) env st = (evE T F call x env st).bind fun d s => .ok [d] s := by
  simp only [evX]
  cases evE T F call x env st <;> rfl
theorem ok_tup {ρ0 : List Addr} {H0 : Hp} {st0 : Store} {xs : List D} {a : Addr} {vs : List V} (S0 : Rel m X ρ0 H0 st0) (q : SqT X.K H0 a vs) (rs : Reps X.K ρ0 H0 xs vs) : ItOk m X .val [.tup xs] ρ0 H0 (Itt X.K a) := fun i ρ H st stp S => by
  have q2 := stp.tup S0 q
  have rs2 := Reps.monoI S0 stp _ _ rs
  refine ⟨fun h => ?_, fun d h => ?_⟩
  · exact ⟨_, q2, by rw [← rs2.length]; exact nth_stop h⟩
  · obtain ⟨x, hx, rfl⟩ := nth_item h
    obtain ⟨v, hv, rv⟩ := rs2.get hx
    refine ⟨⟨_, v, q2, hv⟩, fun y H' hy => ?_⟩
    obtain ⟨rfl, hy⟩ := hy
    have := hy _ q2
    rw [hv] at this
    cases this
    exact ⟨S, Step.refl _ _, rv⟩
theorem ok_str {ρ0 : List Addr} {H0 : Hp} {x : List Nat} : ItOk m X .val [.str x] ρ0 H0 (Its (toS x)) := fun i ρ H st _ S => by
  have hsz : (toS x).cps.size = x.length := toS_len x
  have hget : (toS x).cps[i]? = x[i]? := by simp [toS]
  refine ⟨fun h => ?_, fun d h => ?_⟩
  · show (toS x).cps.size ≤ i
    rw [hsz]; exact nth_stop h
  · obtain ⟨c, hc, rfl⟩ := nth_item h
    refine ⟨by show i < (toS x).cps.size; rw [hsz]; exact (List.getElem?_eq_some_iff.mp hc).1, fun y H' hy => ?_⟩
    obtain ⟨rfl, c', h1, rfl⟩ := hy
    rw [hget, hc] at h1
    cases h1
    exact ⟨S, Step.refl _ _, .str [c]⟩
theorem ok_lst {ρ0 : List Addr} {H0 : Hp} {n : Nat} {a : Addr} (ha : ρ0[n]? = some a) : ItOk m X .val [.ref n] ρ0 H0 (Itl X.K a) := fun i ρ H st stp S => by
  have ha' := stp.ext n a ha
  have key : ∀ xs vs, SqL X.K H a vs → Reps X.K ρ H xs vs → (nth xs i id = .stop → (Itl X.K a).stop i H) ∧ (∀ d, nth xs i id = .item d → (Itl X.K a).go i H ∧ ∀ x H', (Itl X.K a).yld i H x H' → Rel m X ρ H' st ∧ Step ρ H ρ H' ∧ Rep X.K ρ H' d x) := fun xs vs q2 rs2 => by
    refine ⟨fun h => ?_, fun d h => ?_⟩
    · exact ⟨_, q2, by rw [← rs2.length]; exact nth_stop h⟩
    · obtain ⟨x, hx, rfl⟩ := nth_item h
      obtain ⟨v, hv, rv⟩ := rs2.get hx
      refine ⟨⟨_, v, q2, hv⟩, fun y H' hy => ?_⟩
      obtain ⟨rfl, hy⟩ := hy
      have := hy _ q2
      rw [hv] at this
      cases this
      exact ⟨S, Step.refl _ _, rv⟩
  show (itVal (.ref n) i st = .stop → _) ∧ (∀ d, itVal (.ref n) i st = .item d → _)
  unfold itVal
  simp only
  split
  · rename_i xs g
    obtain ⟨vs, e, rs2⟩ := S.lst_at ha' g
    exact key xs vs (SqL.of e) rs2
  · rename_i xs g
    obtain ⟨vs, e, rs2⟩ := S.flst_at ha' g
    exact key xs vs (.inl e) rs2
  · exact ⟨(fun h => nomatch h), (fun _ h => nomatch h)⟩
/-! a dict's entries, as they stand -/
def ItRk (d : Addr) (o : Obj) (u : HO) (es : Array DictEntry) : It := ⟨fun i H => H d = some (.frz o u) ∧ i < es.size, fun i H x H' => H' = H ∧ ∃ hi : i < es.size, RelV x es[i].key, fun i H => H d = some (.frz o u) ∧ es.size ≤ i⟩
def ItRv (d : Addr) (o : Obj) (u : HO) (es : Array DictEntry) : It := ⟨fun i H => H d = some (.frz o u) ∧ i < es.size, fun i H x H' => H' = H ∧ ∃ hi : i < es.size, RelV x es[i].val, fun i H => H d = some (.frz o u) ∧ es.size ≤ i⟩
def ItRi (d : Addr) (o : Obj) (u : HO) (es : Array DictEntry) : It := ⟨fun i H => H d = some (.frz o u) ∧ i < es.size, fun i H x H' => ∃ T k v, x = .ref T ∧ H T = none ∧ H' = upd H T (.tup [k, v]) ∧ ∃ hi : i < es.size, RelV k es[i].key ∧ RelV v es[i].val, fun i H => H d = some (.frz o u) ∧ es.size ≤ i⟩
section
variable {P : Program} {w : World} {K : PySem.W.Frag} {d : Addr} {o : Obj} {u : HO} {es : Array DictEntry} {ep : Nat}
theorem turn_rk (it : Addr) (hx : o.ExactDict) (hod : o.data = .dict es ep) (hv : ∀ i (hi : i < es.size), ∃ v, RelV v es[i].key) : Turn P w K tg (ItRk d o u es) [it] it (fun i h => h.IsKeyIter it d i es.size ep) where
  mem := List.mem_singleton.mpr rfl
  obj := fun i h st b hb => by
    cases List.mem_singleton.mp hb
    obtain ⟨oi, e, c, dd⟩ := st
    exact ⟨oi, e, fun v z => by rw [dd] at z; cases z⟩
  keep := fun i h h' st k => st.at fun oi e => k it (List.mem_singleton.mpr rfl) oi e
  item := by
    intro X hP hw hK hc i pins s σ H E inv hf st ⟨hd, hi⟩
    subst hP hw hK
    obtain ⟨f0, f1, f2, f3, f4, f5⟩ := hf it (List.mem_singleton.mpr rfl)
    refine wpAny_pyNext_keys_item_raw st ⟨o, (inv.hok d _ hd).1, hx, hod⟩ hi fun h' st' sb => ?_
    have inv1 : Inv X pins σ H { s with heap := h' } := inv.turned (t' := s.toks) (fun b ob hb e => (sb.2 b hb).trans e) f0 f1 f3 f4 f5
    obtain ⟨oi, e, c, dd⟩ := id st'
    obtain ⟨x, rx⟩ := hv i hi
    exact ⟨es[i].key, rfl, go_of (s := { s with heap := h' }) e c dd (by decide) ⟨x, H, inv1, rx, ⟨rfl, hi, rx⟩, st', fun b hb => (hf b hb).1⟩⟩
  done := by
    intro X hP hw hK hc i pins s σ H E inv hf st ⟨hd, hi⟩
    subst hP hw hK
    obtain ⟨f0, f1, f2, f3, f4, f5⟩ := hf it (List.mem_singleton.mpr rfl)
    exact wpAny_pyNext_keys_end_raw (inv.ok.hd hc) st ⟨o, (inv.hok d _ hd).1, hx, hod⟩ hi fun h' eb => ⟨rfl, inv.turned (t' := s.toks) (fun b ob hb e => eb b ob hb e) f0 f1 f3 f4 f5⟩
  self := fun A i s Q E st h => wpAny_pyIter_keyiter st h
theorem turn_rv (it : Addr) (hx : o.ExactDict) (hod : o.data = .dict es ep) (hv : ∀ i (hi : i < es.size), ∃ v, RelV v es[i].val) : Turn P w K tg (ItRv d o u es) [it] it (fun i h => h.IsValIter it d i es.size ep) where
  mem := List.mem_singleton.mpr rfl
  obj := fun i h st b hb => by
    cases List.mem_singleton.mp hb
    obtain ⟨oi, e, c, dd⟩ := st
    exact ⟨oi, e, fun v z => by rw [dd] at z; cases z⟩
  keep := fun i h h' st k => st.at fun oi e => k it (List.mem_singleton.mpr rfl) oi e
  item := by
    intro X hP hw hK hc i pins s σ H E inv hf st ⟨hd, hi⟩
    subst hP hw hK
    obtain ⟨f0, f1, f2, f3, f4, f5⟩ := hf it (List.mem_singleton.mpr rfl)
    refine wpAny_pyNext_values_item_raw st ⟨o, (inv.hok d _ hd).1, hx, hod⟩ hi fun h' st' sb => ?_
    have inv1 : Inv X pins σ H { s with heap := h' } := inv.turned (t' := s.toks) (fun b ob hb e => (sb.2 b hb).trans e) f0 f1 f3 f4 f5
    obtain ⟨oi, e, c, dd⟩ := id st'
    obtain ⟨x, rx⟩ := hv i hi
    exact ⟨es[i].val, rfl, go_of (s := { s with heap := h' }) e c dd (by decide) ⟨x, H, inv1, rx, ⟨rfl, hi, rx⟩, st', fun b hb => (hf b hb).1⟩⟩
  done := by
    intro X hP hw hK hc i pins s σ H E inv hf st ⟨hd, hi⟩
    subst hP hw hK
    obtain ⟨f0, f1, f2, f3, f4, f5⟩ := hf it (List.mem_singleton.mpr rfl)
    exact wpAny_pyNext_values_end_raw (inv.ok.hd hc) st ⟨o, (inv.hok d _ hd).1, hx, hod⟩ hi fun h' eb => ⟨rfl, inv.turned (t' := s.toks) (fun b ob hb e => eb b ob hb e) f0 f1 f3 f4 f5⟩
  self := fun A i s Q E st h => wpAny_pyIter_valiter st h
theorem turn_ri {elts : List Expr} {kk : Nat} {tpos : Pos} (it : Addr) (hx : o.ExactDict) (hod : o.data = .dict es ep) (hv : ∀ i (hi : i < es.size), ∃ k v, RelV k es[i].key ∧ RelV v es[i].val) :
    Turn P w K (.Tuple elts kk tpos) (ItRi d o u es) [it] it (fun i h => ∃ ok ov, IsItemIter h it d i es.size ep ok ov) where
  mem := List.mem_singleton.mpr rfl
  obj := fun i h st b hb => by
    cases List.mem_singleton.mp hb
    obtain ⟨ok, ov, e⟩ := st
    exact ⟨_, e, fun v z => nomatch z⟩
  keep := fun i h h' st k => let ⟨ok, ov, e⟩ := st; ⟨ok, ov, k it (List.mem_singleton.mpr rfl) _ e⟩
  item := by
    intro X hP hw hK hc i pins s σ H E inv hf st ⟨hd, hi⟩
    subst hP hw hK
    obtain ⟨ok, ov, he⟩ := st
    have hlt : it < s.heap.objs.size := Heap.lt_size he
    obtain ⟨kx, vx, rk, rv⟩ := hv i hi
    refine wpAny_pyNext_items_item_raw he ⟨o, (inv.hok d _ hd).1, hx, hod⟩ hi fun h' ho hT hz hk => ?_
    refine ⟨_, rfl, wpAny_letOwnedTupleGo_items (s := { s with heap := h' }) ho fun h'' he' sb => ?_⟩
    have hT2 : h''.get? s.heap.objs.size = some { cls := .type "tuple", data := .seq #[es[i].key, es[i].val] } := (sb.2 _ (Nat.ne_of_gt hlt)).trans hT
    have new : ObjOk X.prog X.w (upd H s.heap.objs.size (.tup [kx, vx])) h'' s.heap.objs.size (.tup [kx, vx]) :=
      ⟨by show 2 ≤ sizeLine; decide, [es[i].key, es[i].val], .cons rk (.cons rv .nil), ⟨_, hT2, rfl, _, rfl⟩⟩
    have inv1 : Inv X pins σ (upd H s.heap.objs.size (.tup [kx, vx])) { s with heap := h'' } :=
      inv.turnedNew (t' := s.toks) (ch := [it]) (fun b ob hb e => (sb.2 b fun z => hb (List.mem_singleton.mpr z)).trans (hk b ob (fun z => hb (List.mem_singleton.mpr z)) e)) hf (Nat.le_refl _) new
    refine ⟨.ref s.heap.objs.size, _, inv1, rfl, ⟨_, kx, vx, rfl, inv.hok.fresh (Nat.le_refl _), rfl, hi, rk, rv⟩, ⟨es[i].key, es[i].val, he'⟩, fun b hb => ?_⟩
    cases List.mem_singleton.mp hb
    rw [upd_ne (Nat.ne_of_lt hlt)]
    exact (hf it (List.mem_singleton.mpr rfl)).1
  done := by
    intro X hP hw hK hc i pins s σ H E inv hf st ⟨hd, hi⟩
    subst hP hw hK
    obtain ⟨f0, f1, f2, f3, f4, f5⟩ := hf it (List.mem_singleton.mpr rfl)
    obtain ⟨ok, ov, he⟩ := st
    exact wpAny_pyNext_items_end_raw (inv.ok.hd hc) he ⟨o, (inv.hok d _ hd).1, hx, hod⟩ hi fun h' eb => ⟨rfl, inv.turned (t' := s.toks) (fun b ob hb e => eb b ob hb e) f0 f1 f3 f4 f5⟩
  self := fun A i s Q E st h => let ⟨_, _, e⟩ := st; wpAny_pyIter_itemiter e h
end
/-- the entries of a locked dict, and what they stand for -/
structure DEnt (m : Md) (X : Cx) (ρ : List Addr) (H : Hp) (kvs : List (D × D)) (d : Addr) (o : Obj) (u : HO) (es : Array DictEntry) : Prop where
  fz : H d = some (.frz o u)
  sz : es.size = kvs.length
  at_ : ∀ i (hi : i < es.size), ∃ p vk vd, kvs[i]? = some p ∧ RelV vk es[i].key ∧ Rep X.K ρ H p.1 vk ∧ RelV vd es[i].val ∧ Rep X.K ρ H p.2 vd
theorem DEnt.mono {ρ ρ' : List Addr} {H H' : Hp} {st : Store} {kvs : List (D × D)} {d : Addr} {o : Obj} {u : HO} {es : Array DictEntry} (h : DEnt m X ρ H kvs d o u es) (S : Rel m X ρ H st) (s : Step ρ H ρ' H') : DEnt m X ρ' H' kvs d o u es :=
  ⟨s.frz _ _ _ h.fz, h.sz, fun i hi => let ⟨p, vk, vd, h1, h2, h3, h4, h5⟩ := h.at_ i hi; ⟨p, vk, vd, h1, h2, Rep.mono S s _ _ h3, h4, Rep.mono S s _ _ h5⟩⟩
theorem DEnt.monoI {ρ ρ' : List Addr} {H H' : Hp} {st : Store} {kvs : List (D × D)} {d : Addr} {o : Obj} {u : HO} {es : Array DictEntry} (h : DEnt m X ρ H kvs d o u es) (S : Rel m X ρ H st) (s : StepI ρ H ρ' H') : DEnt m X ρ' H' kvs d o u es :=
  ⟨s.frz _ _ _ h.fz, h.sz, fun i hi => let ⟨p, vk, vd, h1, h2, h3, h4, h5⟩ := h.at_ i hi; ⟨p, vk, vd, h1, h2, Rep.monoI S s _ _ h3, h4, Rep.monoI S s _ _ h5⟩⟩
theorem ok_rk {ρ0 : List Addr} {H0 : Hp} {st0 : Store} {kvs : List (D × D)} {d : Addr} {o : Obj} {u : HO} {es : Array DictEntry} (S0 : Rel m X ρ0 H0 st0) (h : DEnt m X ρ0 H0 kvs d o u es) : ItOk m X .val [.tup (kvs.map (·.1))] ρ0 H0 (ItRk d o u es) := fun i ρ H st stp S => by
  have h2 := h.monoI S0 stp
  refine ⟨fun z => ⟨h2.fz, ?_⟩, fun x z => ?_⟩
  · have := nth_stop z
    rw [List.length_map] at this
    rw [h2.sz]; exact this
  · obtain ⟨y, hy, rfl⟩ := nth_item z
    rw [List.getElem?_map] at hy
    obtain ⟨p, hp, rfl⟩ := Option.map_eq_some_iff.mp hy
    have hi : i < es.size := by rw [h2.sz]; exact (List.getElem?_eq_some_iff.mp hp).1
    refine ⟨⟨h2.fz, hi⟩, fun x H' hx => ?_⟩
    obtain ⟨rfl, hi', rx⟩ := hx
    obtain ⟨p', vk, vd, h3, h4, h5, _⟩ := h2.at_ i hi
    rw [hp] at h3; cases h3
    cases relV_uniq rx h4
    exact ⟨S, Step.refl _ _, h5⟩
theorem ok_rv {ρ0 : List Addr} {H0 : Hp} {st0 : Store} {kvs : List (D × D)} {d : Addr} {o : Obj} {u : HO} {es : Array DictEntry} (S0 : Rel m X ρ0 H0 st0) (h : DEnt m X ρ0 H0 kvs d o u es) : ItOk m X .val [.tup (kvs.map (·.2))] ρ0 H0 (ItRv d o u es) := fun i ρ H st stp S => by
  have h2 := h.monoI S0 stp
  refine ⟨fun z => ⟨h2.fz, ?_⟩, fun x z => ?_⟩
  · have := nth_stop z
    rw [List.length_map] at this
    rw [h2.sz]; exact this
  · obtain ⟨y, hy, rfl⟩ := nth_item z
    rw [List.getElem?_map] at hy
    obtain ⟨p, hp, rfl⟩ := Option.map_eq_some_iff.mp hy
    have hi : i < es.size := by rw [h2.sz]; exact (List.getElem?_eq_some_iff.mp hp).1
    refine ⟨⟨h2.fz, hi⟩, fun x H' hx => ?_⟩
    obtain ⟨rfl, hi', rx⟩ := hx
    obtain ⟨p', vk, vd, h3, _, _, h4, h5⟩ := h2.at_ i hi
    rw [hp] at h3; cases h3
    cases relV_uniq rx h4
    exact ⟨S, Step.refl _ _, h5⟩
theorem ok_ri {ρ0 : List Addr} {H0 : Hp} {st0 : Store} {kvs : List (D × D)} {d : Addr} {o : Obj} {u : HO} {es : Array DictEntry} (S0 : Rel m X ρ0 H0 st0) (h : DEnt m X ρ0 H0 kvs d o u es) : ItOk m X .val [.tup (kvs.map fun p => .tup [p.1, p.2])] ρ0 H0 (ItRi d o u es) := fun i ρ H st stp S => by
  have h2 := h.monoI S0 stp
  refine ⟨fun z => ⟨h2.fz, ?_⟩, fun x z => ?_⟩
  · have := nth_stop z
    rw [List.length_map] at this
    rw [h2.sz]; exact this
  · obtain ⟨y, hy, rfl⟩ := nth_item z
    rw [List.getElem?_map] at hy
    obtain ⟨p, hp, rfl⟩ := Option.map_eq_some_iff.mp hy
    have hi : i < es.size := by rw [h2.sz]; exact (List.getElem?_eq_some_iff.mp hp).1
    refine ⟨⟨h2.fz, hi⟩, fun x H' hx => ?_⟩
    obtain ⟨T, kx, vx, rfl, hT, rfl, hi', rk, rv⟩ := hx
    obtain ⟨p', vk, vd, h3, h4, h5, h6, h7⟩ := h2.at_ i hi
    rw [hp] at h3; cases h3
    cases relV_uniq rk h4
    cases relV_uniq rv h6
    obtain ⟨S', stp'⟩ := SRel.other (o := .tup [kx, vx]) S hT
    exact ⟨S', stp', .tup (SqT.of upd_same) (.cons (Rep.mono S stp' _ _ h5) (.cons (Rep.mono S stp' _ _ h7) .nil))⟩
/-- a dict is locked, or is already -/
theorem lock_any {pins : List (Addr × Obj)} {σ : L2.St} {s : Shared} {ρ : List Addr} {H : Hp} {st : Store} {n : Nat} {d : Addr} {lk : Bool} {kvs : List (D × D)} (k : Itk) (inv : Inv X pins σ H s) (S : Rel m X ρ H st) (ha : ρ[n]? = some d) (g : st.get n = some (.dct lk kvs)) :
    ∃ G o u es ep, Inv X pins σ G s ∧ Lk X ρ H (lockOf k [.ref n] st) G ∧ s.heap.get? d = some o ∧ o.ExactDict ∧ o.data = .dict es ep ∧ (d == sysModules) = false ∧ DEnt m X ρ G kvs d o u es ∧ Rel m X ρ G (lock (lockOf k [.ref n] st) st) ∧ Reps X.K ρ G [.ref n] [.ref d] := by
  have dr := S.dct_at ha g
  obtain ⟨es, ep, ⟨o, ho, hx, hod⟩, hsz, he⟩ := dct_raw inv dr
  cases lk with
  | true =>
    have e : lockOf k [.ref n] st = none := by unfold lockOf; simp only [g]
    obtain ⟨o', u, hz⟩ := dct_shut dr
    have : o' = o := by have := (inv.hok d _ hz).1; rw [ho] at this; exact (Option.some.inj this).symm
    subst this
    rw [e]
    exact ⟨H, o', u, es, ep, inv, rfl, ho, hx, hod, dr.2.1, ⟨hz, hsz, he⟩, S, .cons (.ref ha) .nil⟩
  | false =>
    have e : lockOf k [.ref n] st = some (n, kvs) := by unfold lockOf; simp only [g]
    obtain ⟨u, hu, mu, f⟩ := dct_open dr
    obtain ⟨od, inv2⟩ := inv.lock hu mu
    have : od = o := by have := (inv2.hok d _ upd_same).1; rw [ho] at this; exact (Option.some.inj this).symm
    subst this
    have lk : Lk X ρ H (lockOf k [.ref n] st) (upd H d (.frz od u)) := by rw [e]; exact ⟨d, od, u, ha, hu, mu, inv.nofrz hu mu, rfl⟩
    obtain ⟨S2, stp⟩ := lk_rel S lk
    exact ⟨_, od, u, es, ep, inv2, lk, ho, hx, hod, dr.2.1, ⟨upd_same, hsz, fun i hi => let ⟨p, vk, vd, h1, h2, h3, h4, h5⟩ := he i hi; ⟨p, vk, vd, h1, h2, Rep.mono S stp _ _ h3, h4, Rep.mono S stp _ _ h5⟩⟩, S2, .cons (.ref ha) .nil⟩
theorem lock_lst {k : Itk} {n : Nat} {st : Store} (h : ∀ lk kvs, st.get n ≠ some (.dct lk kvs)) : lockOf k [.ref n] st = none ∧ snap k [.ref n] st = (k, [.ref n]) := by
  unfold lockOf snap
  constructor
  · simp only
    split
    · rename_i kvs g; exact (h _ _ g).elim
    · rfl
  · cases hg : st.get n with
    | none => simp only [hg]
    | some ob => cases ob <;> first | (simp only [hg]; done) | exact (h _ _ hg).elim
/-- a list, a tuple, a text, a dict's keys -/
theorem it_val (he : PE X e (tEv m E X x)) : PI X tg e (iEv m E X .val (.cons false x .nil)) := by
  refine ⟨fun pins s σ H R I ⟨ρ, env, st, hen, S, hf⟩ => ?_⟩
  rw [ev1, bind_assoc] at hf
  refine thn (he.run pins s σ H _ I ⟨ρ, env, st, hen, S, hf.bind (Q1 := fun v H1 => ∃ ρ1 st1 d, Rel m X ρ1 H1 st1 ∧ Rep X.K ρ1 H1 d v ∧ itAt (snap .val [d] st1).1 (snap .val [d] st1).2 0 (lock (lockOf .val [d] st1) st1) ≠ .bad ∧ ∀ J G, Lk X ρ1 H1 (lockOf .val [d] st1) G → ItOk m X (snap .val [d] st1).1 (snap .val [d] st1).2 ρ1 G J → R J G) fun d st1 ρ1 H1 v s1 S1 r1 hf1 => ?_⟩) fun u s1 ⟨v, H1, I1, ru, ρ1, st1, d, S1, r1, hnb, hR⟩ => ?_
  · obtain ⟨ρ2, st2, ds, s2, S2, rs, hnb, hR⟩ := hf1.now S1 (.cons r1 .nil)
    obtain ⟨d2, rfl, rd⟩ := reps1 rs
    exact ⟨ρ2, st2, d2, S2, rd, hnb, hR⟩
  · cases r1 with
    | tup q rs =>
      rename_i a vs
      cases ru
      obtain ⟨its, rv, p, hz⟩ := I1.tuple q
      exact wpAny_pyIter_tuple (show s1.heap.IsTuple a its.toArray from p) (pi_one (tk := s1.toks) I1 _ (turn_tuple a _) ⟨_, Heap.get?_push_size _ rfl, rfl, rfl⟩ (hR _ _ rfl (ok_tup S1 q rs)))
    | str x =>
      obtain ⟨t, rfl⟩ := ru
      cases ha : (toS x).cps.all (· < 128)
      · exact wpAny_pyIter_wide ha (pi_one (tk := s1.toks) I1 _ (turn_str _ (toS x) t "str_iterator" (.inr rfl)) ⟨_, Heap.get?_push_size _ rfl, rfl, rfl⟩ (hR _ _ rfl ok_str))
      · exact wpAny_pyIter_ascii ha (pi_one (tk := s1.toks) I1 _ (turn_str _ (toS x) t "str_ascii_iterator" (.inl rfl)) ⟨_, Heap.get?_push_size _ rfl, rfl, rfl⟩ (hR _ _ rfl ok_str))
    | fn => exact absurd rfl hnb
    | err => exact absurd rfl hnb
    | ref ha =>
      rename_i n a
      cases ru
      have lists : ∀ vs, SqL X.K H1 a vs → (∀ lk kvs, st1.get n ≠ some (.dct lk kvs)) → wpAny (model X.prog X.w) X.A (pyIter (.ref a)) (PIE X pins σ tg R) X.xe s1 := fun vs hq hnd => by
        obtain ⟨e1, e2⟩ := lock_lst (k := .val) hnd
        rw [e1, e2] at hR
        obtain ⟨its, rv, p, hz⟩ := I1.list hq
        exact wpAny_pyIter_list p.isList (pi_one (tk := s1.toks) I1 _ (turn_list a _) ⟨_, Heap.get?_push_size _ rfl, rfl, rfl⟩ (hR _ _ rfl (ok_lst ha)))
      cases hg : st1.get n with
      | none => obtain ⟨ob, g', _⟩ := S1.ob n a ha; rw [hg] at g'; cases g'
      | some ob =>
        cases ob with
        | lst xs =>
          obtain ⟨vs, e, _⟩ := S1.lst_at ha hg
          exact lists vs (SqL.of e) fun _ _ z => by rw [hg] at z; cases z
        | flst xs =>
          obtain ⟨vs, e, _⟩ := S1.flst_at ha hg
          exact lists vs (.inl e) fun _ _ z => by rw [hg] at z; cases z
        | ins c fs =>
          obtain ⟨e1, e2⟩ := lock_lst (k := .val) (n := n) (st := st1) fun _ _ z => by rw [hg] at z; cases z
          rw [e1, e2] at hnb
          refine absurd ?_ hnb
          show itVal (.ref n) 0 st1 = .bad
          unfold itVal; simp only [hg]
        | tab c =>
          obtain ⟨e1, e2⟩ := lock_lst (k := .val) (n := n) (st := st1) fun _ _ z => by rw [hg] at z; cases z
          rw [e1, e2] at hnb
          refine absurd ?_ hnb
          show itVal (.ref n) 0 st1 = .bad
          unfold itVal; simp only [hg]
        | dct lk kvs =>
          obtain ⟨G, o, u, es, ep, inv2, lk2, ho, hx, hod, hs, de, S2, _⟩ := lock_any .val I1 S1 ha hg
          have e2 : snap .val [.ref n] st1 = (.val, [.tup (kvs.map (·.1))]) := by unfold snap; simp only [hg]
          rw [e2] at hR
          exact wpAny_pyIter_dict_raw hs ⟨o, ho, hx, hod⟩ (pi_one (tk := s1.toks) inv2 _ (turn_rk _ hx hod fun i hi => let ⟨_, vk, _, _, z, _⟩ := de.at_ i hi; ⟨vk, z⟩) ⟨_, Heap.get?_push_size _ rfl, rfl, rfl⟩ (hR _ _ lk2 (ok_rk S2 de)))
    | non => exact absurd rfl hnb
    | bl _ => exact absurd rfl hnb
    | int _ => exact absurd rfl hnb
/-- range(n) -/
theorem it_rng {p : Pos} (hg : Gl X "range") (hm : X.mg "range" = none) (ha : PA X [a] (tEvX m E X (.cons false x .nil))) (hs : starEach [a] X.env = [(false, eval a X.env)]) : PI X tg (.Call (.Name "range" p) [a] [] pos) (iEv m E X .rng (.cons false x .nil)) := by
  refine imI (pi_range1 hg hm ha hs) fun σ H R ⟨ρ, env, st, hen, S, hf⟩ => ?_
  refine ⟨ρ, env, st, hen, S, hf.bind fun ds st1 ρ1 H1 vs s1 S1 r1 hf1 => ?_⟩
  obtain ⟨ρ2, st2, ds2, s2, S2, rs, hnb, hR⟩ := hf1.now S1 r1
  rw [snap_same (.inl rfl)] at hnb hR
  cases rs with
  | nil => exact absurd rfl hnb
  | cons r0 rr =>
    cases rr with
    | nil =>
      cases r0 with
      | int n =>
        have hb : -4611686018427387904 ≤ n ∧ n < 4611686018427387904 := by
          by_cases h : -4611686018427387904 ≤ n ∧ n < 4611686018427387904
          · exact h
          · exact absurd (by unfold itAt; simp only; rw [if_neg h]) hnb
        refine ⟨n, rfl, by omega, by omega, hR _ _ rfl fun i ρ H st _ S => ?_⟩
        have e : itAt .rng [.int n] i st = if (i : Int) < n then .item (.int i) else .stop := by unfold itAt; simp only; rw [if_pos hb]
        rw [e]
        refine ⟨fun h => ?_, fun d h => ?_⟩
        · split at h
          · cases h
          · show n.toNat ≤ i
            omega
        · split at h
          · cases h
            refine ⟨by show i < n.toNat; omega, fun y H' hy => ?_⟩
            obtain ⟨rfl, rfl⟩ := hy
            have e2 : (0 : Int) + (i : Nat) = (i : Int) := by omega
            rw [e2]
            exact ⟨S, Step.refl _ _, .int _⟩
          · cases h
      | tup _ _ => exact absurd rfl hnb
      | _ => exact absurd rfl hnb
    | cons _ _ =>
      exfalso
      cases r0 <;> exact absurd rfl hnb
/-- zip of two tuples -/
theorem it_zip {p tpos : Pos} {elts : List Expr} {kk : Nat} {ys : Xs} (hg : Gl X "zip") (hm : X.mg "zip" = none) (ha : PA X [a, b] (tEvX m E X ys)) (hs : starEach [a, b] X.env = (false, eval a X.env) :: starEach [b] X.env) (hpl : (backTo pos (starEach [b] X.env)).any (·.1) = false) :
    PI X (.Tuple elts kk tpos) (.Call (.Name "zip" p) [a, b] [] pos) (iEv m E X .zip ys) := by
  refine imI (RZ.pi_zipA hg hm ha hs hpl) fun σ H R ⟨ρ, env, st, hen, S, hf⟩ => ?_
  refine ⟨ρ, env, st, hen, S, hf.bind fun ds st1 ρ1 H1 vs s1 S1 r1 hf1 => ?_⟩
  obtain ⟨ρ2, st2, ds2, s2, S2, rs, hnb, hR⟩ := hf1.now S1 r1
  rw [snap_same (.inr (.inr rfl))] at hnb hR
  have sh := itAt_zip hnb
  obtain ⟨xs, ys, rfl⟩ := sh
  cases rs with
  | cons r0 rr =>
    obtain ⟨v2, rfl, r2⟩ := reps_one rr
    cases r0 with
    | tup q1 rs1 =>
      cases r2 with
      | tup q2 rs2 =>
        rename_i a1 vs1 a2 vs2
        refine ⟨a1, a2, vs1, vs2, rfl, .inr ⟨q1, q2, hR _ _ rfl fun i ρ H st stp S => ?_⟩⟩
        have q1' := stp.tup S2 q1
        have q2' := stp.tup S2 q2
        have rs1' := Reps.monoI S2 stp _ _ rs1
        have rs2' := Reps.monoI S2 stp _ _ rs2
        show ((match xs[i]?, ys[i]? with | some x, some y => Nxt.item (.tup [x, y]) | _, _ => .stop) = .stop → _) ∧ (∀ d, (match xs[i]?, ys[i]? with | some x, some y => Nxt.item (.tup [x, y]) | _, _ => .stop) = .item d → _)
        refine ⟨fun h => ?_, fun d h => ?_⟩
        · refine ⟨_, _, q1', q2', ?_⟩
          split at h
          · cases h
          · rename_i hn
            rw [← rs1'.length, ← rs2'.length]
            by_cases h1 : xs.length ≤ i
            · exact .inl h1
            · right
              by_cases h2 : ys.length ≤ i
              · exact h2
              · exact (hn xs[i] ys[i] (List.getElem?_eq_getElem (by omega)) (List.getElem?_eq_getElem (by omega))).elim
        · split at h
          · rename_i x y hx hy
            cases h
            obtain ⟨v, hv, rv⟩ := rs1'.get hx
            obtain ⟨u, hu, ru⟩ := rs2'.get hy
            refine ⟨⟨_, _, v, u, q1', q2', hv, hu⟩, fun z H' hz => ?_⟩
            obtain ⟨T, v', u', rfl, hT, rfl, h1, h2⟩ := hz
            have e1 := h1 _ q1'
            rw [hv] at e1
            have e2 := h2 _ q2'
            rw [hu] at e2
            cases e1; cases e2
            obtain ⟨S', stp⟩ := SRel.other (o := .tup [v, u]) S hT
            exact ⟨S', stp, .tup (SqT.of upd_same) (.cons (Rep.mono S stp _ _ rv) (.cons (Rep.mono S stp _ _ ru) .nil))⟩
          · cases h
end
end VI
/-! VIl: targets, statements, loops, comprehensions. -/
namespace VI
open PySem PySem.Spec PyProof.Rows L2
variable [LL]
section
variable {m : Md} {E : XK} {X : Cx} {e a b c : Expr} {x y z : Ex} {pos : Pos} {tg : Expr} {ρ : List Addr} {H : Hp}
theorem ERel.set {env : Env} {σ : L2.St} {i : Nat} {d : D} {v : V} (h : ERel X ρ H env σ) (r : Rep X.K ρ H d v) : ERel X ρ H (env.set i (some d)) (σ.set i (some v)) := by
  refine ⟨by simp [h.len], fun j d' e => ?_⟩
  by_cases hj : i = j
  · subst hj
    by_cases hl : i < env.length
    · rw [List.getElem?_set_self hl] at e
      cases e
      exact ⟨v, List.getElem?_set_self (by rw [← h.len]; exact hl), r⟩
    · rw [List.getElem?_eq_none (by simp; omega)] at e
      cases e
  · rw [List.getElem?_set_ne hj] at e
    obtain ⟨v', h1, h2⟩ := h.at_ j d' e
    exact ⟨v', by rw [List.getElem?_set_ne hj]; exact h1, h2⟩
theorem ERel.wipe1 {env : Env} {σ : L2.St} {i : Nat} (h : ERel X ρ H env σ) : ERel X ρ H (env.set i none) (σ.set i none) := by
  refine ⟨by simp [h.len], fun j d' e => ?_⟩
  by_cases hj : i = j
  · subst hj
    by_cases hl : i < env.length
    · rw [List.getElem?_set_self hl] at e
      cases e
    · rw [List.getElem?_eq_none (by simp; omega)] at e
      cases e
  · rw [List.getElem?_set_ne hj] at e
    obtain ⟨v', h1, h2⟩ := h.at_ j d' e
    exact ⟨v', by rw [List.getElem?_set_ne hj]; exact h1, h2⟩
theorem ERel.wipe {env : Env} {σ : L2.St} (h : ERel X ρ H env σ) : ∀ vs : List Nat, ERel X ρ H (wipeE env vs) (wipe σ vs)
  | [] => h
  | v :: vs => (h.wipe vs).wipe1
/-- the names of a target, in order -/
def tgNames : Tg → List Nat
  | .nm i => [i]
  | .tp is => is
/-- a target as the loops have it -/
def TgOk (X : Cx) (tg : Expr) (t : Tg) : Prop := match t with
  | .nm i => ∃ x p, tg = .Name x p ∧ X.N[i]? = some x ∧ Loc X.env.scope x ∧ (X.fn x = true ∨ X.env.scope.names.lookup x = some .local)
  | .tp is => ∃ es k p, tg = .Tuple es k p ∧ Paired (fun e i => ∃ x p, e = .Name x p ∧ X.N[i]? = some x ∧ Loc X.env.scope x ∧ (X.fn x = true ∨ X.env.scope.names.lookup x = some .local)) es is
def gTgs : List Nat → TGs
  | [] => gNil
  | i :: is => gCons (gName i) (gTgs is)
def gTg (K : PySem.W.Frag) : Tg → TG
  | .nm i => gName i
  | .tp is => gTup K is.length (gTgs is)
theorem pgs_names (hN : X.N.Nodup) : ∀ {es : List Expr} {is : List Nat}, Paired (fun e i => ∃ x p, e = Expr.Name x p ∧ X.N[i]? = some x ∧ Loc X.env.scope x ∧ (X.fn x = true ∨ X.env.scope.names.lookup x = some .local)) es is → PGs X es (gTgs is) ∧ (assignEach es X.env).length = is.length ∧ (assignEach es X.env).findIdx? (·.1) = none
  | _, _, .nil => ⟨pgs_nil, rfl, rfl⟩
  | _, _, .cons h t => by
    obtain ⟨x, p, rfl, h1, h2, h3⟩ := h
    obtain ⟨q1, q2, q3⟩ := pgs_names hN t
    refine ⟨pgs_cons (pg_name hN h1 h2 h3) q1 rfl, ?_, ?_⟩
    · show (assignEach _ X.env).length + 1 = _
      rw [q2]; rfl
    · show List.findIdx? (·.1) ((false, _) :: assignEach _ X.env) = none
      rw [List.findIdx?_cons]
      simp only [Bool.false_eq_true, if_false, q3, Option.map_none]
theorem pg_tg {t : Tg} (hN : X.N.Nodup) (hc : X.calm = true) (h : TgOk X tg t) : PG X tg (gTg X.K t) := by
  cases t with
  | nm i =>
    obtain ⟨x, p, rfl, h1, h2, h3⟩ := h
    exact pg_name hN h1 h2 h3
  | tp is =>
    obtain ⟨es, k, p, rfl, h⟩ := h
    obtain ⟨q1, q2, q3⟩ := pgs_names hN h
    exact pg_tup hc q1 q2 q3
theorem wipe_set1 (σ : L2.St) (i : Nat) (x : Option V) : ∀ vs : List Nat, (L2.wipe (σ.set i x) vs).set i none = (L2.wipe σ vs).set i none
  | [] => by simp [L2.wipe]
  | v :: vs => by
    unfold L2.wipe
    by_cases h : v = i
    · subst h
      rw [List.set_set, List.set_set]
      exact wipe_set1 σ v x vs
    · rw [List.set_comm _ _ h, wipe_set1 σ i x vs, List.set_comm _ _ (Ne.symm h)]
theorem wipe_set (σ : L2.St) {i : Nat} {x : Option V} : ∀ {vs : List Nat}, i ∈ vs → L2.wipe (σ.set i x) vs = L2.wipe σ vs
  | v :: vs, h => by
    unfold L2.wipe
    by_cases hv : i = v
    · subst hv
      exact wipe_set1 σ i x vs
    · rcases List.mem_cons.mp h with e | e
      · exact absurd e hv
      · rw [wipe_set σ e]
theorem gTgs_ok {Q : L2.St → Hp → Prop} : ∀ {is : List Nat} {xs : List D} {vs : List V} {env : Env} {σ : L2.St}, ERel X ρ H env σ → Reps X.K ρ H xs vs → xs.length = is.length → (∀ σ', ERel X ρ H ((is.zip xs).foldl (fun e p => e.set p.1 (some p.2)) env) σ' → (∀ (vs : List Nat), (∀ i ∈ is, i ∈ vs) → L2.wipe σ' vs = L2.wipe σ vs) → Q σ' H) → gTgs is vs σ H Q
  | [], [], _, env, σ, he, .nil, _, k => ⟨rfl, k σ he fun _ _ => rfl⟩
  | i :: is, x :: xs, _, env, σ, he, .cons r rs, hl, k => by
    refine ⟨_, _, rfl, gTgs_ok (he.set r) rs (by simpa using hl) fun σ' he' hw => k σ' he' fun vs hv => ?_⟩
    rw [hw vs fun j hj => hv j (List.mem_cons_of_mem _ hj)]
    exact wipe_set σ (hv i List.mem_cons_self)
  | [], _ :: _, _, _, _, _, _, hl, _ => by simp at hl
  | _ :: _, [], _, _, _, _, _, hl, _ => by simp at hl
theorem gTg_ok {t : Tg} {d : D} {v : V} {env env' : Env} {σ : L2.St} {Q : L2.St → Hp → Prop} (he : ERel X ρ H env σ) (r : Rep X.K ρ H d v) (h : setTg t d env = some env') (k : ∀ σ', ERel X ρ H env' σ' → (∀ (vs : List Nat), (∀ i ∈ tgNames t, i ∈ vs) → L2.wipe σ' vs = L2.wipe σ vs) → Q σ' H) : gTg X.K t v σ H Q := by
  cases t with
  | nm i =>
    simp only [setTg, Option.some.injEq] at h
    subst h
    exact k _ (he.set r) fun vs hv => wipe_set σ (hv i (List.mem_singleton.mpr rfl))
  | tp is =>
    unfold setTg at h
    simp only at h
    cases r with
    | tup q rs =>
      simp only at h
      split at h
      · rename_i hl
        cases h
        exact ⟨_, _, rfl, q, by rw [← rs.length]; exact hl, gTgs_ok he rs hl k⟩
      · cases h
    | _ => simp at h

/-! ### statements -/
/-- what a statement is to reach -/
def rFl (X : Cx) (ρ : List Addr) (H : Hp) (f : Fl) (g : L2.St ⊕ V) : Prop := match f, g with
  | .nx env, .inl σ => ERel X ρ H env σ
  | .rt d, .inr v => Rep X.K ρ H d v
  | _, _ => False
def endsQ (D : Ends) : L2.St ⊕ V → Hp → Prop
  | .inl σ, H => D.nx σ H
  | .inr v, H => D.rt v H
def tS (m : Md) (E : XK) (X : Cx) (f : Env → Store → R Fl) : TS := fun D σ H => ∃ ρ env st, ERel X ρ H env σ ∧ Rel m X ρ H st ∧ Fin m E X ρ H (f env st) (rFl X) (endsQ D)
abbrev tSt (m : Md) (E : XK) (X : Cx) (s : St) : TS := tS m E X (exS m.T m.F m.call s)
abbrev tSs (m : Md) (E : XK) (X : Cx) (s : Ss) : TS := tS m E X (exSs m.T m.F m.call s)
theorem Fin.nx {D : Ends} {env : Env} {st : Store} {σ : L2.St} (h : Fin m E X ρ H (.ok (.nx env) st) (rFl X) (endsQ D)) (S : Rel m X ρ H st) (r : ERel X ρ H env σ) : D.nx σ H := h ρ H (Sum.inl σ) (Step.refl _ _) S r
theorem Fin.rt {D : Ends} {d : VI.D} {st : Store} {v : V} (h : Fin m E X ρ H (.ok (.rt d) st) (rFl X) (endsQ D)) (S : Rel m X ρ H st) (r : Rep X.K ρ H d v) : D.rt v H := h ρ H (Sum.inr v) (Step.refl _ _) S r
theorem imS {st : Stmt} {t t' : TS} (h : PS X st t) (k : ∀ D σ H, t' D σ H → t D σ H) : PS X st t' := ⟨fun pins s σ H D I q => h.run pins s σ H D I (k D σ H q)⟩
theorem imSs {st : List Stmt} {t t' : TS} (h : PSs X st t) (k : ∀ D σ H, t' D σ H → t D σ H) : PSs X st t' := ⟨fun pins s σ H D I q => h.run pins s σ H D I (k D σ H q)⟩
theorem ss_nil : PSs X [] (tSs m E X .nil) := imSs pss_nil fun D σ H ⟨ρ, env, st, he, S, hf⟩ => hf.nx S he
theorem ss_cons {st : Stmt} {rest : List Stmt} {t : St} {u : Ss} (h1 : PS X st (tSt m E X t)) (h2 : PSs X rest (tSs m E X u)) : PSs X (st :: rest) (tSs m E X (.cons t u)) :=
  imSs (pss_cons h1 h2) fun D σ H ⟨ρ, env, st, he, S, hf⟩ => by
    simp only [exSs] at hf
    refine ⟨ρ, env, st, he, S, hf.bind fun f st1 ρ1 H1 g s1 S1 r1 hf1 => ?_⟩
    cases f with
    | nx env1 =>
      cases g with
      | inl σ1 => exact ⟨ρ1, env1, st1, r1, S1, hf1⟩
      | inr v => exact r1.elim
    | rt d =>
      cases g with
      | inl σ1 => exact r1.elim
      | inr v => exact hf1.rt S1 r1
theorem ss_expr (he : PE X e (tEv m E X x)) (hs : swapsWith e none pos.line X.env = pure false) : PS X (.Expr e pos) (tSt m E X (.ex x)) :=
  imS (ps_expr he hs) fun D σ H ⟨ρ, env, st, hen, S, hf⟩ => by
    simp only [exS] at hf
    refine ⟨ρ, env, st, hen, S, hf.bind fun d st1 ρ1 H1 v s1 S1 r1 hf1 => ?_⟩
    exact hf1.nx S1 (hen.mono S s1)
theorem ss_ret (he : PE X e (tEv m E X x)) : PS X (.Return (some e) pos) (tSt m E X (.ret x)) :=
  imS (ps_ret he) fun D σ H ⟨ρ, env, st, hen, S, hf⟩ => by
    simp only [exS] at hf
    refine ⟨ρ, env, st, hen, S, hf.bind fun d st1 ρ1 H1 v s1 S1 r1 hf1 => ?_⟩
    exact hf1.rt S1 r1
theorem ss_bad {st : Stmt} : PS X st (tSt m E X .bad) := imS ps_never fun D σ H ⟨ρ, env, st, hen, S, hf⟩ => hf
theorem bind_bool {α : Type} (r : R D) (f : Bool → Store → R α) : (r.bind fun x s => (boolOf x s).bind f) = (r.bind boolOf).bind f := by rw [bind_assoc]
theorem ss_if {p q : List Stmt} {t u : Ss} (hc : PT X c (tEvT m E X x)) (ha : PSs X p (tSs m E X t)) (hb : PSs X q (tSs m E X u)) : PS X (.If c p q pos) (tSt m E X (.ite x t u)) :=
  imS (ps_if hc ha hb) fun D σ H ⟨ρ, env, st, hen, S, hf⟩ => by
    simp only [exS] at hf
    rw [bind_bool] at hf
    refine ⟨ρ, env, st, hen, S, hf.bind fun k st1 ρ1 H1 k' s1 S1 r1 hf1 => ?_⟩
    cases r1
    cases k with
    | true => exact iteT ⟨ρ1, env, st1, hen.mono S s1, S1, hf1⟩
    | false => exact iteF ⟨ρ1, env, st1, hen.mono S s1, S1, hf1⟩
/-- an assignment -/
def tA (m : Md) (E : XK) (X : Cx) (t : As) : TG := fun v σ H Q => ∃ ρ env st d, ERel X ρ H env σ ∧ Rel m X ρ H st ∧ Rep X.K ρ H d v ∧ Fin m E X ρ H (asgI m.T m.F m.call t d env st) (ERel X) Q
theorem imG {t t' : TG} (h : PG X tg t) (k : ∀ v σ H Q, t' v σ H Q → t v σ H Q) : PG X tg t' := ⟨fun pins s σ H v u Q I r q => h.run pins s σ H v u Q I r (k v σ H Q q)⟩
theorem sg_name {i : Nat} {w : Str} (hN : X.N.Nodup) (hi : X.N[i]? = some w) (hx : Loc X.env.scope w) (hf : X.fn w = true ∨ X.env.scope.names.lookup w = some .local) : PG X (.Name w pos) (tA m E X (.nm i)) :=
  imG (pg_name hN hi hx hf) fun v σ H Q ⟨ρ, env, st, d, he, S, r, hf⟩ => by
    simp only [asgI] at hf
    exact hf.now S (he.set r)
theorem sg_sub (hu : X.A.units + 65 < cLine) (ho : PE X a (tEv m E X x)) (hi : PE X b (tEv m E X y)) (ha : ∀ v, assign (.Subscript a b pos) X.env v = (do
      let ov ← holding [v] (eval a X.env)
      let iv ← holding [v, ov] (eval b X.env)
      standAt pos
      holding [v, ov, iv] (setItem ov iv v)
      release [v, ov, iv] [])) : PG X (.Subscript a b pos) (tA m E X (.sub x y)) :=
  imG (pg_sub ho hi (set_any (m := m) (E := E) hu) ha) fun v σ H Q ⟨ρ, env, st, d, he, S, r, hf⟩ => by
    simp only [asgI] at hf
    refine ⟨ρ, env, st, he, S, hf.bind fun d1 st1 ρ1 H1 v1 s1 S1 r1 hf1 => ?_⟩
    refine ⟨ρ1, env, st1, he.mono S s1, S1, hf1.bind fun d2 st2 ρ2 H2 v2 s2 S2 r2 hf2 => ?_⟩
    refine ⟨ρ2, st2, d1, d2, d, S2, Rep.mono S1 s2 _ _ r1, r2, Rep.mono S (s1.trans s2) _ _ r, hf2.bind fun _ st3 ρ3 H3 _ s3 S3 _ hf3 => ?_⟩
    exact hf3.now S3 (((he.mono S s1).mono S1 s2).mono S2 s3)
theorem ss_asg {t : As} (he : PE X e (tEv m E X x)) (hg : PG X tg (tA m E X t)) (hs : swapsWithSole [tg] e pos.line X.env = pure false) (hw : swappedStores [tg] e X.env = pure none)
    (h1 : (assignEach [tg] X.env).map (·.2) = [assign tg X.env]) : PS X (.Assign [tg] e pos) (tSt m E X (.asg t x)) :=
  imS (ps_asg he hg hs hw h1) fun D σ H ⟨ρ, env, st, hen, S, hf⟩ => by
    simp only [exS] at hf
    refine ⟨ρ, env, st, hen, S, hf.bind fun d st1 ρ1 H1 v s1 S1 r1 hf1 => ?_⟩
    refine ⟨ρ1, env, st1, d, hen.mono S s1, S1, r1, hf1.bind fun env2 st2 ρ2 H2 σ2 s2 S2 r2 hf2 => ?_⟩
    exact hf2.nx S2 r2
theorem ss_set {i : Nat} {w : Str} {pos' : Pos} (hN : X.N.Nodup) (hi : X.N[i]? = some w) (hx : Loc X.env.scope w) (he : PE X e (tEv m E X x)) (hs : swapsWith e (some (.Name w pos')) pos.line X.env = pure false) (hf : X.fn w = true ∨ X.env.scope.names.lookup w = some .local) :
    PS X (.Assign [.Name w pos'] e pos) (tSt m E X (.asg (.nm i) x)) :=
  imS (ps_set hN hi hx he hs hf) fun D σ H ⟨ρ, env, st, hen, S, hf⟩ => by
    simp only [exS, asgI] at hf
    refine ⟨ρ, env, st, hen, S, hf.bind fun d st1 ρ1 H1 v s1 S1 r1 hf1 => ?_⟩
    exact Fin.nx hf1 S1 ((hen.mono S s1).set r1)
end
end VI
/-! VIm: loops, comprehensions, several targets. -/
namespace VI
open PySem PySem.Spec PyProof.Rows L2
variable [LL]
theorem set_dct {s : Store} {n : Nat} {o ob : Ob} (h : s.get n = some o) : (s.set n ob).get n = some ob := Store.get_set_self (Store.get_lt h)
theorem unl_none {α : Type} (r : R α) : R.unl none r = r := by cases r <;> rfl
section
variable {m : Md} {E : XK} {X : Cx} {e a b c : Expr} {x y z : Ex} {pos : Pos} {tg : Expr} {ρ : List Addr} {H : Hp}
theorem ss_while {body : List Stmt} {t : Ss} (hp : PassesOwn (model X.prog X.w) X.A X.env X.xe) (hc : PT X c (tEvT m E X x)) (hb : PSs X body (tSs m E X t)) : PS X (.While c body [] pos) (tSt m E X (.whl x t)) :=
  imS (ps_while hp hc hb) fun D σ H ⟨ρ, env, st, he, S, hf⟩ => by
    refine ⟨fun n σ H => ∃ ρ env st, ERel X ρ H env σ ∧ Rel m X ρ H st ∧ Fin m E X ρ H (loop (fun env s => (evE m.T m.F m.call x env s).bind fun x s => boolOf x s) (fun env s => exSs m.T m.F m.call t env s) n env st) (rFl X) (endsQ D), ⟨m.F, ρ, env, st, he, S, hf⟩, ?_⟩
    rintro n σ H ⟨ρ, env, st, he, S, hf⟩
    cases n with
    | zero => exact hf.elim
    | succ n =>
      unfold loop at hf
      refine ⟨ρ, env, st, he, S, hf.bind fun k st1 ρ1 H1 k' s1 S1 r1 hf1 => ?_⟩
      cases r1
      cases k with
      | false =>
        rw [if_neg Bool.false_ne_true]
        exact Fin.nx hf1 S1 (he.mono S s1)
      | true =>
        rw [if_pos rfl]
        refine ⟨fun σ H => ∃ ρ env st, ERel X ρ H env σ ∧ Rel m X ρ H st ∧ Fin m E X ρ H (loop (fun env s => (evE m.T m.F m.call x env s).bind fun x s => boolOf x s) (fun env s => exSs m.T m.F m.call t env s) n env st) (rFl X) (endsQ D), fun σ' H' h => ⟨n, Nat.lt_succ_self _, h⟩, ?_⟩
        refine ⟨ρ1, env, st1, he.mono S s1, S1, Fin.bind hf1 fun f st2 ρ2 H2 g s2 S2 r2 hf2 => ?_⟩
        cases f with
        | nx env2 =>
          cases g with
          | inl σ2 => exact ⟨ρ2, env2, st2, r2, S2, hf2⟩
          | inr v => exact r2.elim
        | rt d =>
          cases g with
          | inl σ2 => exact r2.elim
          | inr v => exact Fin.rt (D := D) hf2 S2 r2
/-- one turn's body -/
def turnB (T : Tbl) (F : Nat) (call : Caller) (t : Tg) (b : Ss) : D → Env → Store → R Fl := fun d env s => match setTg t d env with
  | some e => exSs T F call b e s
  | none => .stuck
theorem rfl_mv {ρ : List Addr} {H H' : Hp} {f : Fl} {g : L2.St ⊕ V} (h : ∀ (x : D) (v : V), Rep X.K ρ H x v → Rep X.K ρ H' x v) (r : rFl X ρ H f g) : rFl X ρ H' f g := by
  cases f with
  | nx env =>
    cases g with
    | inl σ => exact ⟨r.len, fun i d e => let ⟨v, h1, h2⟩ := r.at_ i d e; ⟨v, h1, h d v h2⟩⟩
    | inr v => exact r.elim
  | rt d =>
    cases g with
    | inl σ => exact r.elim
    | inr v => exact h d v r
theorem ss_for {iter : Expr} {body : List Stmt} {t : Tg} {k : Itk} {es : Xs} {u : Ss} (hp : PassesOwn (model X.prog X.w) X.A X.env X.xe) (hN : X.N.Nodup) (hc : X.calm = true) (hi : PI X tg iter (iEv m E X k es)) (hg : TgOk X tg t) (hb : PSs X body (tSs m E X u))
    (hs : ∀ x, foldedSetIterable iter X.env x = pure x) : PS X (.For tg iter body [] pos) (tSt m E X (.for t k es u)) :=
  imS (ps_unl (ps_for hp hc hi (pg_tg hN hc hg) hb hs)) fun D σ H ⟨ρ, env, st, he, S, hf⟩ => by
    simp only [exS] at hf
    have hf' : Fin m E X ρ H (((evX m.T m.F m.call es env st).bind fun ds s => .ok (ds, s) s).bind fun p s => R.unl (lockOf k p.1 s) (turns (snap k p.1 s).1 (snap k p.1 s).2 (turnB m.T m.F m.call t u) m.F 0 env (lock (lockOf k p.1 s) s))) (rFl X) (endsQ D) := by
      rw [bind_assoc]; exact hf
    refine ⟨ρ, env, st, he, S, hf'.bind fun p st1 ρ1 H1 vs s1 S1 r1 hf1 => ?_⟩
    have hnb : itAt (snap k p.1 st1).1 (snap k p.1 st1).2 0 (lock (lockOf k p.1 st1) st1) ≠ .bad := fun z => by
      cases hF : m.F with
      | zero => rw [hF] at hf1; cases lockOf k p.1 st1 <;> exact hf1.elim
      | succ n =>
        rw [hF] at hf1
        unfold turns at hf1
        rw [z] at hf1
        exact hf1.elim
    refine ⟨ρ1, st1, p.1, s1, S1, r1, hnb, fun J G hL hJ => ?_⟩
    obtain ⟨S2, s2⟩ := lk_rel S1 hL
    have hf2 : Fin m E X ρ1 G (turns (snap k p.1 st1).1 (snap k p.1 st1).2 (turnB m.T m.F m.call t u) m.F 0 env (lock (lockOf k p.1 st1) st1)) (rFl X) (unlQ X (endsQ D)) := fin_unl S1 hL (fun ρ' H' H'' a b h r => rfl_mv h r) hf1
    have hQ : unlQ X (endsQ D) = endsQ (unlD X D) := by funext x H; cases x <;> rfl
    rw [hQ] at hf2
    generalize (snap k p.1 st1).1 = k2 at hJ hf2
    generalize (snap k p.1 st1).2 = ds2 at hJ hf2
    refine ⟨fun i n σ H => ∃ ρ env st, Step ρ1 G ρ H ∧ ERel X ρ H env σ ∧ Rel m X ρ H st ∧ Fin m E X ρ H (turns k2 ds2 (turnB m.T m.F m.call t u) n i env st) (rFl X) (endsQ (unlD X D)), ⟨m.F, ρ1, env, _, Step.refl _ _, (he.mono S s1).mono S1 s2, S2, hf2⟩, ?_⟩
    rintro i n σ H ⟨ρ, env, st, stp, he, S, hf⟩
    obtain ⟨j1, j2⟩ := hJ i ρ H st stp.toI S
    cases n with
    | zero => exact hf.elim
    | succ n =>
      unfold turns at hf
      cases hx : itAt k2 ds2 i st with
      | bad => rw [hx] at hf; exact hf.elim
      | stop => rw [hx] at hf; exact .inl ⟨j1 hx, Fin.nx hf S he⟩
      | item d =>
        rw [hx] at hf
        obtain ⟨g1, g2⟩ := j2 d hx
        refine .inr ⟨g1, fun σ' H' => ∃ ρ env st, Step ρ1 G ρ H' ∧ ERel X ρ H' env σ' ∧ Rel m X ρ H' st ∧ Fin m E X ρ H' (turns k2 ds2 (turnB m.T m.F m.call t u) n (i + 1) env st) (rFl X) (endsQ (unlD X D)), fun σ' H' h => ⟨n, Nat.lt_succ_self _, h⟩, fun v H' hy => ?_⟩
        obtain ⟨S2, s2, r2⟩ := g2 v H' hy
        have hf := Fin.step hf s2
        cases ht : setTg t d env with
        | none =>
          simp only [turnB, ht] at hf
          exact hf.elim
        | some e =>
          simp only [turnB, ht] at hf
          refine gTg_ok (he.mono S s2) r2 ht fun σ' he' _ => ⟨ρ, e, st, he', S2, Fin.bind hf fun f st3 ρ3 H3 g s3 S3 r3 hf3 => ?_⟩
          cases f with
          | nx env3 =>
            cases g with
            | inl σ3 => exact ⟨ρ3, env3, st3, (stp.trans s2).trans s3, r3, S3, hf3⟩
            | inr v => exact r3.elim
          | rt d =>
            cases g with
            | inl σ3 => exact r3.elim
            | inr v => exact Fin.rt (D := unlD X D) hf3 S3 r3

/-! comprehensions -/
theorem sqt_upd {K : PySem.W.Frag} {H : Hp} {p : Addr} {av : List V} {o : HO} (h : H p = some (.lst av)) : ∀ a xs, SqT K H a xs → SqT K (upd H p o) a xs := fun a xs q => by
  rcases q with q | q
  · have hn : a ≠ p := fun z => by
      subst z
      rcases q with q | ⟨u, q⟩ <;> (rw [h] at q; cases q)
    rcases q with q | ⟨u, q⟩
    · exact .inl (.inl (by rw [upd_ne hn]; exact q))
    · exact .inl (.inr ⟨u, by rw [upd_ne hn]; exact q⟩)
  · exact .inr q
/-- a list that stands beside the store is changed -/
theorem SRel.beside {nm : Nm} {P : Program} {w : World} {K : PySem.W.Frag} {st : Store} (S : SRel nm P w K ρ H st) {p : Addr} {av : List V} {o : HO} (h : H p = some (.lst av)) (hp : p ∉ ρ) : SRel nm P w K ρ (upd H p o) st :=
  ⟨S.nd, S.sz, fun n a ha => by
    obtain ⟨ob, g, r⟩ := S.ob n a ha
    exact ⟨ob, g, ORep.mv (fun _ _ z => z) (sqt_upd h) (fun c q hc hn => ⟨(upd_ne fun z => by rw [z, h] at hc; cases hc).trans hc, hn⟩) (upd_ne fun z => hp (z ▸ List.mem_of_getElem? ha)) r⟩, S.ct.imp fun d v => Rep.mv (fun _ _ z => z) (sqt_upd h) (fun c q hc hn => ⟨(upd_ne fun z => by rw [z, h] at hc; cases hc).trans hc, hn⟩) d v⟩
theorem ext_app {ρ : List Addr} {p : Addr} : ∀ (n : Nat) (a : Addr), ρ[n]? = some a → (ρ ++ [p])[n]? = some a := fun n a h => by
  rw [List.getElem?_append_left (List.getElem?_eq_some_iff.mp h).1]; exact h
/-- .. it becomes one of the store -/
theorem SRel.adopt {nm : Nm} {P : Program} {w : World} {K : PySem.W.Frag} {st : Store} (S : SRel nm P w K ρ H st) {p : Addr} {acc : List D} {av : List V} (h : H p = some (.lst av)) (hp : p ∉ ρ) (r : Reps K ρ H acc av) : SRel nm P w K (ρ ++ [p]) H (st.add (.lst acc)) := by
  refine ⟨?_, ?_, fun n a ha => ?_, S.ct.imp fun d v => Rep.mv ext_app (fun _ _ z => z) (fun c q hc hn => ⟨hc, fun z => by
      rcases List.mem_append.mp z with z | z
      · exact hn z
      · rw [List.mem_singleton.mp z, h] at hc; cases hc⟩) d v⟩
  · rw [List.nodup_append]
    refine ⟨S.nd, by simp, fun a ha b hb => ?_⟩
    simp at hb
    subst hb
    exact fun e => hp (e ▸ ha)
  · rw [Store.add_sz, S.sz]; simp
  · rcases get_app ha with ⟨hl, ha⟩ | ⟨rfl, rfl⟩
    · obtain ⟨ob, g, q⟩ := S.ob n a ha
      exact ⟨ob, by rw [Store.get_add_ne (by rw [S.sz]; omega)]; exact g, ORep.mv ext_app (fun _ _ z => z) (fun c q hc hn => ⟨hc, fun z => by
        rcases List.mem_append.mp z with z | z
        · exact hn z
        · rw [List.mem_singleton.mp z, h] at hc; cases hc⟩) rfl q⟩
    · exact ⟨.lst acc, by rw [← S.sz]; exact Store.get_add_self, av, h, Reps.mv ext_app (fun _ _ z => z) (fun c φ hc hn => ⟨hc, fun z => by
        rcases List.mem_append.mp z with z | z
        · exact hn z
        · rw [List.mem_singleton.mp z, h] at hc; cases hc⟩) _ _ r⟩
theorem bind_ok {α β : Type} {r : R α} {f : α → Store → R β} {b : β} {s' : Store} (h : r.bind f = .ok b s') : ∃ a s, r = .ok a s ∧ f a s = .ok b s' := by
  cases r with
  | ok a s => exact ⟨a, s, rfl, h⟩
  | exc c x s => cases h
  | stuck => cases h
theorem wipe_none (σ : L2.St) : ∀ (vs : List Nat) (i : Nat), i ∈ vs → ∀ x, (L2.wipe σ vs)[i]? = some x → x = none
  | v :: vs, i, h, x, e => by
    unfold L2.wipe at e
    by_cases hv : v = i
    · subst hv
      by_cases hl : v < (L2.wipe σ vs).length
      · rw [List.getElem?_set_self hl] at e; cases e; rfl
      · rw [List.getElem?_eq_none (by simpa using hl)] at e; cases e
    · rw [List.getElem?_set_ne hv] at e
      rcases List.mem_cons.mp h with z | z
      · exact absurd z.symm hv
      · exact wipe_none σ vs i z x e
theorem wipe_id (τ : L2.St) : ∀ (vs : List Nat), (∀ i ∈ vs, ∀ x, τ[i]? = some x → x = none) → L2.wipe τ vs = τ
  | [], _ => rfl
  | v :: vs, h => by
    unfold L2.wipe
    rw [wipe_id τ vs fun i hi => h i (List.mem_cons_of_mem _ hi)]
    apply List.ext_getElem?
    intro j
    by_cases hj : v = j
    · subst hj
      by_cases hl : v < τ.length
      · rw [List.getElem?_set_self hl]
        have := h v List.mem_cons_self _ (List.getElem?_eq_getElem hl)
        rw [List.getElem?_eq_getElem hl, this]
      · rw [List.getElem?_eq_none (by simpa using hl), List.getElem?_eq_none (by simpa using hl)]
    · rw [List.getElem?_set_ne hj]
theorem wipe_twice (σ : L2.St) (vs : List Nat) : L2.wipe (L2.wipe σ vs) vs = L2.wipe σ vs := wipe_id _ vs (wipe_none σ vs)
def noE : XK := fun _ _ _ => False
theorem ERel.cx {X X' : Cx} {env : Env} {σ : L2.St} (h : X.K = X'.K) (r : ERel X ρ H env σ) : ERel X' ρ H env σ := ⟨r.len, fun i d e => by rw [← h]; exact r.at_ i d e⟩
/-- a turn of a comprehension -/
def lcB (T : Tbl) (F : Nat) (call : Caller) (own : List Nat) (t : Tg) (cond elt : Ex) (env : Env) : D → List D → Store → R (List D) := fun d acc s => match setTg t d (wipeE env own) with
  | some e => (evE T F call cond e s).bind fun x s => (boolOf x s).bind fun b s =>
      if b then (evE T F call elt e s).bind fun y s => if acc.length < line then .ok (acc ++ [y]) s else .stuck else .ok acc s
  | none => .stuck
theorem lc_im {own : List Nat} {t : Tg} {k : Itk} {es : Xs} {cx ex : Ex} {σ : L2.St} {Q : VK} (ho : ∀ i ∈ tgNames t, i ∈ own) (h : tEv m E X (.lc own t k es cx ex) σ H Q) :
    tLc (iEv m E X k es) (gTg X.K t) (tEvT m noE X cx) (tEv m noE X ex) own σ H (unlQ X Q) := by
  obtain ⟨ρ, env, st, he, S, hf⟩ := h
  simp only [evE] at hf
  have hf' : Fin m E X ρ H (((evX m.T m.F m.call es env st).bind fun ds s => .ok (ds, s) s).bind fun p s => R.unl (lockOf k p.1 s) ((walk (snap k p.1 s).1 (snap k p.1 s).2 (lcB m.T m.F m.call own t cx ex env) m.F 0 [] (lock (lockOf k p.1 s) s)).noexc.bind fun acc s => .ok (.ref s.sz) (s.add (.lst acc)))) (rD X) Q := by
    rw [bind_assoc]; exact hf
  refine ⟨ρ, env, st, he, S, hf'.bind fun p st1 ρ1 H1 vs s1 S1 r1 hf1 => ?_⟩
  have hwok : ∃ accF stF, walk (snap k p.1 st1).1 (snap k p.1 st1).2 (lcB m.T m.F m.call own t cx ex env) m.F 0 [] (lock (lockOf k p.1 st1) st1) = .ok accF stF := by
    cases hw : walk (snap k p.1 st1).1 (snap k p.1 st1).2 (lcB m.T m.F m.call own t cx ex env) m.F 0 [] (lock (lockOf k p.1 st1) st1) with
    | ok a s => exact ⟨a, s, rfl⟩
    | exc c x s => rw [hw] at hf1; exact hf1.elim
    | stuck => rw [hw] at hf1; exact hf1.elim
  obtain ⟨accF, stF, hw⟩ := hwok
  have hnb : itAt (snap k p.1 st1).1 (snap k p.1 st1).2 0 (lock (lockOf k p.1 st1) st1) ≠ .bad := fun z => by
    cases hF : m.F with
    | zero => rw [hF] at hw; cases hw
    | succ n =>
      rw [hF] at hw
      unfold walk at hw
      rw [z] at hw
      cases hw
  refine ⟨ρ1, st1, p.1, s1, S1, r1, hnb, fun J G hL hJ D hD => ?_⟩
  obtain ⟨S2, s2⟩ := lk_rel S1 hL
  rw [hw] at hf1
  have hf1 : Fin m E X ρ1 G (.ok (.ref stF.sz) (stF.add (.lst accF))) (rD X) (unlQ X Q) := fin_unl S1 hL (fun ρ' H' H'' a b h r => h a b r) hf1
  generalize lock (lockOf k p.1 st1) st1 = st2 at hw S2
  generalize (snap k p.1 st1).1 = k2 at hJ hw
  generalize (snap k p.1 st1).2 = ds2 at hJ hw
  have he1 := ((he.mono S s1).mono S1 s2).wipe own
  have hnD : D ∉ ρ1 := fun z => S2.live z hD
  refine ⟨fun i n H => ∃ ρ acc av st, Step ρ1 G ρ H ∧ D ∉ ρ ∧ H D = some (.lst av) ∧ Reps X.K ρ H acc av ∧ ERel X ρ H (wipeE env own) (L2.wipe σ own) ∧ Rel m X ρ H st ∧ walk k2 ds2 (lcB m.T m.F m.call own t cx ex env) n i acc st = .ok accF stF, ⟨m.F, ?_⟩, ?_⟩
  · obtain ⟨S3, s3⟩ := SRel.other (o := .lst []) S2 hD
    exact ⟨ρ1, [], [], st2, s3, hnD, upd_same, .nil, he1.mono S2 s3, S3, hw⟩
  · rintro i n H ⟨ρ, acc, av, st, stp, hnD, hD2, racc, he, S, hw⟩
    obtain ⟨j1, j2⟩ := hJ i ρ H st stp.toI S
    cases n with
    | zero => cases hw
    | succ n =>
      unfold walk at hw
      cases hx : itAt k2 ds2 i st with
      | bad => rw [hx] at hw; cases hw
      | stop =>
        rw [hx] at hw
        cases hw
        refine .inl ⟨j1 hx, hf1 (ρ ++ [D]) H (.ref D) ⟨fun n a h => ext_app n a (stp.ext n a h), fun a o h hn => ?_, stp.frz⟩ (S.adopt hD2 hnD racc) (.ref ?_)⟩
        · obtain ⟨k1, k2⟩ := stp.keep a o h hn
          refine ⟨k1, fun z => ?_⟩
          rcases List.mem_append.mp z with z | z
          · exact k2 z
          · have : a = D := by simpa using z
            subst this
            rw [hD] at h; cases h
        · rw [S.sz, List.getElem?_append_right (Nat.le_refl _)]
          simp
      | item d =>
        rw [hx] at hw
        obtain ⟨g1, g2⟩ := j2 d hx
        refine .inr ⟨g1, _, fun H' h => ⟨n, Nat.lt_succ_self _, h⟩, fun v H' hy => ?_⟩
        obtain ⟨S2, s2, r2⟩ := g2 v H' hy
        obtain ⟨acc', st', hb, hw⟩ := bind_ok hw
        cases ht : setTg t d (wipeE env own) with
        | none =>
          simp only [lcB, ht] at hb
          cases hb
        | some e =>
          simp only [lcB, ht] at hb
          rw [bind_bool] at hb
          obtain ⟨bb, st3, hb1, hb2⟩ := bind_ok hb
          refine gTg_ok (he.mono S s2) r2 ht fun σ' he' hwp => ⟨(hwp own ho).trans (wipe_twice σ own), ρ, e, st, he', S2, ?_⟩
          rw [hb1]
          intro ρ3 H3 b' s3 S3 r3
          cases r3
          cases bb with
          | false =>
            rw [if_neg Bool.false_ne_true] at hb2 ⊢
            cases hb2
            obtain ⟨k1, k2⟩ := (s2.trans s3).keep D _ hD2 hnD
            exact ⟨ρ3, acc, av, _, (stp.trans s2).trans s3, k2, k1, Reps.mono S (s2.trans s3) _ _ racc, he.mono S (s2.trans s3), S3, hw⟩
          | true =>
            rw [if_pos rfl] at hb2 ⊢
            obtain ⟨y, st4, hb3, hb4⟩ := bind_ok hb2
            refine ⟨ρ3, e, st3, he'.mono S2 s3, S3, ?_⟩
            rw [hb3]
            intro ρ4 H4 v4 s4 S4 r4
            split at hb4
            · rename_i hlen
              cases hb4
              have s24 := s2.trans (s3.trans s4)
              obtain ⟨k1, k2⟩ := s24.keep D _ hD2 hnD
              have mv := sqt_upd (K := X.K) (o := .lst (av ++ [v4])) k1
              have mvx := xk_upd (ρ := ρ4) (o := .lst (av ++ [v4])) k1
              refine ⟨av, k1, by rw [← racc.length, ← line_eq]; exact hlen, ρ4, acc ++ [y], av ++ [v4], _, ⟨fun n a h => (stp.trans s24).ext n a h, fun a o h hn => ?_, fun a o u h => ?_⟩, k2, upd_same, ?_, ?_, S4.beside k1 k2, hw⟩
              · obtain ⟨q1, q2⟩ := (stp.trans s24).keep a o h hn
                refine ⟨?_, q2⟩
                rw [upd_ne]
                · exact q1
                · intro z; subst z; rw [hD] at h; cases h
              · rw [upd_ne]
                · exact (stp.trans s24).frz a o u h
                · intro z; subst z; rw [hD] at h; cases h
              · exact Reps.mv (fun _ _ z => z) mv mvx _ _ ((Reps.mono S s24 _ _ racc).append (.cons r4 .nil))
              · have he4 := he.mono S s24
                exact ⟨he4.len, fun i d h => let ⟨v, h1, h2⟩ := he4.at_ i d h; ⟨v, h1, Rep.mv (fun _ _ z => z) mv mvx _ _ h2⟩⟩
            · cases hb4
/-- the tests of a comprehension -/
def LcT (X : Cx) (m : Md) (ifs : List Expr) (cx : Ex) : Prop := (ifs = [] ∧ cx = .c (.bl true)) ∨ ∃ c, ifs = [c] ∧ PT X c (tEvT m noE X cx)
theorem lct_ok {ifs : List Expr} {cx : Ex} (h : LcT X m ifs cx) : PTs X ifs (tEvT m noE X cx) := by
  rcases h with ⟨rfl, rfl⟩ | ⟨c, rfl, h⟩
  · exact ⟨fun pins s σ H Q I ⟨ρ, env, st, he, S, hf⟩ => pts_nil.run pins s σ H Q I (Fin.now (a := true) (b := true) hf S rfl)⟩
  · exact pts_one h
theorem se_lc {elt iter : Expr} {ifs : List Expr} {scope : Scope} {own : List (Str × Nat)} {t : Tg} {k : Itk} {es : Xs} {cx ex : Ex} (ho : ∀ i ∈ tgNames t, i ∈ own.map (·.2)) (hc : X.calm = true) (hN : X.N.Nodup) (hi : PI X tg iter (iEv m E X k es)) (ok : BlkOk X.N X.env.scope scope own)
    (hb : ∀ (s : Shared) (H : Hp) (C : Addr) (cl : List (Str × Addr)) (fp : List Addr), TgOk (X.blk s H scope (compEnvC scope cl C X.env) fp) tg t ∧ LcT (X.blk s H scope (compEnvC scope cl C X.env) fp) m ifs cx ∧ PE (X.blk s H scope (compEnvC scope cl C X.env) fp) elt (tEv m noE (X.blk s H scope (compEnvC scope cl C X.env) fp) ex))
    (hs : ∀ x, foldedSetIterable iter X.env x = pure x) : PE X (.ListComp elt [⟨tg, iter, ifs, 0⟩] scope pos) (tEv m E X (.lc (own.map (·.2)) t k es cx ex)) :=
  imE (pe_unl (pe_lc hc hN hi ok (fun s H C cl fp => pg_tg (X := X.blk s H scope (compEnvC scope cl C X.env) fp) hN hc (hb s H C cl fp).1)
    (fun s H C cl fp => ⟨fun pins s' σ H' Q I ⟨ρ, env, st, he, S, hf⟩ => (lct_ok (hb s H C cl fp).2.1).run pins s' σ H' Q I ⟨ρ, env, st, ⟨he.len, he.at_⟩, S, hf⟩⟩)
    (fun s H C cl fp => ⟨fun pins s' σ H' Q I ⟨ρ, env, st, he, S, hf⟩ => ((hb s H C cl fp).2.2).run pins s' σ H' Q I ⟨ρ, env, st, ⟨he.len, he.at_⟩, S, hf⟩⟩) hs)) fun σ H Q h => lc_im ho h
/-- name = [..] on one line -/
theorem ss_setLc {i : Nat} {w : Str} {py pos' : Pos} {elt iter : Expr} {ifs : List Expr} {scope : Scope} {own : List (Str × Nat)} {t : Tg} {k : Itk} {es : Xs} {cx ex : Ex} (ho : ∀ i ∈ tgNames t, i ∈ own.map (·.2)) (hc : X.calm = true) (hN : X.N.Nodup) (hy : X.N[i]? = some w) (hyl : X.env.scope.names.lookup w = some .local)
    (hsw : swapsWith (.ListComp elt [⟨tg, iter, ifs, 0⟩] scope pos') (some (.Name w py)) pos.line X.env = pure true) (hi : PI X tg iter (iEv m E X k es)) (ok : BlkOk X.N X.env.scope scope own)
    (hb : ∀ (s : Shared) (H : Hp) (C : Addr) (cl : List (Str × Addr)) (fp : List Addr), TgOk (X.blk s H scope (compEnvC scope cl C X.env) fp) tg t ∧ LcT (X.blk s H scope (compEnvC scope cl C X.env) fp) m ifs cx ∧ PE (X.blk s H scope (compEnvC scope cl C X.env) fp) elt (tEv m noE (X.blk s H scope (compEnvC scope cl C X.env) fp) ex))
    (hs : ∀ x, foldedSetIterable iter X.env x = pure x) : PS X (.Assign [.Name w py] (.ListComp elt [⟨tg, iter, ifs, 0⟩] scope pos') pos) (tSt m E X (.asg (.nm i) (.lc (own.map (·.2)) t k es cx ex))) :=
  imS (ps_unl (ps_setLc (tt := tEvT m noE X cx) (te := tEv m noE X ex) hc hN hy hyl hsw hi ok (fun s H C cl fp => pg_tg (X := X.blk s H scope (compEnvC scope cl C X.env) fp) hN hc (hb s H C cl fp).1)
    (fun s H C cl fp => ⟨fun pins s' σ H' Q I ⟨ρ, env, st, he, S, hf⟩ => (lct_ok (hb s H C cl fp).2.1).run pins s' σ H' Q I ⟨ρ, env, st, ⟨he.len, he.at_⟩, S, hf⟩⟩)
    (fun s H C cl fp => ⟨fun pins s' σ H' Q I ⟨ρ, env, st, he, S, hf⟩ => ((hb s H C cl fp).2.2).run pins s' σ H' Q I ⟨ρ, env, st, ⟨he.len, he.at_⟩, S, hf⟩⟩) hs)) fun D σ H ⟨ρ, env, st, hen, S, hf⟩ => by
    simp only [exS, asgI] at hf
    refine lc_im (Q := fun v H => D.nx (σ.set i (some v)) H) ho ⟨ρ, env, st, hen, S, hf.bind fun d st1 ρ1 H1 v s1 S1 r1 hf1 => ?_⟩
    exact Fin.nx hf1 S1 ((hen.mono S s1).set r1)

/-! several targets -/
theorem ss_par {i j : Nat} {u v : Str} {ys : Xs} {px py pt : Pos} {kt k2 pt2} (hc : X.calm = true) (hN : X.N.Nodup) (hi : X.N[i]? = some u) (hj : X.N[j]? = some v) (hij : i ≠ j)
    (hx : X.env.scope.names.lookup u = some .local) (hy : X.env.scope.names.lookup v = some .local) (ha : PA X [a, b] (tEvX m E X ys))
    (hw : swappedStores [.Tuple [.Name u px, .Name v py] kt pt] (.Tuple [a, b] k2 pt2) X.env = pure (some [u, v]))
    (hs : swapsWithSole [.Tuple [.Name u px, .Name v py] kt pt] (.Tuple [a, b] k2 pt2) pos.line X.env = pure false) :
    PS X (.Assign [.Tuple [.Name u px, .Name v py] kt pt] (.Tuple [a, b] k2 pt2) pos) (tSt m E X (.par [i, j] ys)) :=
  imS (ps_par hc hN hi hj hij hx hy ha hw hs) fun D σ H ⟨ρ, env, st, hen, S, hf⟩ => by
    simp only [exS] at hf
    refine ⟨ρ, env, st, hen, S, hf.bind fun ds st1 ρ1 H1 vs s1 S1 r1 hf1 => ?_⟩
    split at hf1
    · rename_i hl
      match ds, vs, r1, hl with
      | [d1, d2], _, .cons q1 (.cons q2 .nil), _ => exact ⟨_, _, rfl, Fin.nx hf1 S1 (((hen.mono S s1).set q1).set q2)⟩
    · exact hf1.elim
theorem ss_par3 {i j l : Nat} {u v w : Str} {ys : Xs} {px py pz pt : Pos} {kt k2 pt2} (hc : X.calm = true) (hN : X.N.Nodup) (hi : X.N[i]? = some u) (hj : X.N[j]? = some v) (hl : X.N[l]? = some w) (hij : i ≠ j) (hil : i ≠ l) (hjl : j ≠ l)
    (hx : X.env.scope.names.lookup u = some .local) (hy : X.env.scope.names.lookup v = some .local) (hz : X.env.scope.names.lookup w = some .local) (ha : PA X [a, b, c] (tEvX m E X ys))
    (hw : swappedStores [.Tuple [.Name u px, .Name v py, .Name w pz] kt pt] (.Tuple [a, b, c] k2 pt2) X.env = pure (some [u, v, w]))
    (hs : swapsWithSole [.Tuple [.Name u px, .Name v py, .Name w pz] kt pt] (.Tuple [a, b, c] k2 pt2) pos.line X.env = pure false) :
    PS X (.Assign [.Tuple [.Name u px, .Name v py, .Name w pz] kt pt] (.Tuple [a, b, c] k2 pt2) pos) (tSt m E X (.par [i, j, l] ys)) :=
  imS (ps_par3 hc hN hi hj hl hij hil hjl hx hy hz ha hw hs) fun D σ H ⟨ρ, env, st, hen, S, hf⟩ => by
    simp only [exS] at hf
    refine ⟨ρ, env, st, hen, S, hf.bind fun ds st1 ρ1 H1 vs s1 S1 r1 hf1 => ?_⟩
    split at hf1
    · rename_i hl
      match ds, vs, r1, hl with
      | [d1, d2, d3], _, .cons q1 (.cons q2 (.cons q3 .nil)), _ => exact ⟨_, _, _, rfl, Fin.nx hf1 S1 ((((hen.mono S s1).set q1).set q2).set q3)⟩
    · exact hf1.elim
/-- targets, one after another -/
def tAs (m : Md) (E : XK) (X : Cx) (ts : Ats) : TGs := fun vs σ H Q => ∃ ρ env st ds, ERel X ρ H env σ ∧ Rel m X ρ H st ∧ Reps X.K ρ H ds vs ∧ Fin m E X ρ H (asgs m.T m.F m.call ts ds env st) (ERel X) Q
theorem sgs_nil : PGs X [] (tAs m E X .nil) := ⟨fun pins s σ H vs us Q I r ⟨ρ, env, st, ds, he, S, rs, hf⟩ => pgs_nil.run pins s σ H vs us Q I r (by
  cases rs with
  | nil => simp only [asgs] at hf; exact ⟨rfl, hf.now S he⟩
  | cons _ _ => simp only [asgs] at hf; exact hf.elim)⟩
theorem sgs_cons {es : List Expr} {t : As} {ts : Ats} (h1 : PG X e (tA m E X t)) (h2 : PGs X es (tAs m E X ts)) (hs : (assignEach (e :: es) X.env).map (·.2) = assign e X.env :: (assignEach es X.env).map (·.2)) : PGs X (e :: es) (tAs m E X (.cons t ts)) :=
  ⟨fun pins s σ H vs us Q I r ⟨ρ, env, st, ds, he, S, rs, hf⟩ => (pgs_cons h1 h2 hs).run pins s σ H vs us Q I r (by
    cases rs with
    | nil => simp only [asgs] at hf; exact hf.elim
    | cons q rr =>
      simp only [asgs] at hf
      refine ⟨_, _, rfl, ρ, env, st, _, he, S, q, hf.bind fun env1 st1 ρ1 H1 σ1 s1 S1 r1 hf1 => ?_⟩
      exact ⟨ρ1, env1, st1, _, r1, S1, Reps.mono S s1 _ _ rr, hf1⟩)⟩
theorem sg_tup {es : List Expr} {k : Nat} {ts : Ats} (hc : X.calm = true) (h : PGs X es (tAs m E X ts)) (hn : (assignEach es X.env).length = ts.len) (hst : (assignEach es X.env).findIdx? (·.1) = none) : PG X (.Tuple es k pos) (tA m E X (.tp ts)) :=
  imG (pg_tup hc h hn hst) fun v σ H Q ⟨ρ, env, st, d, he, S, r, hf⟩ => by
    cases r with
    | tup q rs =>
      simp only [asgI] at hf
      split at hf
      · rename_i hl
        exact ⟨_, _, rfl, q, by rw [← rs.length]; exact hl, ρ, env, st, _, he, S, rs, hf⟩
      · exact hf.elim
    | _ => simp only [asgI] at hf; exact hf.elim
/-- name += an int -/
theorem ss_aug {i : Nat} {w : Str} {pos' : Pos} (hN : X.N.Nodup) (hi : X.N[i]? = some w) (hx : Loc X.env.scope w) (he : PE X e (tEv m E X x)) (hf : X.fn w = true ∨ X.env.scope.names.lookup w = some .local) :
    PS X (.AugAssign (.Name w pos') .Add e pos) (tSt m E X (.aug i x)) :=
  imS (ps_aug hN hi hx he ip_add hf) fun D σ H ⟨ρ, env, st, hen, S, hf⟩ => by
    simp only [exS] at hf
    split at hf
    · rename_i d hd
      obtain ⟨v, h1, h2⟩ := hen.at_ i d hd
      refine ⟨v, h1, ρ, env, st, hen, S, hf.bind fun d2 st1 ρ1 H1 v2 s1 S1 r1 hf1 => ?_⟩
      split at hf1
      · cases h2
        cases r1
        exact ⟨_, _, rfl, rfl, Fin.nx hf1 S1 ((hen.mono S s1).set (.int _))⟩
      · exact hf1.elim
    · exact hf.elim
/-- == and != where no class has an own __eq__ -/
theorem opr_eq (hu : X.A.units + 65 < cLine) (h : ∀ c : Nat, (m.T.cls[c]?).bind (·.eq) = none) : OpR X (compareOp .Eq) (R2D m E X (cmpC m.T m.call .eq)) := by
  intro pins s σ H x y v u Q I rx ry ⟨ρ, st, d, e, S, r1, r2, hf⟩
  cases hc : clsAt st d with
  | none =>
    rw [cmpC_plain (.inl hc)] at hf
    exact cmp_eq (m := m) (E := E) hu pins s σ H x y v u Q I rx ry ⟨ρ, st, d, e, S, r1, r2, hf⟩
  | some c =>
    unfold cmpC at hf
    rw [hc] at hf
    simp only [h c] at hf
    exact hf.elim
theorem opr_ne (hu : X.A.units + 65 < cLine) (h : ∀ c : Nat, (m.T.cls[c]?).bind (·.eq) = none) : OpR X (compareOp .NotEq) (R2D m E X (cmpC m.T m.call .ne)) := by
  intro pins s σ H x y v u Q I rx ry ⟨ρ, st, d, e, S, r1, r2, hf⟩
  cases hc : clsAt st d with
  | none =>
    rw [cmpC_plain (.inl hc)] at hf
    exact cmp_ne (m := m) (E := E) hu pins s σ H x y v u Q I rx ry ⟨ρ, st, d, e, S, r1, r2, hf⟩
  | some c =>
    unfold cmpC at hf
    rw [hc] at hf
    simp only [h c] at hf
    exact hf.elim
end
end VI
/-! VImb: comprehensions over two lists. -/
namespace VI
open PySem PySem.Spec PyProof.Rows L2
variable [LL]
theorem tgN_eq : ∀ t : Tg, tgN t = tgNames t
  | .nm _ => rfl
  | .tp _ => rfl
/-- an inner turn, an outer turn -/
def lcB2 (T : Tbl) (F : Nat) (call : Caller) (t2 : Tg) (elt : Ex) (e : Env) : D → List D → Store → R (List D) := fun d2 acc s => match setTg t2 d2 (wipeE e (tgN t2)) with
  | some e2 => (evE T F call elt e2 s).bind fun y s => if acc.length < line then .ok (acc ++ [y]) s else .stuck
  | none => .stuck
def lcA2 (T : Tbl) (F : Nat) (call : Caller) (own : List Nat) (t t2 : Tg) (k2 : Itk) (es2 : Xs) (elt : Ex) (env : Env) : D → List D → Store → R (List D) := fun d acc s => match setTg t d (wipeE env own) with
  | some e => (evX T F call es2 e s).bind fun ds2 s => match lockOf k2 ds2 s with
    | none => walk (snap k2 ds2 s).1 (snap k2 ds2 s).2 (lcB2 T F call t2 elt e) F 0 acc s
    | some _ => .stuck
  | none => .stuck
/-- what is walked within, where nothing is locked -/
def iEvN (m : Md) (X : Cx) (k : Itk) (es : Xs) : TI := fun σ H R => ∃ ρ env st, ERel X ρ H env σ ∧ Rel m X ρ H st ∧ Fin m noE X ρ H ((evX m.T m.F m.call es env st).bind fun ds s => .ok (ds, s) s) (fun ρ1 H1 (p : List D × Store) (vs : List V) => Reps X.K ρ1 H1 p.1 vs) fun vs H1 =>
  ∃ ρ1 st1 ds, Step ρ H ρ1 H1 ∧ Rel m X ρ1 H1 st1 ∧ Reps X.K ρ1 H1 ds vs ∧ lockOf k ds st1 = none ∧ itAt (snap k ds st1).1 (snap k ds st1).2 0 st1 ≠ .bad ∧
    ∀ J, ItOk m X (snap k ds st1).1 (snap k ds st1).2 ρ1 H1 J → R J H1
section
variable {m : Md} {E : XK} {X : Cx} {e a b c : Expr} {x y z : Ex} {pos : Pos} {tg tg2 : Expr} {ρ : List Addr} {H : Hp}
theorem Fin.imp {α β : Type} {r : R α} {rep : List Addr → Hp → α → β → Prop} {Q Q' : β → Hp → Prop} (h : Fin m E X ρ H r rep Q) (k : ∀ b H, Q b H → Q' b H) : Fin m E X ρ H r rep Q' := by
  cases r with
  | ok a st => exact fun ρ' H' b s S rp => k _ _ (h ρ' H' b s S rp)
  | exc c x st => exact h
  | stuck => exact h
theorem lc2_im {own : List Nat} {t t2 : Tg} {k k2 : Itk} {es es2 : Xs} {ex : Ex} {σ : L2.St} {Q : VK} (ho : ∀ i ∈ tgNames t, i ∈ own) (h : tEv m E X (.lc2 own t k es t2 k2 es2 ex) σ H Q) :
    tLc2 (iEv m E X k es) (gTg X.K t) (tEvT m noE X (.c (.bl true))) (iEvN m X k2 es2) (gTg X.K t2) (tEvT m noE X (.c (.bl true))) (tEv m noE X ex) own (tgNames t2) σ H (unlQ X Q) := by
  obtain ⟨ρ, env, st, he, S, hf⟩ := h
  simp only [evE] at hf
  have hf' : Fin m E X ρ H (((evX m.T m.F m.call es env st).bind fun ds s => .ok (ds, s) s).bind fun p s => R.unl (lockOf k p.1 s) ((walk (snap k p.1 s).1 (snap k p.1 s).2 (lcA2 m.T m.F m.call own t t2 k2 es2 ex env) m.F 0 [] (lock (lockOf k p.1 s) s)).noexc.bind fun acc s => .ok (.ref s.sz) (s.add (.lst acc)))) (rD X) Q := by
    rw [bind_assoc]; exact hf
  refine ⟨ρ, env, st, he, S, hf'.bind fun p st1 ρ1 H1 vs s1 S1 r1 hf1 => ?_⟩
  have hwok : ∃ accF stF, walk (snap k p.1 st1).1 (snap k p.1 st1).2 (lcA2 m.T m.F m.call own t t2 k2 es2 ex env) m.F 0 [] (lock (lockOf k p.1 st1) st1) = .ok accF stF := by
    cases hw : walk (snap k p.1 st1).1 (snap k p.1 st1).2 (lcA2 m.T m.F m.call own t t2 k2 es2 ex env) m.F 0 [] (lock (lockOf k p.1 st1) st1) with
    | ok a s => exact ⟨a, s, rfl⟩
    | exc c x s => rw [hw] at hf1; exact hf1.elim
    | stuck => rw [hw] at hf1; exact hf1.elim
  obtain ⟨accF, stF, hw⟩ := hwok
  have hnb : itAt (snap k p.1 st1).1 (snap k p.1 st1).2 0 (lock (lockOf k p.1 st1) st1) ≠ .bad := fun z => by
    cases hF : m.F with
    | zero => rw [hF] at hw; cases hw
    | succ n =>
      rw [hF] at hw
      unfold walk at hw
      rw [z] at hw
      cases hw
  refine ⟨ρ1, st1, p.1, s1, S1, r1, hnb, fun J G hL hJ D hD => ?_⟩
  obtain ⟨S2, s2⟩ := lk_rel S1 hL
  rw [hw] at hf1
  have hf1 : Fin m E X ρ1 G (.ok (.ref stF.sz) (stF.add (.lst accF))) (rD X) (unlQ X Q) := fin_unl S1 hL (fun ρ' H' H'' a b h r => h a b r) hf1
  generalize lock (lockOf k p.1 st1) st1 = st2 at hw S2
  generalize (snap k p.1 st1).1 = kk at hJ hw
  generalize (snap k p.1 st1).2 = dd at hJ hw
  have he1 := ((he.mono S s1).mono S1 s2).wipe own
  have hnD : D ∉ ρ1 := fun z => S2.live z hD
  refine ⟨fun i n H => ∃ ρ acc av st, Step ρ1 G ρ H ∧ D ∉ ρ ∧ H D = some (.lst av) ∧ Reps X.K ρ H acc av ∧ ERel X ρ H (wipeE env own) (L2.wipe σ own) ∧ Rel m X ρ H st ∧ walk kk dd (lcA2 m.T m.F m.call own t t2 k2 es2 ex env) n i acc st = .ok accF stF, ⟨m.F, ?_⟩, ?_⟩
  · obtain ⟨S3, s3⟩ := SRel.other (o := .lst []) S2 hD
    exact ⟨ρ1, [], [], st2, s3, hnD, upd_same, .nil, he1.mono S2 s3, S3, hw⟩
  · rintro i n H ⟨ρ, acc, av, st, stp, hnD, hD2, racc, he, S, hw⟩
    obtain ⟨j1, j2⟩ := hJ i ρ H st stp.toI S
    cases n with
    | zero => cases hw
    | succ n =>
      unfold walk at hw
      cases hx : itAt kk dd i st with
      | bad => rw [hx] at hw; cases hw
      | stop =>
        rw [hx] at hw
        cases hw
        refine .inl ⟨j1 hx, hf1 (ρ ++ [D]) H (.ref D) ⟨fun n a h => ext_app n a (stp.ext n a h), fun a o h hn => ?_, stp.frz⟩ (S.adopt hD2 hnD racc) (.ref ?_)⟩
        · obtain ⟨k1, k2⟩ := stp.keep a o h hn
          refine ⟨k1, fun z => ?_⟩
          rcases List.mem_append.mp z with z | z
          · exact k2 z
          · have : a = D := by simpa using z
            subst this
            rw [hD] at h; cases h
        · rw [S.sz, List.getElem?_append_right (Nat.le_refl _)]
          simp
      | item d =>
        rw [hx] at hw
        obtain ⟨g1, g2⟩ := j2 d hx
        refine .inr ⟨g1, _, fun H' h => ⟨n, Nat.lt_succ_self _, h⟩, fun v H' hy => ?_⟩
        obtain ⟨S2, s2, r2⟩ := g2 v H' hy
        obtain ⟨acc', st', hb, hw⟩ := bind_ok hw
        cases ht : setTg t d (wipeE env own) with
        | none =>
          simp only [lcA2, ht] at hb
          cases hb
        | some e =>
          simp only [lcA2, ht] at hb
          obtain ⟨ds2, st3, hb1, hb2⟩ := bind_ok hb
          refine gTg_ok (he.mono S s2) r2 ht fun σ2 he2 hwp => ⟨(hwp own ho).trans (wipe_twice σ own), ρ, e, st, he2, S2, ?_⟩
          intro ρ3 H3 b' s3 S3 r3
          cases r3
          rw [if_pos rfl]
          refine ⟨ρ3, e, st, he2.mono S2 s3, S3, ?_⟩
          rw [hb1]
          intro ρ4 H4 vs4 s4 S4 r4
          cases hl : lockOf k2 ds2 st3 with
          | some l => rw [hl] at hb2; cases hb2
          | none =>
            rw [hl] at hb2
            have hb2 : walk (snap k2 ds2 st3).1 (snap k2 ds2 st3).2 (lcB2 m.T m.F m.call t2 ex e) m.F 0 acc st3 = .ok acc' st' := hb2
            have hnb2 : itAt (snap k2 ds2 st3).1 (snap k2 ds2 st3).2 0 st3 ≠ .bad := fun z => by
              cases hF : m.F with
              | zero => rw [hF] at hb2; cases hb2
              | succ n =>
                rw [hF] at hb2
                unfold walk at hb2
                rw [z] at hb2
                cases hb2
            refine ⟨ρ4, st3, ds2, s4, S4, r4, hl, hnb2, fun J1 hJ1 => ?_⟩
            generalize (snap k2 ds2 st3).1 = k3 at hJ1 hb2
            generalize (snap k2 ds2 st3).2 = d3 at hJ1 hb2
            have s24 := s2.trans (s3.trans s4)
            refine ⟨fun j n2 H => ∃ ρ5 acc5 av5 st5, StepI ρ4 H4 ρ5 H ∧ Step ρ1 G ρ5 H ∧ D ∉ ρ5 ∧ H D = some (.lst av5) ∧ Reps X.K ρ5 H acc5 av5 ∧ ERel X ρ5 H (wipeE env own) (L2.wipe σ own) ∧ ERel X ρ5 H e σ2 ∧ Rel m X ρ5 H st5 ∧ walk k3 d3 (lcB2 m.T m.F m.call t2 ex e) n2 j acc5 st5 = .ok acc' st', ⟨m.F, ?_⟩, ?_⟩
            · obtain ⟨q1, q2⟩ := s24.keep D _ hD2 hnD
              exact ⟨ρ4, acc, av, st3, (Step.refl _ _).toI, stp.trans s24, q2, q1, Reps.mono S s24 _ _ racc, he.mono S s24, (he2.mono S2 (s3.trans s4)), S4, hb2⟩
            · rintro j n2 H5 ⟨ρ5, acc5, av5, st5, stp4, stp1, hnD5, hD5, racc5, heO, heI, S5, hw5⟩
              obtain ⟨jj1, jj2⟩ := hJ1 j ρ5 H5 st5 stp4 S5
              cases n2 with
              | zero => cases hw5
              | succ n2 =>
                unfold walk at hw5
                cases hx5 : itAt k3 d3 j st5 with
                | bad => rw [hx5] at hw5; cases hw5
                | stop =>
                  rw [hx5] at hw5
                  cases hw5
                  exact .inl ⟨jj1 hx5, ρ5, acc', av5, st', stp1, hnD5, hD5, racc5, heO, S5, hw⟩
                | item d5 =>
                  rw [hx5] at hw5
                  obtain ⟨gg1, gg2⟩ := jj2 d5 hx5
                  refine .inr ⟨gg1, _, fun H' h => ⟨n2, Nat.lt_succ_self _, h⟩, fun v5 H6 hy5 => ?_⟩
                  obtain ⟨S6, s6, r6⟩ := gg2 v5 H6 hy5
                  obtain ⟨acc6, st6, hb6, hw6⟩ := bind_ok hw5
                  cases ht2 : setTg t2 d5 (wipeE e (tgN t2)) with
                  | none =>
                    simp only [lcB2, ht2] at hb6
                    cases hb6
                  | some e2 =>
                    simp only [lcB2, ht2] at hb6
                    obtain ⟨y, st7, hb7, hb8⟩ := bind_ok hb6
                    have heW : ERel X ρ5 H6 (wipeE e (tgN t2)) (L2.wipe σ2 (tgNames t2)) := by rw [tgN_eq]; exact (heI.mono S5 s6).wipe _
                    refine gTg_ok heW r6 ht2 fun σ3 he3 hwp3 => ⟨(hwp3 _ fun _ z => z).trans (wipe_twice σ2 _), ρ5, e2, st5, he3, S6, ?_⟩
                    intro ρ7 H7 b7 s7 S7 r7
                    cases r7
                    rw [if_pos rfl]
                    refine ⟨ρ7, e2, st5, he3.mono S6 s7, S7, ?_⟩
                    rw [hb7]
                    intro ρ8 H8 v8 s8 S8 r8
                    split at hb8
                    · rename_i hlen
                      cases hb8
                      have s68 := s6.trans (s7.trans s8)
                      obtain ⟨q1, q2⟩ := s68.keep D _ hD5 hnD5
                      have mv := sqt_upd (K := X.K) (o := .lst (av5 ++ [v8])) q1
                      have mvx := xk_upd (ρ := ρ8) (o := .lst (av5 ++ [v8])) q1
                      refine ⟨av5, q1, by rw [← racc5.length, ← line_eq]; exact hlen, ρ8, acc5 ++ [y], av5 ++ [v8], _, ?_, ⟨fun n a h => (stp1.trans s68).ext n a h, fun a o h hn => ?_, fun a o u h => ?_⟩, q2, upd_same, ?_, ?_, ?_, S8.beside q1 q2, hw6⟩
                      · have s48 := stp4.trans s68.toI
                        refine ⟨fun n a h => s48.ext n a h, fun a o h hn hl => ?_, fun a o u h => ?_⟩
                        · obtain ⟨z1, z2⟩ := s48.keep a o h hn hl
                          refine ⟨?_, z2⟩
                          rw [upd_ne]
                          · exact z1
                          · intro z; subst z; rw [q1] at z1; exact hl _ (Option.some.inj z1).symm
                        · have z1 := s48.frz a o u h
                          rw [upd_ne]
                          · exact z1
                          · intro z; subst z; rw [q1] at z1; cases z1
                      · obtain ⟨z1, z2⟩ := (stp1.trans s68).keep a o h hn
                        refine ⟨?_, z2⟩
                        rw [upd_ne]
                        · exact z1
                        · intro z; subst z; rw [hD] at h; cases h
                      · rw [upd_ne]
                        · exact (stp1.trans s68).frz a o u h
                        · intro z; subst z; rw [hD] at h; cases h
                      · exact Reps.mv (fun _ _ z => z) mv mvx _ _ ((Reps.mono S5 s68 _ _ racc5).append (.cons r8 .nil))
                      · have he4 := heO.mono S5 s68
                        exact ⟨he4.len, fun i d h => let ⟨v, h1, h2⟩ := he4.at_ i d h; ⟨v, h1, Rep.mv (fun _ _ z => z) mv mvx _ _ h2⟩⟩
                      · have he4 := heI.mono S5 s68
                        exact ⟨he4.len, fun i d h => let ⟨v, h1, h2⟩ := he4.at_ i d h; ⟨v, h1, Rep.mv (fun _ _ z => z) mv mvx _ _ h2⟩⟩
                    · cases hb8
theorem se_lc2 {elt iter iter2 : Expr} {scope : Scope} {own : List (Str × Nat)} {t t2 : Tg} {k k2 : Itk} {es es2 : Xs} {ex : Ex} (ho : ∀ i ∈ tgNames t, i ∈ own.map (·.2)) (ho2 : ∀ i ∈ tgNames t2, i ∈ own.map (·.2)) (hc : X.calm = true) (hN : X.N.Nodup) (hi : PI X tg iter (iEv m E X k es)) (ok : BlkOk X.N X.env.scope scope own)
    (hb : ∀ (s : Shared) (H : Hp) (C : Addr) (cl : List (Str × Addr)) (fp : List Addr), TgOk (X.blk s H scope (compEnvC scope cl C X.env) fp) tg t ∧ TgOk (X.blk s H scope (compEnvC scope cl C X.env) fp) tg2 t2 ∧ PI (X.blk s H scope (compEnvC scope cl C X.env) fp) tg2 iter2 (iEv m noE (X.blk s H scope (compEnvC scope cl C X.env) fp) k2 es2) ∧ PE (X.blk s H scope (compEnvC scope cl C X.env) fp) elt (tEv m noE (X.blk s H scope (compEnvC scope cl C X.env) fp) ex))
    (hs : ∀ x, foldedSetIterable iter X.env x = pure x) (hs2 : ∀ (env : PySem.Env) x, foldedSetIterable iter2 env x = pure x) : PE X (.ListComp elt [⟨tg, iter, [], 0⟩, ⟨tg2, iter2, [], 0⟩] scope pos) (tEv m E X (.lc2 (own.map (·.2)) t k es t2 k2 es2 ex)) :=
  imE (pe_unl (pe_lc2 hc hN hi ok ho2 (fun s H C cl fp => pg_tg (X := X.blk s H scope (compEnvC scope cl C X.env) fp) hN hc (hb s H C cl fp).1)
    (fun s H C cl fp => ⟨fun pins s' σ H' Q I ⟨ρ, env, st, he, S, hf⟩ => (lct_ok (X := X.blk s H scope (compEnvC scope cl C X.env) fp) (m := m) (.inl ⟨rfl, rfl⟩)).run pins s' σ H' Q I ⟨ρ, env, st, ⟨he.len, he.at_⟩, S, hf⟩⟩)
    (fun s H C cl fp => imI (hb s H C cl fp).2.2.1 fun σ H R ⟨ρ, env, st, he, S, hf⟩ => ⟨ρ, env, st, ⟨he.len, he.at_⟩, S, Fin.imp hf fun vs H1 ⟨ρ1, st1, ds, q1, q2, q3, hl, q4, kk⟩ => ⟨ρ1, st1, ds, q1, q2, q3, by rw [hl]; exact q4, fun J G hL hJ => by rw [hl] at hL; cases hL; exact kk J hJ⟩⟩)
    (fun s H C cl fp => pg_tg (X := X.blk s H scope (compEnvC scope cl C X.env) fp) hN hc (hb s H C cl fp).2.1)
    (fun s H C cl fp => ⟨fun pins s' σ H' Q I ⟨ρ, env, st, he, S, hf⟩ => (lct_ok (X := X.blk s H scope (compEnvC scope cl C X.env) fp) (m := m) (.inl ⟨rfl, rfl⟩)).run pins s' σ H' Q I ⟨ρ, env, st, ⟨he.len, he.at_⟩, S, hf⟩⟩)
    (fun s H C cl fp => ⟨fun pins s' σ H' Q I ⟨ρ, env, st, he, S, hf⟩ => ((hb s H C cl fp).2.2.2).run pins s' σ H' Q I ⟨ρ, env, st, ⟨he.len, he.at_⟩, S, hf⟩⟩) hs hs2)) fun σ H Q h => lc2_im ho h
end
end VI
/-! VIn: isinstance, list(range(n)). -/
namespace VI
open PySem PySem.Spec PyProof.Rows L2
variable [LL]
/-- the types of things, by number -/
def tyNo (st : Store) : D → Option (Nat ⊕ Nat)
  | .non => some (.inl 0)
  | .bl _ => some (.inl 1)
  | .int _ => some (.inl 2)
  | .str _ => some (.inl 3)
  | .tup _ => some (.inl 4)
  | .fn _ => none
  | .ref n => match st.get n with
    | some (.lst _) => some (.inl 5)
    | some (.flst _) => some (.inl 5)
    | some (.dct _ _) => some (.inl 6)
    | some (.ins c _) => some (.inr c)
    | some (.tab _) => none
    | none => none
theorem isTy_no {st : Store} {d : D} {ty : Ty} {k : Nat ⊕ Nat} (h : tyNo st d = some k) : isTy st d ty = some (match k with | .inl k => tyIs ty k | .inr c => tyIsC ty c) := by
  cases d with
  | ref n =>
    simp only [tyNo] at h
    cases hg : st.get n with
    | none => rw [hg] at h; cases h
    | some o =>
      rw [hg] at h
      cases o <;> (first | (cases h; done) | (cases h; cases ty <;> simp only [isTy, offTab, hg] <;> try rfl))
      all_goals (simp only [tyIsC]; congr 1; exact Bool.eq_iff_iff.mpr (by simp [eq_comm]))
  | fn => cases h
  | _ => cases h; cases ty <;> rfl
/-- what isinstance answers, by types: the table of a class -/
structure IsTab (nm : Nm) (K : PySem.W.Frag) (ty : Ty) (u : Value) : Prop where
  blt : ∀ (k : Nat) (n : String), tyNames[k]? = some n → PySem.W.kitOne K (.type n) u = some (tyIs ty k)
  ins : ∀ (c : Nat) (C : Addr), nm.cA[c]? = some C → PySem.W.kitOne K (.ref C) u = some (tyIsC ty c)
/-- what the classes of instances are known to be -/
structure ClsOk (nm : Nm) (K : PySem.W.Frag) : Prop where
  at_ : ∀ (c : Nat) (C : Addr), nm.cA[c]? = some C → Cls K C ∧ PySem.W.findIn K (.ref C) "__class__" = some (some (.builtin "object.__class__")) ∧ PySem.W.specialIn K (.builtin "object.__class__") "__get__" = some (some (.builtin "getset_descriptor.__get__")) ∧
    PySem.W.takesIn K (.builtin "object.__class__") = some true ∧ PySem.W.mroIn K C (.type "object") = some true
  noat : ∀ (c : Nat) (C : Addr) (n : Nat) (f : Str), nm.cA[c]? = some C → n < nm.nf → nm.aN[n]? = some f → NoAttr K C f
  nd : nm.aN.Nodup
section
variable {m : Md} {E : XK} {X : Cx} {e a b c : Expr} {x y z : Ex} {pos : Pos} {tg : Expr} {ρ : List Addr} {H : Hp}
theorem kit_D {pins : List (Addr × Obj)} {σ : L2.St} {s : Shared} {st : Store} {d : D} {v : V} {u : Value} {k : Nat ⊕ Nat} (hcl : ClsOk m.nm X.K) (I : Inv X pins σ H s) (S : Rel m X ρ H st) (r : Rep X.K ρ H d v) (ru : RelV v u) (hk : tyNo st d = some k) :
    ∃ t P, PySem.W.KitX X.K u t P ∧ P s.heap ∧ u ≠ .builtin "__main__.__loader__#opaque" ∧ match k with | .inl k => ∃ n, tyNames[k]? = some n ∧ t = .type n | .inr c => ∃ C, m.nm.cA[c]? = some C ∧ t = .ref C := by
  have go : ∀ {t : Value}, TyX X.K H v t → (match k with | .inl k => ∃ n, tyNames[k]? = some n ∧ t = .type n | .inr c => ∃ C, m.nm.cA[c]? = some C ∧ t = .ref C) → ∃ t P, PySem.W.KitX X.K u t P ∧ P s.heap ∧ u ≠ .builtin "__main__.__loader__#opaque" ∧ match k with | .inl k => ∃ n, tyNames[k]? = some n ∧ t = .type n | .inr c => ∃ C, m.nm.cA[c]? = some C ∧ t = .ref C := fun {t} h q => by
    obtain ⟨P, h1, h2, h3⟩ := kit_of I ru h
    exact ⟨t, P, h1, h2, h3, q⟩
  cases r with
  | non => cases hk; exact go (.base .non) ⟨_, rfl, rfl⟩
  | bl b => cases hk; exact go (.base (.bl b)) ⟨_, rfl, rfl⟩
  | int i => cases hk; exact go (.base (.int i)) ⟨_, rfl, rfl⟩
  | str x => cases hk; exact go (.base (.str _)) ⟨_, rfl, rfl⟩
  | tup q rs =>
    cases hk
    rcases q with (q | ⟨o, q⟩) | ⟨o, its, n, q1, q2, _⟩
    · exact go (.base (.tup q)) ⟨_, rfl, rfl⟩
    · exact go (.fTuple q) ⟨_, rfl, rfl⟩
    · exact go (.kTuple q1 q2) ⟨_, rfl, rfl⟩
  | fn => cases hk
  | err => cases hk
  | ref ha =>
    unfold tyNo at hk
    simp only at hk
    split at hk
    · rename_i xs g
      cases hk
      obtain ⟨vs, q, _⟩ := S.lst_at ha g
      exact go (.base (.lst q)) ⟨_, rfl, rfl⟩
    · rename_i xs g
      cases hk
      obtain ⟨vs, q, _⟩ := S.flst_at ha g
      rcases q with q | ⟨o, q⟩
      · exact go (.base (.lst q)) ⟨_, rfl, rfl⟩
      · exact go (.base (.frz q)) ⟨_, rfl, rfl⟩
    · rename_i lk kvs g
      cases hk
      cases ru
      obtain ⟨es, ep, ⟨o, h1, h2, h3⟩, _⟩ := dct_raw I (S.dct_at ha g)
      exact ⟨_, _, PySem.W.kitx_dict, ⟨o, h1, h2.1⟩, (fun z => nomatch z), _, rfl, rfl⟩
    · rename_i cc fs g
      cases hk
      obtain ⟨o, g', q⟩ := S.ob _ _ ha
      rw [g] at g'; cases g'
      obtain ⟨C, dx, fv, hC, q, _⟩ := q
      obtain ⟨k1, k2, k3, k4, k5⟩ := hcl.at_ _ _ hC
      exact go (.base (.ins q k1 k2 k3 k4 k5)) ⟨_, hC, rfl⟩
    · cases hk
    · cases hk
/-- isinstance(a, T) -/
def rIsD (m : Md) (X : Cx) (ty : Ty) (cv : V) : List V → Hp → VK → Prop := fun xs H Q => ∃ ρ st d v b, xs = [v, cv] ∧ Rel m X ρ H st ∧ Rep X.K ρ H d v ∧ isTy st d ty = some b ∧ Q (.bl b) H
theorem call_isD {ty : Ty} {cv : V} {u : Value} (hcl : ClsOk m.nm X.K) (hc : ClsV cv u) (ht : IsTab m.nm X.K ty u) : CallR X (.builtin "isinstance") (rIsD m X ty cv) := by
  intro pins s σ H xs us Q I r h
  obtain ⟨ρ, st, d, v, b, rfl, S, rd, e, q⟩ := h
  obtain ⟨u1, u2, rfl, r1, r2⟩ := vals2 r
  have e2 := hc.eq r2
  subst e2
  obtain ⟨k, hk⟩ : ∃ k, tyNo st d = some k := by
    cases rd with
    | ref ha =>
      obtain ⟨o, g, _⟩ := S.ob _ _ ha
      unfold tyNo
      simp only [g]
      cases o <;> first | exact ⟨_, rfl⟩ | (exfalso; cases ty <;> simp [isTy, offTab, g] at e)
    | fn => exfalso; cases ty <;> simp [isTy] at e
    | err => exfalso; cases ty <;> simp [isTy] at e
    | _ => exact ⟨_, rfl⟩
  rw [isTy_no hk] at e
  have e := Option.some.inj e
  obtain ⟨t, P, Z, p, hx, hq⟩ := kit_D hcl I S rd r1 hk
  have hone : PySem.W.kitOne X.K t u2 = some b := by
    cases k with
    | inl k =>
      obtain ⟨n, hn, rfl⟩ := hq
      rw [ht.blt k n hn, ← e]
    | inr c =>
      obtain ⟨C, hC, rfl⟩ := hq
      rw [ht.ins c C hC, ← e]
  exact PySem.W.kia_one Z I.kIn p hone hx fun tk => ⟨.bl b, H, I.tok tk, rfl, q⟩
/-- a class's name as a value -/
def tVal (v : V) : TE := fun _ H Q => Q v H
theorem pe_tyName {w : Str} {n : String} (hg : Gl X w) (hm : X.mg w = none) (hv : bootBuiltins w = some (.type n)) (hn : w ≠ "__name__") (hd : (w == ("__debug__" : Str)) = false) : PE X (.Name w pos) (tVal (.ty n)) :=
  ⟨fun pins s σ H Q I h => ld_blt I hg hm hv ⟨.ty n, H, I, rfl, h⟩ hn hd⟩
theorem pe_clsName {w : Str} {C : Addr} (hg : Gl X w) (hm : X.mg w = some (.ref C)) (hd : (w == ("__debug__" : Str)) = false) : PE X (.Name w pos) (tVal (.ref C)) :=
  ⟨fun pins s σ H Q I h => ld_glob I hg hm ⟨.ref C, H, I, rfl, h⟩ hd⟩
theorem se_isi {ty : Ty} {cv : V} {u : Value} {p : Pos} (hcl : ClsOk m.nm X.K) (hc : ClsV cv u) (ht : IsTab m.nm X.K ty u) (hg : Gl X "isinstance") (hm : X.mg "isinstance" = none) (ha : PE X a (tEv m E X x)) (hb : PE X b (tVal cv))
    (he : starEach [a, b] X.env = (false, eval a X.env) :: starEach [b] X.env) (he2 : starEach [b] X.env = (false, eval b X.env) :: starEach [] X.env) (hpl : (backTo pos (starEach [b] X.env)).any (·.1) = false) :
    PE X (.Call (.Name "isinstance" p) [a, b] [] pos) (tEv m E X (.blt (.isi [ty]) (.cons false x .nil))) :=
  imE (pe_callB (call_isD (m := m) hcl hc ht) hg hm rfl (pa_cons ha (pa_cons hb pa_nil he2) he) (by decide) (by decide) he hpl) fun σ H Q ⟨ρ, env, st, he, S, hf⟩ => by
    simp only [evE, ev1, bind_assoc] at hf
    refine ⟨ρ, env, st, he, S, hf.bind fun d st1 ρ1 H1 v s1 S1 r1 hf1 => ?_⟩
    have hf1 : Fin m E X ρ1 H1 (isiV [ty] [d] st1) (rD X) Q := hf1
    unfold isiV at hf1
    simp only [isTys] at hf1
    cases hi : isTy st1 d ty with
    | none => rw [hi] at hf1; exact hf1.elim
    | some bb =>
      rw [hi] at hf1
      simp only [Bool.or_false] at hf1
      exact ⟨ρ1, st1, d, v, bb, rfl, S1, r1, hi, hf1.now S1 (.bl bb)⟩
/-- isinstance(a, (S, T)) -/
def rIsD2 (m : Md) (X : Cx) (t1 t2 : Ty) (c1 c2 : V) : List V → Hp → VK → Prop := fun xs H Q => ∃ ρ st d v tp b, xs = [v, .ref tp] ∧ H tp = some (.tup [c1, c2]) ∧ Rel m X ρ H st ∧ Rep X.K ρ H d v ∧ isTys st d [t1, t2] = some b ∧ Q (.bl b) H
theorem call_isD2 {t1 t2 : Ty} {c1 c2 : V} {w1 w2 : Value} (hcl : ClsOk m.nm X.K) (hc1 : ClsV c1 w1) (hc2 : ClsV c2 w2) (ht1 : IsTab m.nm X.K t1 w1) (ht2 : IsTab m.nm X.K t2 w2) : CallR X (.builtin "isinstance") (rIsD2 m X t1 t2 c1 c2) := by
  intro pins s σ H xs us Q I r h
  obtain ⟨ρ, st, d, v, tp, b, rfl, hT, S, rd, e, q⟩ := h
  obtain ⟨u1, u2, rfl, r1, r2⟩ := vals2 r
  cases (show u2 = Value.ref tp from r2)
  obtain ⟨_, its, rv, o, h1, h2, n, h3⟩ := (show ObjOk X.prog X.w H s.heap tp (.tup [c1, c2]) from I.hok tp _ hT)
  have e3 := ClsV.all (.cons hc1 (.cons hc2 .nil)) rv
  subst e3
  obtain ⟨oc, od, dt, sl⟩ := o
  simp only at h2 h3
  subst h2 h3
  obtain ⟨k, hk⟩ : ∃ k, tyNo st d = some k := by
    cases rd with
    | ref ha =>
      obtain ⟨o, g, _⟩ := S.ob _ _ ha
      unfold tyNo
      simp only [g]
      cases o <;> first | exact ⟨_, rfl⟩ | (exfalso; cases t1 <;> simp [isTys, isTy, offTab, g] at e)
    | fn => exfalso; cases t1 <;> simp [isTys, isTy] at e
    | err => exfalso; cases t1 <;> simp [isTys, isTy] at e
    | _ => exact ⟨_, rfl⟩
  obtain ⟨t, P, Z, p, hx, hq⟩ := kit_D hcl I S rd r1 hk
  have one : ∀ {ty : Ty} {w : Value}, IsTab m.nm X.K ty w → PySem.W.kitOne X.K t w = isTy st d ty := fun {ty w} ht => by
    rw [isTy_no hk]
    cases k with
    | inl k =>
      obtain ⟨n, hn, rfl⟩ := hq
      exact ht.blt k n hn
    | inr c =>
      obtain ⟨C, hC, rfl⟩ := hq
      exact ht.ins c C hC
  have hany : PySem.W.kitAny X.K t [w1, w2] = some b := by
    simp only [isTys] at e
    simp only [PySem.W.kitAny, one ht1, one ht2]
    revert e
    cases isTy st d t1 with
    | none => intro e; cases e
    | some b1 =>
      cases isTy st d t2 with
      | none => intro e; cases e
      | some b2 =>
        intro e
        cases b1 <;> cases b2 <;> cases e <;> rfl
  exact PySem.W.kia_tup Z I.kIn p h1 hany hx fun tk => ⟨.bl b, H, I.tok tk, rfl, q⟩
theorem se_isi2 {t1 t2 : Ty} {n1 n2 : String} {b1 b2 : Expr} {k : Nat} {p pt : Pos} (hcl : ClsOk m.nm X.K) (ht1 : IsTab m.nm X.K t1 (.type n1)) (ht2 : IsTab m.nm X.K t2 (.type n2)) (hg : Gl X "isinstance") (hm : X.mg "isinstance" = none) (ha : PE X a (tEv m E X x)) (hb1 : PE X b1 (tVal (.ty n1))) (hb2 : PE X b2 (tVal (.ty n2)))
    (he : starEach [a, .Tuple [b1, b2] k pt] X.env = (false, eval a X.env) :: starEach [.Tuple [b1, b2] k pt] X.env) (hs1 : starEach [b1, b2] X.env = (false, eval b1 X.env) :: starEach [b2] X.env) (hs2 : starEach [b2] X.env = (false, eval b2 X.env) :: starEach [] X.env) :
    PE X (.Call (.Name "isinstance" p) [a, .Tuple [b1, b2] k pt] [] pos) (tEv m E X (.blt (.isi [t1, t2]) (.cons false x .nil))) :=
  imE (pe_callB (call_isD2 (m := m) hcl (.ty n1) (.ty n2) ht1 ht2) hg hm rfl (pa_cons ha (pa_cons (pe_tup (pa_cons hb1 (pa_cons hb2 pa_nil hs2) hs1)) pa_nil rfl) he) (by decide) (by decide) he rfl) fun σ H Q ⟨ρ, env, st, he, S, hf⟩ => by
    simp only [evE, ev1, bind_assoc] at hf
    refine ⟨ρ, env, st, he, S, hf.bind fun d st1 ρ1 H1 v s1 S1 r1 hf1 => ?_⟩
    have hf1 : Fin m E X ρ1 H1 (isiV [t1, t2] [d] st1) (rD X) Q := hf1
    have hf1 : Fin m E X ρ1 H1 (ofOpt ((isTys st1 d [t1, t2]).map .bl) st1) (rD X) Q := hf1
    cases hi : isTys st1 d [t1, t2] with
    | none => rw [hi] at hf1; exact hf1.elim
    | some bb =>
      rw [hi] at hf1
      refine ⟨by show 2 ≤ sizeLine; decide, fun tp htp => ?_⟩
      obtain ⟨S2, stp⟩ := SRel.other (o := .tup [.ty n1, .ty n2]) S1 htp
      exact ⟨ρ1, st1, d, v, tp, bb, rfl, upd_same, S2, Rep.mono S1 stp _ _ r1, hi, (hf1.step stp).now S2 (.bl bb)⟩
/-- list(range(n)) -/
theorem rgV_reps {n : Int} : Reps X.K ρ H ((List.range n.toNat).map fun (i : Nat) => D.int (i : Int)) (rgV 0 n) := by
  unfold rgV
  have e : (n - 0).toNat = n.toNat := by omega
  rw [e]
  induction List.range n.toNat with
  | nil => exact .nil
  | cons i r ih =>
    refine .cons ?_ ih
    have : (0 : Int) + (i : Nat) = (i : Int) := by omega
    show Rep X.K ρ H (.int (i : Int)) (.int ((0 : Int) + (i : Nat)))
    rw [this]
    exact .int _
theorem se_listRg {p p1 p2 : Pos} (hc : X.calm = true) (hg : Gl X "list") (hm : X.mg "list" = none) (hg2 : Gl X "range") (hm2 : X.mg "range" = none) (ha : PE X a (tEv m E X x)) (na : starEach [a] X.env = (false, eval a X.env) :: starEach [] X.env)
    (ne : starEach [.Call (.Name "range" p1) [a] [] p2] X.env = (false, eval (.Call (.Name "range" p1) [a] [] p2) X.env) :: starEach [] X.env) : PE X (.Call (.Name "list" p) [.Call (.Name "range" p1) [a] [] p2] [] pos) (tEv m E X (.blt .listRange (.cons false x .nil))) :=
  imE (pe_listRg hc hg hm (prg_1 hg2 hm2 ha na) ne) fun σ H Q ⟨ρ, env, st, he, S, hf⟩ => by
    simp only [evE, ev1, bind_assoc] at hf
    refine ⟨ρ, env, st, he, S, hf.bind fun d st1 ρ1 H1 v s1 S1 r1 hf1 => ?_⟩
    have hf1 : Fin m E X ρ1 H1 (listRangeV [d] st1) (rD X) Q := hf1
    unfold listRangeV at hf1
    cases r1 with
    | int n =>
      simp only at hf1
      split at hf1
      · rename_i hl
        refine ⟨n, rfl, ⟨by omega, by omega, ?_, ?_, ?_⟩, fun q hq => hf1.lst S1 rgV_reps hq⟩
        all_goals omega
      · exact hf1.elim
    | _ => exact hf1.elim
end
end VI
/-! VIo: displays of dicts. -/
namespace VI
open PySem PySem.Spec PyProof.Rows L2
variable [LL]
section
variable {m : Md} {E : XK} {X : Cx} {pos : Pos} {ρ : List Addr} {H : Hp} {pins : List (Addr × Obj)} {σ : L2.St} {s : Shared} {st : Store}
theorem room8' {A : Around} (h : A.units + 65 < cLine) : (nestedKind X.prog X.w).room A := by
  show A.units + 8 < cLine
  omega
theorem dct_put2 (I : Inv X pins σ H s) (hu : X.A.units + 65 < cLine) (S : Rel m X ρ H st) {n : Nat} {a : Addr} {kvs : List (D × D)} {k d : D} {y v : V} {u z : Value} (ha : ρ[n]? = some a) (g : st.get n = some (.dct false kvs)) (hk : kkOk kvs k = true) (hl : kvs.length < sizeLine)
    (r : Rep X.K ρ H k y) (ru : RelV y u) (rd : Rep X.K ρ H d v) (rv : RelV v z) {Q : Unit → Shared → Prop} {E : Value → Shared → Prop}
    (h : ∀ H' s', Inv X pins σ H' s' → Step ρ H ρ H' → Rel m X ρ H' (st.set n (.dct false (putD kvs k d))) → Q () s') : wpAny (model X.prog X.w) X.A (dictSet a u z) Q E s := by
  obtain ⟨hz, hs, hv⟩ := dict_view S ha g hk
  have hz' : (putD kvs k d).length ≤ sizeLine := Nat.le_trans (putD_len kvs k d) hl
  rcases hv with ⟨j, kv, hj, q, lp⟩ | ⟨h2, hv⟩
  · obtain rfl := leafK_rep hj r
    have e : (lookD kvs k).isSome = (valV kv j).isSome := by
      rcases lp_look hj lp with ⟨h1, h2⟩ | ⟨d, v, h1, h2, _⟩ <;> rw [h1, h2] <;> rfl
    have q : H a = some (.dK kv) := q
    have hkv : kv.length < sizeLine := by rw [← paired_len lp]; exact hl
    obtain ⟨z0, hd, vs, rel, dd⟩ := dk_of I.hok q
    have hl' : (putK kv j v).length ≤ sizeLine := by have := length_putK kv j v; omega
    refine wpAny_dictSet_pairs (hsz := by rw [← rel.length]; omega) (kV_is ru) dd fun h' dd' hsb => ?_
    have he : ∃ q, h'.get? a = some q := let ⟨q, _, _, hq, _⟩ := dd'; ⟨q, hq⟩
    have I' := d_write (t' := s.toks + 1) I (by rw [q]; exact True.intro) hsb he (dk_new hl' hd (rel.put j rv) dd')
    obtain ⟨S', stp⟩ := SRel.dset (o := .dK (putK kv j v)) (kvs := putD kvs k d) S ha (fun o u z => by rw [q] at z; cases z) fun stp => ⟨hz', hs, .inl ⟨_, upd_same, by
      have := LPairs.put hj rd lp e
      exact paired_imp this fun p q z => ⟨z.1, Rep.mono S stp _ _ z.2⟩⟩⟩
    exact h _ _ I' stp S'
  · obtain ⟨xs0, rfl, _⟩ := kk2 h2
    cases r with
    | tup q1 q2 =>
      rename_i b _
      cases ru
      have hkey := key_is I h2 (.tup q1 q2)
      have fin : ∀ (xs : List (NestedKey × Addr × Value)) (o0 : HO) (h' : Heap), H a = some o0 → Mut (some o0) → TPairs X.K ρ H kvs xs → h'.DictOfH (nestedKind X.prog X.w) a (storedH xs (nkey (.tup xs0)) b z) → Heap.SameBut a s.heap h' →
          (lookD kvs (.tup xs0)).isSome = (atKey xs (nkey (.tup xs0))).isSome → ∀ tk, Q () { s with heap := h', toks := tk } := fun xs o0 h' e0 mu tp hm' hsb e tk => by
        obtain ⟨o, es, ep, e1, e2, e3, e4, e5, e6⟩ := hm'
        have tp' := TPairs.put (k := .tup xs0) h2 (.tup q1 q2) rd rv tp e
        have raw : rawD X.prog X.w a (storedH xs (nkey (.tup xs0)) b z) h' := ⟨o, es, ep, e1, e2, e3, e4⟩
        have I' : Inv X pins σ (upd H a (.ext (rawD X.prog X.w a (storedH xs (nkey (.tup xs0)) b z)))) { s with heap := h', toks := tk } :=
          I.write (x := a) (e := a) (by rw [e0]; exact mu) (.inl rfl) (fun b' u' hb hu' => (hsb.2 b' hb).trans hu') ⟨o, e1⟩ ⟨raw, ⟨o, e1⟩, fun h1 h2 r k => rawD_stay r k⟩
        obtain ⟨S', stp⟩ := SRel.dset (o := .ext (rawD X.prog X.w a (storedH xs (nkey (.tup xs0)) b z))) (kvs := putD kvs (.tup xs0) d) S ha (fun o u z => by rw [e0] at z; cases z; exact mu) fun stp => ⟨hz', hs, .inr ⟨putD_ne _ _ _, _, upd_same, paired_imp tp' fun p q z => ⟨z.1, z.2.1, Rep.mono S stp _ _ z.2.2.1, let ⟨v, h1, h2⟩ := z.2.2.2; ⟨v, h1, Rep.mono S stp _ _ h2⟩⟩, e6⟩⟩
        exact h _ _ I' stp S'
      rcases hv with ⟨rfl, q⟩ | ⟨xs, ne, q, tp, nd⟩
      · have q' : H a = some (.dK []) := q
        exact wpAny_dictSet_heap (hsz := Nat.zero_le _) (room8' hu) hkey (empty_of I q) fun h' hm' hsb => fin [] _ h' q' trivial .nil hm' hsb rfl _
      · have q' : H a = some (.ext _) := q
        refine wpAny_dictSet_heap (hsz := by rw [← paired_len tp]; exact hz) (room8' hu) hkey (dictOfH I q tp nd) fun h' hm' hsb => fin xs _ h' q' trivial tp hm' hsb ?_ _
        rcases tp_look h2 tp with ⟨h1, h2⟩ | ⟨d, p, v, h1, h2, _⟩ <;> rw [h1, h2] <;> rfl
/-- pairs one after another -/
def flatP : List (Value × Value) → List Value
  | [] => []
  | p :: r => p.1 :: p.2 :: flatP r
theorem store_pairs (hu : X.A.units + 65 < cLine) {Q : PUnit → Shared → Prop} {E : Value → Shared → Prop} {n : Nat} {a : Addr} {stF : Store} {dF : D} (ha : ρ[n]? = some a) : ∀ (ws : List (Value × Value)) (ds : List D) (vs : List V) (H : Hp) (st : Store) (s : Shared), Inv X pins σ H s → Rel m X ρ H st → (∃ kvs, st.get n = some (.dct false kvs)) →
    Reps X.K ρ H ds vs → Vals vs (flatP ws) → mkDict ds n st = .ok dF stF → (∀ H' s', Inv X pins σ H' s' → Step ρ H ρ H' → Rel m X ρ H' stF → dF = .ref n → Q PUnit.unit s') → wpAny (model X.prog X.w) X.A (storeAll a ws) Q E s
  | [], ds, vs, H, st, s, I, S, hg, rs, hv, hm, h => by
    cases hv
    cases rs
    cases hm
    unfold storeAll
    rw [List.forIn_nil]
    exact wpAny_pure (h H s I (Step.refl _ _) S rfl)
  | w :: ws, ds, vs, H, st, s, I, S, ⟨kvs, hg⟩, rs, hv, hm, h => by
    obtain ⟨w1, w2⟩ := w
    cases hv with
    | cons r1 hv =>
      cases hv with
      | cons r2 hv =>
        cases rs with
        | cons q1 rs =>
          cases rs with
          | cons q2 rs =>
            rename_i d1 ds1 d2 ds2
            unfold mkDict at hm
            obtain ⟨_, st2, hs, hm⟩ := bind_ok hm
            unfold setItemV at hs
            simp only [hg] at hs
            split at hs
            · rename_i hc
              cases hs
              simp only [Bool.and_eq_true, decide_eq_true_eq] at hc
              unfold storeAll
              rw [List.forIn_cons]
              refine wpAny_bind (wpAny_bind (dct_put2 I hu S ha hg hc.1 (by rw [← line_eq]; exact hc.2) q1 r1 q2 r2 fun H' s' I' stp S' => wpAny_pure ?_))
              exact store_pairs hu ha ws _ _ H' _ s' I' S' ⟨_, set_dct hg⟩ (Reps.mono S stp _ _ rs) hv hm fun H2 s2 I2 stp2 => h H2 s2 I2 (stp.trans stp2)
            · cases hs
/-- the pairs of a display -/
structure PPd (m : Md) (E : XK) (X : Cx) (pos : Pos) (keys : List (Option Expr)) (values : List Expr) (ys : Xs) : Prop where
  run : ∀ (pins : List (Addr × Obj)) (s : Shared) (σ : L2.St) (H : Hp) (Q : List V → Hp → Prop), Inv X pins σ H s → tEvX m E X ys σ H Q →
    wpAny (model X.prog X.w) X.A (evalPairs (pairTrees keys values X.env pos)) (fun ws s' => ∃ vs H', Inv X pins σ H' s' ∧ Vals vs (flatP ws) ∧ Q vs H') X.xe s
theorem ppd_nil : PPd m E X pos [] [] .nil := ⟨fun pins s σ H Q I ⟨ρ, env, st, he, S, hf⟩ => pairTrees_nil_walk ⟨[], H, I, .nil, by simp only [evX] at hf; exact hf.now S .nil⟩⟩
theorem ppd_cons {k v : Expr} {ks : List (Option Expr)} {vs : List Expr} {x y : Ex} {ys : Xs} (hk : PE X k (tEv m E X x)) (hv : PE X v (tEv m E X y)) (hr : PPd m E X pos ks vs ys) :
    PPd m E X pos (some k :: ks) (v :: vs) (.cons false x (.cons false y ys)) := ⟨fun pins s σ H Q I ⟨ρ, env, st, he, S, hf⟩ => by
  simp only [evX, if_false, Bool.false_eq_true, bind_assoc] at hf
  refine pairTrees_cons_walk (thn (hk.run pins s σ H (fun v H1 => ∃ ρ1 st1 d, Step ρ H ρ1 H1 ∧ Rel m X ρ1 H1 st1 ∧ Rep X.K ρ1 H1 d v ∧ Fin m E X ρ1 H1 ((evE m.T m.F m.call y env st1).bind fun d2 s2 => (evX m.T m.F m.call ys env s2).bind fun dr s3 => .ok (d :: d2 :: dr) s3) (rDs X) Q) I ⟨ρ, env, st, he, S, hf.bind fun d st1 ρ1 H1 v s1 S1 r1 hf1 => ⟨ρ1, st1, d, s1, S1, r1, hf1⟩⟩) fun u s1 ⟨xv, H1, I1, rx, ρ1, st1, d, stp1, S1, r1, hf1⟩ => ?_)
  refine thn (hv.run pins s1 σ H1 (fun v H2 => ∃ ρ2 st2 d2, Step ρ1 H1 ρ2 H2 ∧ Rel m X ρ2 H2 st2 ∧ Rep X.K ρ2 H2 d2 v ∧ Fin m E X ρ2 H2 ((evX m.T m.F m.call ys env st2).bind fun dr s3 => .ok (d :: d2 :: dr) s3) (rDs X) Q) I1 ⟨ρ1, env, st1, he.mono S stp1, S1, hf1.bind fun d st1 ρ1 H1 v s1 S1 r1 hf1 => ⟨ρ1, st1, d, s1, S1, r1, hf1⟩⟩) fun w2 s2 ⟨yv, H2, I2, ry, ρ2, st2, d2, stp2, S2, r2, hf2⟩ => ?_
  refine thn (hr.run pins s2 σ H2 (fun vs H3 => Q (xv :: yv :: vs) H3) I2 ⟨ρ2, env, st2, (he.mono S stp1).mono S1 stp2, S2, hf2.bind fun dr st3 ρ3 H3 vs s3 S3 r3 hf3 => ?_⟩) fun ws s3 ⟨vs, H3, I3, rel, q3⟩ => ⟨xv :: yv :: vs, H3, I3, .cons rx (.cons ry rel), q3⟩
  exact hf3.now S3 (.cons (Rep.mono S1 (stp2.trans s3) _ _ r1) (.cons (Rep.mono S2 s3 _ _ r2) r3))⟩
theorem SRel.adoptO {nm : Nm} {P : Program} {w : World} {K : PySem.W.Frag} {st : Store} (S : SRel nm P w K ρ H st) {p : Addr} {ob : Ob} (hp : p ∉ ρ) (hnc : ∀ φ, H p ≠ some (.ext φ)) (r : ORep nm P w K (ρ ++ [p]) H ob p) : SRel nm P w K (ρ ++ [p]) H (st.add ob) := by
  refine ⟨?_, ?_, fun n a ha => ?_, S.ct.imp fun d v => Rep.mv ext_app (fun _ _ z => z) (fun c q hc hn => ⟨hc, fun z => by
      rcases List.mem_append.mp z with z | z
      · exact hn z
      · rw [List.mem_singleton.mp z] at hc; exact hnc _ hc⟩) d v⟩
  · rw [List.nodup_append]
    refine ⟨S.nd, by simp, fun a ha b hb => ?_⟩
    simp at hb
    subst hb
    exact fun e => hp (e ▸ ha)
  · rw [Store.add_sz, S.sz]; simp
  · rcases get_app ha with ⟨hl, ha⟩ | ⟨rfl, rfl⟩
    · obtain ⟨o, g, q⟩ := S.ob n a ha
      exact ⟨o, by rw [Store.get_add_ne (by rw [S.sz]; omega)]; exact g, ORep.mv ext_app (fun _ _ z => z) (fun c q hc hn => ⟨hc, fun z => by
        rcases List.mem_append.mp z with z | z
        · exact hn z
        · rw [List.mem_singleton.mp z] at hc; exact hnc _ hc⟩) rfl q⟩
    · exact ⟨ob, by rw [← S.sz]; exact Store.get_add_self, r⟩
theorem mkDict_noexc : ∀ (ds : List D) (n : Nat) (st : Store) (c : Nat) (x : D) (s' : Store), mkDict ds n st ≠ .exc c x s'
  | [], _, _, _, _, _ => by simp [mkDict]
  | [_], _, _, _, _, _ => by simp [mkDict]
  | k :: v :: r, n, st, c, x, s' => fun h => by
    unfold mkDict at h
    cases hs : setItemV (.ref n) k v st with
    | ok a s1 => rw [hs] at h; exact mkDict_noexc r n s1 c x s' h
    | exc c1 x1 s1 =>
      unfold setItemV at hs
      simp only at hs
      split at hs
      · split at hs
        · split at hs <;> cases hs
        · cases hs
      · split at hs <;> cases hs
      · cases hs
    | stuck => rw [hs] at h; cases h
theorem se_dct {keys : List (Option Expr)} {values : List Expr} {ys : Xs} (hu : X.A.units + 65 < cLine) (h : PPd m E X pos keys values ys) (hall : keys.all (·.isSome) = true) (hl : keys.length = values.length) (h0 : keys ≠ []) (h15 : keys.length ≤ 15) : PE X (.Dict keys values pos) (tEv m E X (.dct ys)) := by
  refine ⟨fun pins s σ H Q I ⟨ρ, env, st, he, S, hf⟩ => ?_⟩
  simp only [evE] at hf
  have hn := I.hok.fresh (Nat.le_refl s.heap.objs.size)
  have I1 := I.laid (a := s.heap.objs.size) (o := .dK []) (h' := s.heap.push { cls := .type "dict", data := .dict #[] }) (t' := s.toks) (fun _ _ q => Heap.get?_push_of_some _ q) (Nat.le_refl _) (dk_empty s.heap I.big)
  have hbig : (s.heap.objs.size == sysModules) = false := beq_eq_false_iff_ne.mpr (Ne.symm (Nat.ne_of_lt I.big))
  generalize hD : s.heap.objs.size = D at hn I1 hbig
  obtain ⟨S1, s1⟩ := SRel.other (o := .dK []) S hn
  have hnD : D ∉ ρ := fun z => S.live z hn
  refine wpAny_Dict_any hall hl h0 h15 (thn (h.run pins _ σ _ (fun vs H2 => ∃ ρ2 st2 ds, Step ρ (upd H D (.dK [])) ρ2 H2 ∧ Rel m X ρ2 H2 st2 ∧ Reps X.K ρ2 H2 ds vs ∧ Fin m E X ρ H (mkDict ds st2.sz (st2.add (.dct false []))) (rD X) Q) (hD ▸ I1) ⟨ρ, env, st, he.mono S s1, S1, ?_⟩) fun ws s2 ⟨vs, H2, I2, rel, ρ2, st2, ds, stp2, S2, rs, hfin⟩ => ?_)
  · cases hr : evX m.T m.F m.call ys env st with
    | ok ds st2 =>
      rw [hr] at hf
      exact fun ρ2 H2 vs s2 S2 r2 => ⟨ρ2, st2, ds, s2, S2, r2, hf⟩
    | exc c x s' =>
      rw [hr] at hf
      exact Fin.step (rep := rDs X) (r := .exc c x s') hf s1
    | stuck => rw [hr] at hf; exact hf.elim
  · obtain ⟨k1, k2⟩ := stp2.keep D _ upd_same hnD
    have hDg : (ρ2 ++ [D])[st2.sz]? = some D := by rw [S2.sz, List.getElem?_append_right (Nat.le_refl _)]; simp
    have S3 := S2.adoptO (ob := .dct false []) k2 (fun φ z => by rw [k1] at z; cases z) ⟨Nat.zero_le _, hbig, .inl ⟨[], k1, .nil⟩⟩
    cases hmk : mkDict ds st2.sz (st2.add (.dct false [])) with
    | stuck => rw [hmk] at hfin; exact hfin.elim
    | exc c x s' => exact absurd hmk (mkDict_noexc _ _ _ _ _ _)
    | ok dF stF =>
      rw [hmk] at hfin
      rw [hD]
      refine store_pairs hu hDg ws ds vs H2 _ s2 I2 S3 ⟨[], by exact Store.get_add_self⟩ (Reps.mv ext_app (fun _ _ z => z) (fun c φ hc hn => ⟨hc, fun z => by
        rcases List.mem_append.mp z with z | z
        · exact hn z
        · rw [List.mem_singleton.mp z, k1] at hc; cases hc⟩) _ _ rs) rel hmk fun H3 s3 I3 stp3 S4 hdF => ?_
      subst hdF
      refine ⟨.ref D, H3, I3, rfl, hfin (ρ2 ++ [D]) H3 (.ref D) ⟨fun n a h => ext_app n a ((s1.trans stp2).ext n a h), fun a o h hna => ?_, fun a o u h => stp3.frz a o u ((s1.trans stp2).frz a o u h)⟩ S4 (.ref hDg)⟩
      obtain ⟨q1, q2⟩ := (s1.trans stp2).keep a o h hna
      have hne : a ≠ D := fun z => by subst z; rw [hn] at h; cases h
      have hnot : a ∉ ρ2 ++ [D] := fun z => by
        rcases List.mem_append.mp z with z | z
        · exact q2 z
        · exact hne (by simpa using z)
      exact stp3.keep a o q1 hnot
/-- {} -/
theorem se_dct0 : PE X (.Dict [] [] pos) (tEv m E X (.dct .nil)) := by
  refine ⟨fun pins s σ H Q I ⟨ρ, env, st, he, S, hf⟩ => ?_⟩
  simp only [evE, evX, R.bind, mkDict] at hf
  have hbig : (s.heap.objs.size == sysModules) = false := beq_eq_false_iff_ne.mpr (Ne.symm (Nat.ne_of_lt I.big))
  refine wpAny_Dict_empty ⟨.ref s.heap.objs.size, _, I.laid (a := s.heap.objs.size) (o := .dK []) (t' := s.toks) (fun _ _ q => Heap.get?_push_of_some _ q) (Nat.le_refl _) (dk_empty s.heap I.big), rfl, ?_⟩
  have hn := I.hok.fresh (Nat.le_refl s.heap.objs.size)
  obtain ⟨S', s'⟩ := SRel.grow (H' := upd H s.heap.objs.size (.dK [])) (ob := .dct false []) S hn (fun a ha _ => upd_ne ha) (fun stp => ⟨Nat.zero_le _, hbig, .inl ⟨[], upd_same, .nil⟩⟩)
  refine hf _ _ _ s' S' (.ref ?_)
  rw [S.sz, List.getElem?_append_right (Nat.le_refl _)]
  simp
end
end VI
/-! VIu: comprehensions that make dicts. -/
namespace VI
open PySem PySem.Spec PyProof.Rows L2
variable [LL]
section
variable {m : Md} {E : XK} {X : Cx} {tg : Expr} {pos : Pos}
def dcB (T : Tbl) (F : Nat) (call : Caller) (own : List Nat) (t : Tg) (cond key val : Ex) (env : Env) (n : Nat) : D → Unit → Store → R Unit := fun d _ s' => match setTg t d (wipeE env own) with
  | some e => (evE T F call cond e s').bind fun x s' => (boolOf x s').bind fun b s' =>
      if b then (evE T F call key e s').bind fun x s' => (evE T F call val e s').bind fun y s' => putDct n x y s' else .ok () s'
  | none => .stuck
theorem lock_sz (l : Option (Nat × List (D × D))) (s : Store) : (lock l s).sz = s.sz := by cases l <;> rfl
/-- what is known once the walk begins -/
def DcR (m : Md) (E : XK) (X : Cx) (own : List Nat) (t : Tg) (cx kx vx : Ex) (σ : L2.St) (Q : VK) (J : It) (G : Hp) : Prop := ∃ (ρ1 : List Addr) (st1 : Store) (k2 : Itk) (ds2 : List D) (stF : Store) (env : Env), Rel m X ρ1 G st1 ∧ ERel X ρ1 G env σ ∧ ItOk m X k2 ds2 ρ1 G J ∧
  walk k2 ds2 (dcB m.T m.F m.call own t cx kx vx env st1.sz) m.F 0 () (st1.add (.dct false [])) = .ok () stF ∧ Fin m E X ρ1 G (.ok (.ref st1.sz) stF) (rD X) (unlQ X Q)
theorem dc_im {own : List Nat} {t : Tg} {k : Itk} {es : Xs} {cx kx vx : Ex} {σ : L2.St} {H : Hp} {Q : VK} (h : tEv m E X (.dc own t k es cx kx vx) σ H Q) : iEv m E X k es σ H (DcR m E X own t cx kx vx σ Q) := by
  obtain ⟨ρ, env, st, he, S, hf⟩ := h
  simp only [evE] at hf
  have hf' : Fin m E X ρ H (((evX m.T m.F m.call es env st).bind fun ds s => .ok (ds, s) s).bind fun p s => if startOk k p.1 s then R.unl (lockOf k p.1 s) ((walk (snap k p.1 s).1 (snap k p.1 s).2 (dcB m.T m.F m.call own t cx kx vx env s.sz) m.F 0 () ((lock (lockOf k p.1 s) s).add (.dct false []))).noexc.bind fun _ s' => .ok (.ref s.sz) s') else .stuck) (rD X) Q := by
    rw [bind_assoc]; exact hf
  refine ⟨ρ, env, st, he, S, hf'.bind fun p st1 ρ1 H1 vs s1 S1 r1 hf1 => ?_⟩
  have hst : startOk k p.1 st1 = true := by
    cases hz : startOk k p.1 st1 with
    | true => rfl
    | false => simp only [hz] at hf1; exact hf1.elim
  simp only [hst, if_true] at hf1
  have hnb : itAt (snap k p.1 st1).1 (snap k p.1 st1).2 0 (lock (lockOf k p.1 st1) st1) ≠ .bad := fun z => by
    unfold startOk at hst
    rw [z] at hst
    cases hst
  have hwok : ∃ stF, walk (snap k p.1 st1).1 (snap k p.1 st1).2 (dcB m.T m.F m.call own t cx kx vx env st1.sz) m.F 0 () ((lock (lockOf k p.1 st1) st1).add (.dct false [])) = .ok () stF := by
    cases hw : walk (snap k p.1 st1).1 (snap k p.1 st1).2 (dcB m.T m.F m.call own t cx kx vx env st1.sz) m.F 0 () ((lock (lockOf k p.1 st1) st1).add (.dct false [])) with
    | ok a s => exact ⟨s, rfl⟩
    | exc c x s => rw [hw] at hf1; exact hf1.elim
    | stuck => rw [hw] at hf1; exact hf1.elim
  obtain ⟨stF, hw⟩ := hwok
  refine ⟨ρ1, st1, p.1, s1, S1, r1, hnb, fun J G hL hJ => ?_⟩
  obtain ⟨S2, s2⟩ := lk_rel S1 hL
  rw [hw] at hf1
  have hf1 : Fin m E X ρ1 G (.ok (.ref st1.sz) stF) (rD X) (unlQ X Q) := fin_unl S1 hL (fun ρ' H' H'' a b h r => h a b r) hf1
  have hz := lock_sz (lockOf k p.1 st1) st1
  rw [← hz] at hw hf1
  exact ⟨ρ1, _, _, _, stF, env, S2, (he.mono S s1).mono S1 s2, hJ, hw, hf1⟩
/-- the comprehension runs: D, the new dict, stands in the store -/
theorem dc_run {pins : List (Addr × Obj)} {s : Shared} {σ : L2.St} {H : Hp} {Q : VK} {ky vl iter : Expr} {ifs : List Expr} {scope : Scope} {own : List (Str × Nat)} {t : Tg} {k : Itk} {es : Xs} {cx kx vx : Ex} {pos' : Pos} {use : Option (Value → Sem Unit)} {Qf : Value → Shared → Prop}
    (ho : ∀ i ∈ tgNames t, i ∈ own.map (·.2)) (hu : X.A.units + 65 < cLine) (hc : X.calm = true) (hN : X.N.Nodup) (inv : Inv X pins σ H s) (hi : PI X tg iter (iEv m E X k es)) (ok : BlkOk X.N X.env.scope scope own)
    (hb : ∀ (s : Shared) (H : Hp) (C : Addr) (cl : List (Str × Addr)) (fp : List Addr), TgOk (X.blk s H scope (compEnvC scope cl C X.env) fp) tg t ∧ LcT (X.blk s H scope (compEnvC scope cl C X.env) fp) m ifs cx ∧ PE (X.blk s H scope (compEnvC scope cl C X.env) fp) ky (tEv m noE (X.blk s H scope (compEnvC scope cl C X.env) fp) kx) ∧ PE (X.blk s H scope (compEnvC scope cl C X.env) fp) vl (tEv m noE (X.blk s H scope (compEnvC scope cl C X.env) fp) vx))
    (hs : ∀ x, foldedSetIterable iter X.env x = pure x) (h : tEv m E X (.dc (own.map (·.2)) t k es cx kx vx) σ H Q)
    (hR : ∀ D C s' mm H', Inv X pins σ H' s' → unlQ X Q (.ref D) H' → s'.heap.Ns C mm → FpOk X pins H' C → compPost (model X.prog X.w) X.A X.xe use Qf (.ref D) C (.ok .next) s') :
    wpAny (model X.prog X.w) X.A (comprehension (.DictComp ky vl [⟨tg, iter, ifs, 0⟩] scope pos) scope X.env pos' newDict false (eval iter X.env) use) Qf X.xe s := by
  have frees : ∀ y ∈ scope.names, y.2 = .free → ∃ c, X.env.cells.lookup y.1 = some c := fun y hy e => (ok.free y hy e).elim (fun z => inv.ok.has _ (.inl z)) fun z => inv.ok.has _ (.inr z)
  refine wpAny_comprehension_free (use := use) rfl hs (closure_ok frees) ok.kind (fun y hy e => by rw [ok.uniq y hy, e]) (thn (hi.run pins s σ H _ inv (dc_im h)) fun _ _ hx => thn hx fun itv sa ha => ?_)
  obtain ⟨it, fp, tn, J, G, rfl, inva, T, sta, fa, ρ1, st1, k2, ds2, stF, env, S1, he1, hJ, hw, hfin⟩ := ha
  refine wpAny_newObj_type (newEnv_comp ?_)
  generalize hD : sa.heap.objs.size = D
  have hDn : G D = none := inva.hok.fresh (Nat.le_of_eq hD)
  generalize hsb : ({ sa with heap := sa.heap.push { cls := .type "dict", data := .dict #[] } } : Shared) = sb
  have hbh : sb.heap = sa.heap.push { cls := .type "dict", data := .dict #[] } := by rw [← hsb]
  have big : (D == sysModules) = false := beq_eq_false_iff_ne.mpr (Ne.symm (Nat.ne_of_lt (hD ▸ inva.big)))
  have invb : Inv X pins σ (upd G D (.dK [])) sb := by
    rw [← hsb]
    refine inva.laid (t' := sa.toks) (fun b o e => Heap.get?_push_of_some _ e) (Nat.le_of_eq hD) ?_
    rw [← hD]
    exact dk_empty sa.heap inva.big
  obtain ⟨S2, stp2⟩ := SRel.grow (H' := upd G D (.dK [])) (ob := .dct false []) S1 hDn (fun a ha _ => upd_ne ha) (fun _ => ⟨Nat.zero_le _, big, .inl ⟨[], upd_same, .nil⟩⟩)
  have hDi : (ρ1 ++ [D])[st1.sz]? = some D := by rw [S1.sz, List.getElem?_append_right (Nat.le_refl _)]; simp
  have he2 : ERel X (ρ1 ++ [D]) (upd G D (.dK [])) env σ := he1.mono S1 stp2
  have young : ∀ b ∈ fp, b < sa.heap.objs.size := fun b hb => let ⟨o, e, _⟩ := T.obj _ _ sta b hb; Heap.lt_size e
  have fb : ∀ b ∈ fp, FpOk X pins (upd G D (.dK [])) b ∧ b < sb.heap.objs.size := fun b hb => by
    refine ⟨⟨?_, (fa b hb).2⟩, by rw [hbh, Heap.size_push]; exact Nat.lt_succ_of_lt (young b hb)⟩
    rw [upd_ne (fun z => Nat.lt_irrefl _ (by have := young b hb; rw [z, ← hD] at this; exact this))]
    exact (fa b hb).1
  have stb : tn 0 sb.heap := T.keep _ _ _ sta fun b _ o e => by rw [hbh]; exact Heap.get?_push_of_some _ e
  have invc := block_start invb ok hN fb
  obtain ⟨b1, b2, b3, b4⟩ := hb sb (upd G D (.dK [])) sb.heap.objs.size (cellsFrom (sb.heap.objs.size + 1) scope.names (cloFrom X.env.cells scope.names [])) fp
  show codeAny _ _ (.compStart (.DictComp ky vl [⟨tg, iter, ifs, 0⟩] scope pos) 0 (.ref it) (.ref D) (compEnvC scope (cellsFrom (sb.heap.objs.size + 1) scope.names (cloFrom X.env.cells scope.names [])) sb.heap.objs.size X.env)) (compPost (model X.prog X.w) X.A X.xe use Qf (.ref D) sb.heap.objs.size) { sb with heap := pushCells (sb.heap.push { cls := .type "dict", data := .dict #[] }) scope.names }
  have fpn : ∀ b ∈ fp, (upd G D (.dK [])) b = none := fun b hb => (fb b hb).1.1
  generalize hce : compEnvC scope (cellsFrom (sb.heap.objs.size + 1) scope.names (cloFrom X.env.cells scope.names [])) sb.heap.objs.size X.env = ce at invc b1 b2 b3 b4 ⊢
  have hcl : ce.locals = sb.heap.objs.size := by subst hce; rfl
  generalize hG2 : upd G D (.dK []) = G2 at invb invc b1 b2 b3 b4 S2 stp2 he2 fpn fb
  generalize hsc : ({ sb with heap := pushCells (sb.heap.push { cls := .type "dict", data := .dict #[] }) scope.names } : Shared) = sc at invc ⊢
  have stc : tn 0 sc.heap := T.keep _ _ _ stb fun b _ o e => by rw [← hsc]; exact pushCells_keeps _ _ _ _ (Heap.get?_push_of_some _ e)
  let Y : Cx := X.blk sb G2 scope ce fp
  have fpY : ∀ {τ : L2.St} {K' : Hp} {s' : Shared}, Inv Y [] τ K' s' → (∀ b ∈ fp, K' b = none) → ∀ b ∈ fp, FpOk Y [] K' b := fun {τ K' s'} J' hn b hb =>
    ⟨hn b hb, (J'.ok.exf b hb).1, J'.ok.exfs b hb, .inl hb, fun x c e => (J'.ok.exf b hb).2 x c e, fun p hp => by cases (show p ∈ ([] : List (Addr × Obj)) from hp)⟩
  let W : Nat → Nat → Hp → Prop := fun i n K' => ∃ ρ st, Step (ρ1 ++ [D]) G2 ρ K' ∧ ERel X ρ K' (wipeE env (own.map (·.2))) (L2.wipe σ (own.map (·.2))) ∧ Rel m X ρ K' st ∧ walk k2 ds2 (dcB m.T m.F m.call (own.map (·.2)) t cx kx vx env st1.sz) n i () st = .ok () stF
  have w0 : W 0 m.F G2 := ⟨ρ1 ++ [D], _, Step.refl _ _, he2.wipe _, S2, hw⟩
  have loop : codeAny (model X.prog X.w) X.A (.compLoop (.DictComp ky vl [⟨tg, iter, ifs, 0⟩] scope pos) 0 (.ref it) (.ref D) ce) (compPost (model X.prog X.w) X.A X.xe use Qf (.ref D) sb.heap.objs.size) sc := by
    refine compLoop_anyD (fun n s' => ∃ i K', Inv Y [] (L2.wipe σ (own.map (·.2))) K' s' ∧ tn i s'.heap ∧ (∀ b ∈ fp, K' b = none) ∧ W i n K') ?_ m.F ⟨0, G2, invc, stc, fpn, w0⟩
    rintro n sd ⟨i, Hd, invd, std, nd, ρ, st, stp, he, S, hwk⟩
    have stp0 : Step ρ1 G ρ Hd := stp2.trans stp
    obtain ⟨j1, j2⟩ := hJ i ρ Hd st stp0.toI S
    cases n with
    | zero => cases hwk
    | succ n =>
      unfold walk at hwk
      cases hx : itAt k2 ds2 i st with
      | bad => rw [hx] at hwk; cases hwk
      | stop =>
        rw [hx] at hwk
        cases hwk
        refine thnF (T.done Y rfl rfl rfl hc i [] sd _ Hd (fun _ _ => False) invd (fpY invd nd) std (j1 hx)) fun r se ⟨hr, inve⟩ => ?_
        subst hr
        have invf : Inv X pins σ Hd se := invb.call' (ch := fp) inve.os inve.base inve.hok inve.bare fun b hb => let z := (fb b hb).1; ⟨z.2.2.2.1, z.2.1, z.2.2.2.2.1, z.2.2.2.2.2⟩
        have hnl : Hd sb.heap.objs.size = none := by
          have z : Hd ce.locals = none := inve.free
          rw [← hcl]; exact z
        obtain ⟨mm, hns, _⟩ := inve.loc
        have hns : se.heap.Ns ce.locals mm := hns
        rw [hcl] at hns
        exact hR D sb.heap.objs.size se mm Hd invf (hfin ρ Hd (.ref D) stp0 S (.ref (stp.ext _ _ hDi))) hns (invb.fpOk (Nat.le_refl _) hnl)
      | item d =>
        rw [hx] at hwk
        obtain ⟨g1, g2⟩ := j2 d hx
        obtain ⟨_, st', hbd, hwk⟩ := bind_ok hwk
        refine thnF (T.item Y rfl rfl rfl hc i [] sd _ Hd (fun _ _ => False) invd (fpY invd nd) std g1) fun r se ⟨uv, hr, h6⟩ => ?_
        subst hr
        refine thnF h6 fun _ sf ⟨xv, Hf, invf, rf, yf, stf, nf⟩ => ?_
        obtain ⟨Sf, stpf, repf⟩ := g2 xv Hf yf
        have invp := invf.pinned (fpY invf nf) (T.obj _ _ stf)
        cases ht : setTg t d (wipeE env (own.map (·.2))) with
        | none =>
          simp only [dcB, ht] at hbd
          cases hbd
        | some e =>
          simp only [dcB, ht] at hbd
          rw [bind_bool] at hbd
          obtain ⟨bb, st3, hb1, hb2⟩ := bind_ok hbd
          have hebl : ∀ {ρ' : List Addr} {K' : Hp} {ev : Env} {τ : L2.St}, ERel X ρ' K' ev τ → ERel Y ρ' K' ev τ := fun r => ⟨r.len, r.at_⟩
          refine thnF ((pg_tg (X := Y) hN hc b1).run _ sf _ Hf xv uv (fun τ K' => K' = Hf ∧ ERel X ρ K' e τ ∧ L2.wipe τ (own.map (·.2)) = L2.wipe σ (own.map (·.2))) invp rf (gTg_ok (X := Y) (hebl (he.mono S stpf)) repf ht fun τ he' hwp => ⟨rfl, ⟨he'.len, he'.at_⟩, (hwp _ ho).trans (wipe_twice σ _)⟩)) fun _ sg ⟨τ, Hg, invg, hHg, heg, hwg⟩ => ?_
          subst hHg
          -- the end of a turn
          have fin : ∀ {s' : Shared} {K' : Hp}, Inv Y ([] ++ pinsAt fp sf.heap) τ K' s' → W (i + 1) n K' → ∃ mm, mm < n + 1 ∧ ∃ i K', Inv Y [] (L2.wipe σ (own.map (·.2))) K' s' ∧ tn i s'.heap ∧ (∀ b ∈ fp, K' b = none) ∧ W i mm K' := fun {s' K'} J' nx => by
            have pin' : ∀ b ∈ fp, ∀ o, sf.heap.get? b = some o → s'.heap.get? b = some o ∧ K' b = none := fun b hb o e =>
              let z := J'.pin (b, o) (List.mem_append_right _ (List.mem_append_right _ (mem_pinsAt hb e)))
              ⟨z.1, z.2.1⟩
            have hl : (L2.wipe σ (own.map (·.2))).length = τ.length := by rw [← hwg, wipe_length]
            refine ⟨n, Nat.lt_succ_self _, i + 1, K', (J'.unpinned (pins := [])).weak hl (fun j v e => by rw [← hwg] at e; exact (wipe_some e).1), T.keep _ _ _ stf fun b hb o e => (pin' b hb o e).1, fun b hb => ?_, nx⟩
            obtain ⟨o, e, _⟩ := T.obj _ _ stf b hb
            exact (pin' b hb o e).2
          refine thnF ((lct_ok b2).run _ sg τ Hg (fun b K' => b = bb ∧ ∃ ρ', Step ρ Hg ρ' K' ∧ Rel m X ρ' K' st3) invg ⟨ρ, e, st, hebl heg, Sf, ?_⟩) fun b sh ⟨Hh, invh, hbb, ρh, stph, Sh⟩ => ?_
          · rw [hb1]
            intro ρ3 H3 b' s3 S3 r3
            cases r3
            exact ⟨rfl, ρ3, s3, S3⟩
          subst hbb
          cases b with
          | false =>
            rw [if_neg Bool.false_ne_true] at hb2
            cases hb2
            simp only [Bool.false_eq_true, if_false]
            exact fin invh ⟨ρh, _, (stp.trans stpf).trans stph, he.mono S (stpf.trans stph), Sh, hwk⟩
          | true =>
            rw [if_pos rfl] at hb2
            obtain ⟨kd, st4, hk1, hb2⟩ := bind_ok hb2
            obtain ⟨vd, st5, hv1, hb2⟩ := bind_ok hb2
            simp only [if_true]
            refine thnF (b3.run _ sh τ Hh (fun kv K' => ∃ ρ', Step ρh Hh ρ' K' ∧ Rel m X ρ' K' st4 ∧ Rep X.K ρ' K' kd kv) invh ⟨ρh, e, st3, hebl (heg.mono Sf stph), Sh, ?_⟩) fun kw si ⟨kv, Hi, invi, rki, ρi, stpi, Si, repi⟩ => ?_
            · rw [hk1]
              exact fun ρ' K' v s4 S4 r4 => ⟨ρ', s4, S4, r4⟩
            refine thnF (b4.run _ si τ Hi (fun vv K' => ∃ ρ', Step ρi Hi ρ' K' ∧ Rel m X ρ' K' st5 ∧ Rep X.K ρ' K' vd vv) invi ⟨ρi, e, st4, hebl ((heg.mono Sf stph).mono Sh stpi), Si, ?_⟩) fun vw sj ⟨vv, Hj, invj, rvj, ρj, stpj, Sj, repj⟩ => ?_
            · rw [hv1]
              exact fun ρ' K' v s4 S4 r4 => ⟨ρ', s4, S4, r4⟩
            have hst := ((stp.trans stpf).trans stph).trans (stpi.trans stpj)
            unfold putDct at hb2
            split at hb2
            · rename_i kvs g
              split at hb2
              · rename_i hk
                cases hb2
                simp only [Bool.and_eq_true, decide_eq_true_eq] at hk
                refine dct_put2 (X := Y) invj hu Sj (hst.ext _ _ hDi) g hk.1 (by rw [← line_eq]; exact hk.2) (Rep.mono Si stpj _ _ repi) rki repj rvj fun K' s' J' stp' S' => fin J' ⟨ρj, _, hst.trans stp', ?_, S', hwk⟩
                exact ((he.mono S (stpf.trans stph)).mono Sh (stpi.trans stpj)).mono Sj stp'
              · cases hb2
            · cases hb2
  exact codeAny_compStart_dict loop (T.self X.A 0 _ _ _ stc loop)
/-- behind the comprehension's own frame -/
theorem unl_end {pins : List (Addr × Obj)} {σ : L2.St} {H : Hp} {s : Shared} {h' : Heap} {C : Addr} {α : Type} {P : α → Hp → Prop} {a : α} (inv : Inv X pins σ H s) (f : FpOk X pins H C) (sb : Heap.SameBut C s.heap h') (q : unlQ X P a H) : ∃ H', Inv X pins σ H' { s with heap := h' } ∧ P a H' := by
  obtain ⟨f0, f1, f2, f3, f4, f5⟩ := f
  have inv' : Inv X pins σ H { s with heap := h' } := inv.turned (t' := s.toks) (fun b o hb e => (sb.2 b hb).trans e) f0 f1 f3 f4 f5
  rcases q with q | ⟨d, od, u, e, nf, q⟩
  · exact ⟨H, inv', q⟩
  · exact ⟨_, inv'.unlock e nf, q⟩
theorem se_dc {ky vl iter : Expr} {ifs : List Expr} {scope : Scope} {own : List (Str × Nat)} {t : Tg} {k : Itk} {es : Xs} {cx kx vx : Ex}
    (ho : ∀ i ∈ tgNames t, i ∈ own.map (·.2)) (hu : X.A.units + 65 < cLine) (hc : X.calm = true) (hN : X.N.Nodup) (hi : PI X tg iter (iEv m E X k es)) (ok : BlkOk X.N X.env.scope scope own)
    (hb : ∀ (s : Shared) (H : Hp) (C : Addr) (cl : List (Str × Addr)) (fp : List Addr), TgOk (X.blk s H scope (compEnvC scope cl C X.env) fp) tg t ∧ LcT (X.blk s H scope (compEnvC scope cl C X.env) fp) m ifs cx ∧ PE (X.blk s H scope (compEnvC scope cl C X.env) fp) ky (tEv m noE (X.blk s H scope (compEnvC scope cl C X.env) fp) kx) ∧ PE (X.blk s H scope (compEnvC scope cl C X.env) fp) vl (tEv m noE (X.blk s H scope (compEnvC scope cl C X.env) fp) vx))
    (hs : ∀ x, foldedSetIterable iter X.env x = pure x) : PE X (.DictComp ky vl [⟨tg, iter, ifs, 0⟩] scope pos) (tEv m E X (.dc (own.map (·.2)) t k es cx kx vx)) := by
  refine ⟨fun pins s σ H Q inv h => ?_⟩
  rw [arm_eval_DictComp]
  refine dc_run ho hu hc hN inv hi ok hb hs h fun D C s' mm H' inv' q hn f => ⟨mm, hn, fun h'' sb => ?_⟩
  obtain ⟨H2, inv2, q2⟩ := unl_end inv' f sb q
  exact ⟨.ref D, H2, inv2, rfl, q2⟩
/-- name = {..} on one line -/
theorem ss_setDc {i : Nat} {w : Str} {py pos' : Pos} {ky vl iter : Expr} {ifs : List Expr} {scope : Scope} {own : List (Str × Nat)} {t : Tg} {k : Itk} {es : Xs} {cx kx vx : Ex}
    (ho : ∀ i ∈ tgNames t, i ∈ own.map (·.2)) (hu : X.A.units + 65 < cLine) (hc : X.calm = true) (hN : X.N.Nodup) (hy : X.N[i]? = some w) (hyl : X.env.scope.names.lookup w = some .local)
    (hsw : swapsWith (.DictComp ky vl [⟨tg, iter, ifs, 0⟩] scope pos') (some (.Name w py)) pos.line X.env = pure true) (hi : PI X tg iter (iEv m E X k es)) (ok : BlkOk X.N X.env.scope scope own)
    (hb : ∀ (s : Shared) (H : Hp) (C : Addr) (cl : List (Str × Addr)) (fp : List Addr), TgOk (X.blk s H scope (compEnvC scope cl C X.env) fp) tg t ∧ LcT (X.blk s H scope (compEnvC scope cl C X.env) fp) m ifs cx ∧ PE (X.blk s H scope (compEnvC scope cl C X.env) fp) ky (tEv m noE (X.blk s H scope (compEnvC scope cl C X.env) fp) kx) ∧ PE (X.blk s H scope (compEnvC scope cl C X.env) fp) vl (tEv m noE (X.blk s H scope (compEnvC scope cl C X.env) fp) vx))
    (hs : ∀ x, foldedSetIterable iter X.env x = pure x) : PS X (.Assign [.Name w py] (.DictComp ky vl [⟨tg, iter, ifs, 0⟩] scope pos') pos) (tSt m E X (.asg (.nm i) (.dc (own.map (·.2)) t k es cx kx vx))) := by
  refine ⟨fun pins s σ H Dn inv ⟨ρ, env, st, hen, S, hf⟩ => ?_⟩
  simp only [exS, asgI] at hf
  have h : tEv m E X (.dc (own.map (·.2)) t k es cx kx vx) σ H (fun v H1 => Dn.nx (σ.set i (some v)) H1) := ⟨ρ, env, st, hen, S, hf.bind fun d st1 ρ1 H1 v s1 S1 r1 hf1 => Fin.nx hf1 S1 ((hen.mono S s1).set r1)⟩
  rw [exec_Assign_Name_used _ _ _ _ hsw]
  refine wpAny_bind (wpAny_standAt (wpAny_bind ?_))
  show wpAny _ X.A (do let _ ← comprehension (.DictComp ky vl [⟨tg, iter, ifs, 0⟩] scope pos') scope X.env (firstIterPos [⟨tg, iter, ifs, 0⟩] pos') newDict false (eval iter X.env) (some (assign (.Name w py) X.env))) _ _ s
  refine wpAny_bind (thn (dc_run (Qf := fun _ s' => SP X pins Dn .next s') ho hu hc hN inv hi ok hb hs h fun L C s' mm H' inv' q hn f => ?_) fun _ s' hq => wpAny_pure (wpAny_pure hq))
  show wpAny _ _ (assign (.Name w py) X.env (.ref L)) _ _ _
  refine wpAny_assign_Name (store_ok2 (v := V.ref L) inv' hN hy (.inl hyl) rfl (fun s2 inv2 ⟨a, sb, ha⟩ => ?_) (.inr hyl))
  have haC : C ≠ a := by
    rcases ha with z | z
    · rw [z]; exact f.2.1
    · exact fun e => f.2.2.2.2.1 w a z e.symm
  refine ⟨mm, hn.sameBut sb haC, fun h3 sb3 => ?_⟩
  obtain ⟨H2, inv3, q2⟩ := unl_end (P := fun v H1 => Dn.nx (σ.set i (some v)) H1) inv2 f sb3 q
  exact ⟨_, H2, inv3, q2⟩
end
end VI
/-! VIv: instances: made, read, written, asked. -/
namespace VI
open PySem PySem.Spec PyProof.Rows L2
variable [LL]
theorem nodup_at {N : List Str} (nd : N.Nodup) {i j : Nat} {x : Str} (h1 : N[i]? = some x) (h2 : N[j]? = some x) : i = j := by
  obtain ⟨a, e1⟩ := List.getElem?_eq_some_iff.mp h1
  obtain ⟨b, e2⟩ := List.getElem?_eq_some_iff.mp h2
  exact (List.getElem_inj nd).mp (e1.trans e2.symm)
section
variable {nm : Nm} {K : PySem.W.Frag} {ρ : List Addr} {H : Hp}
theorem frep_look (nd : nm.aN.Nodup) {n : Nat} {f : Str} (hf : nm.aN[n]? = some f) : ∀ {fs : List (Nat × D)} {fv : List (Str × V)} {d : D}, FRep nm K ρ H fs fv → lookF fs n = some d → ∃ v, fv.lookup f = some v ∧ Rep K ρ H d v
  | [], _, d, .nil, h => nomatch h
  | p :: fs, q :: fv, d, .cons h t, e => by
    unfold lookF at e
    by_cases hp : p.1 = n
    · rw [if_pos hp] at e
      cases e
      have hq : q.1 = f := by have := h.1; rw [hp, hf] at this; exact (Option.some.inj this).symm
      exact ⟨q.2, by obtain ⟨a, b⟩ := q; simp only at hq; subst hq; simp [List.lookup], h.2.2⟩
    · rw [if_neg hp] at e
      obtain ⟨v, h1, h2⟩ := frep_look nd hf t e
      have hq : q.1 ≠ f := fun z => hp (nodup_at nd (h.1.trans (congrArg some z)) hf)
      exact ⟨v, by obtain ⟨a, b⟩ := q; rw [List.lookup_cons]; rw [beq_eq_false_iff_ne.mpr (Ne.symm hq)]; exact h1, h2⟩
theorem frep_none (nd : nm.aN.Nodup) {n : Nat} {f : Str} (hf : nm.aN[n]? = some f) (hn : nm.nf ≤ n) : ∀ {fs : List (Nat × D)} {fv : List (Str × V)}, FRep nm K ρ H fs fv → fv.lookup f = none
  | [], _, .nil => rfl
  | p :: fs, q :: fv, .cons h t => by
    have hq : q.1 ≠ f := fun z => by
      have := nodup_at nd (h.1.trans (congrArg some z)) hf
      have h2 := h.2.1
      omega
    obtain ⟨a, b⟩ := q
    rw [List.lookup_cons, beq_eq_false_iff_ne.mpr (Ne.symm hq)]
    exact frep_none nd hf hn t
theorem frep_put (nd : nm.aN.Nodup) {n : Nat} {f : Str} {d : D} {v : V} (hf : nm.aN[n]? = some f) (hn : n < nm.nf) (r : Rep K ρ H d v) : ∀ {fs : List (Nat × D)} {fv : List (Str × V)}, FRep nm K ρ H fs fv → FRep nm K ρ H (VI.putF fs n d) (L2.putF f v fv)
  | [], _, .nil => .cons ⟨hf, hn, r⟩ .nil
  | p :: fs, (a, b) :: fv, .cons h t => by
    unfold VI.putF L2.putF
    by_cases hp : p.1 = n
    · have hq : a = f := by have := h.1; rw [hp, hf] at this; exact (Option.some.inj this).symm
      rw [if_pos hp, if_pos hq]
      exact .cons ⟨by rw [hq]; exact hf, hn, r⟩ t
    · have hq : a ≠ f := fun z => hp (nodup_at nd (h.1.trans (congrArg some z)) hf)
      rw [if_neg hp, if_neg hq]
      exact .cons h (frep_put nd hf hn r t)
end
section
variable {m : Md} {E : XK} {X : Cx} {e a b o : Expr} {x y : Ex} {pos apos : Pos} {ρ : List Addr} {H : Hp} {st : Store}
theorem SRel.ins_at {nm : Nm} {P : Program} {w : World} {K : PySem.W.Frag} (S : SRel nm P w K ρ H st) {n c : Nat} {a : Addr} {fs : List (Nat × D)} (ha : ρ[n]? = some a) (g : st.get n = some (.ins c fs)) : ∃ C dx fv, nm.cA[c]? = some C ∧ H a = some (.ins C dx fv) ∧ FRep nm K ρ H fs fv := by
  obtain ⟨ob, g', r⟩ := S.ob n a ha
  rw [g] at g'; cases g'
  exact r
/-- e.f -/
theorem se_fld {n : Nat} {f : Str} (hcl : ClsOk m.nm X.K) (hf : m.nm.aN[n]? = some f) (hn : n < m.nm.nf) (he : PE X e (tEv m E X x)) (hb : attributeBase e f X.env (eval e X.env) = eval e X.env) : PE X (.Attribute e f pos) (tEv m E X (.fld x n)) :=
  imE (pe_fld he hb) fun σ H Q ⟨ρ, env, st, hen, S, hr⟩ => by
    simp only [evE] at hr
    refine ⟨ρ, env, st, hen, S, hr.bind fun d st1 ρ1 H1 v s1 S1 r1 hf1 => ?_⟩
    cases r1 with
    | ref ha =>
      simp only at hf1
      split at hf1
      · rename_i c fs g
        obtain ⟨dv, hd, hf1⟩ := Fin.opt hf1
        obtain ⟨C, dx, fv, hC, hH, fr⟩ := S1.ins_at ha g
        obtain ⟨v, h1, h2⟩ := frep_look hcl.nd hf fr hd
        exact ⟨_, C, dx, fv, v, rfl, hH, (hcl.at_ _ _ hC).1, hcl.noat _ _ _ _ hC hn hf, h1, hf1.now S1 h2⟩
      · exact hf1.elim
    | _ => exact hf1.elim
/-- e.f = value -/
theorem ss_fld {n : Nat} {f : Str} {value : Expr} {pos' : Pos} (hcl : ClsOk m.nm X.K) (hf : m.nm.aN[n]? = some f) (hn : n < m.nm.nf) (ho : PE X o (tEv m E X x)) (hv : PE X value (tEv m E X y)) (hs : swapsWith value (some (.Attribute o f pos')) pos.line X.env = pure false) :
    PS X (.Assign [.Attribute o f pos'] value pos) (tSt m E X (.asg (.fld x n) y)) :=
  imS (ps_fld ho hv hs) fun D σ H ⟨ρ, env, st, hen, S, hr⟩ => by
    simp only [exS, asgI] at hr
    refine ⟨ρ, env, st, hen, S, hr.bind fun d st1 ρ1 H1 v s1 S1 r1 hf1 => ?_⟩
    rw [bind_assoc] at hf1
    refine ⟨ρ1, env, st1, hen.mono S s1, S1, hf1.bind fun d2 st2 ρ2 H2 v2 s2 S2 r2 hf2 => ?_⟩
    cases r2 with
    | ref ha =>
      simp only at hf2
      split at hf2
      · rename_i c fs g
        obtain ⟨C, dx, fv, hC, hH, fr⟩ := S2.ins_at ha g
        split at hf2
        · rename_i hl
          have hlen : fs.length = fv.length := paired_len fr
          have r2 := Rep.mono S1 s2 _ _ r1
          obtain ⟨S3, s3⟩ := SRel.change (H' := upd H2 _ (.ins C dx (L2.putF f v fv))) (ob := .ins c (VI.putF fs n d)) S2 ha (fun _ _ z => by rw [hH] at z; cases z) (fun b hb => upd_ne hb) fun stp => ⟨C, dx, _, hC, upd_same, frep_put hcl.nd hf hn (Rep.mono S2 stp _ _ r2) (paired_imp fr fun p q z => ⟨z.1, z.2.1, Rep.mono S2 stp _ _ z.2.2⟩)⟩
          exact ⟨_, C, dx, fv, rfl, hH, (hcl.at_ _ _ hC).1, hcl.noat _ _ _ _ hC hn hf, by omega, Fin.nx (Fin.step hf2 s3) S3 (((hen.mono S s1).mono S1 s2).mono S2 s3)⟩
        · exact hf2.elim
      · exact hf2.elim
    | _ => exact hf2.elim
/-- C(e, ..) -/
theorem make_ok {c np : Nat} {C : Addr} {k : Cl} {ds : List D} {vs : List V} {Q : VK} (hC : m.nm.cA[c]? = some C) (hk : m.T.cls[c]? = some k) (S : Rel m X ρ H st) (rs : Reps X.K ρ H ds vs) (hl : ds.length + 1 = np)
    (hf : Fin m E X ρ H (match m.T.cls[c]? with
      | some k => (m.call k.init (.ref st.sz :: ds) (st.add (.ins c []))).bind fun r s' => match r with
        | .non => .ok (.ref st.sz) s'
        | _ => .stuck
      | none => .stuck) (rD X) Q) :
    ∀ x dx, H x = none → H dx = none → dx ≠ x → spI m X.prog X.w X.K m.call k.init np (.ref x :: (vs ++ [])) (upd (upd H dx (.own x)) x (.ins C dx [])) (fun v H2 => v = .non ∧ Q (.ref x) H2) E := by
  intro x dx hx hdx hne
  rw [hk] at hf
  simp only at hf
  obtain ⟨S', s'⟩ := SRel.grow (H' := upd (upd H dx (.own x)) x (.ins C dx [])) (ob := .ins c []) S hx (fun a ha hn => by
    rw [upd_ne ha, upd_ne fun z => hn (by rw [z]; exact hdx)]) (fun _ => ⟨C, dx, [], hC, upd_same, .nil⟩)
  have hxi : (ρ ++ [x])[st.sz]? = some x := by rw [S.sz, List.getElem?_append_right (Nat.le_refl _)]; simp
  rw [List.append_nil]
  refine ⟨by rw [List.length_cons, ← rs.length]; exact hl, ρ ++ [x], _, .ref st.sz :: ds, S', .cons (.ref hxi) (Reps.mono S s' _ _ rs), ?_⟩
  refine Fin.k (Fin.bind (Fin.step hf s') fun d st1 ρ1 H1 v s1 S1 r1 hf1 => ?_)
  cases r1 with
  | non => exact ⟨rfl, hf1.now S1 (.ref (s1.ext _ _ hxi))⟩
  | _ => exact hf1.elim
theorem se_make {kk c : Nat} {C g : Addr} {k : Cl} {fd : FuncData} {ps : List Str} {w : Str} {es : List Expr} {ys : Xs} {p : Pos} (M : Mk X.K C g) (F : FnOk X.prog X.w X.K X.mg X.base (L2.CX X.prog X.w) kk g fd ps (spI m X.prog X.w X.K m.call k.init ps.length)) (hr : Room (kk + 1) X.A) (hC : m.nm.cA[c]? = some C) (hk : m.T.cls[c]? = some k)
    (hg : Gl X w) (hm : X.mg w = some (.ref C)) (hb : Binds X.K fd ps []) (hx : Passes (L2.CX X.prog X.w) X E) {n : Nat} (hl : ys.plain = some n) (hps : n + 1 = ps.length) (ha : PA X (e :: es) (tEvX m E X ys)) (hdb : (w == ("__debug__" : Str)) = false)
    (he : starEach (e :: es) X.env = (false, eval e X.env) :: starEach es X.env) (hpl : (backTo pos (starEach es X.env)).any (·.1) = false) : PE X (.Call (.Name w p) (e :: es) [] pos) (tEv m E X (.make c ys)) :=
  imE (pe_make M F hr hg hm hb .nil hx ha hdb he hpl) fun σ H Q ⟨ρ, env, st, hen, S, hf⟩ => by
    simp only [evE] at hf
    cases hr' : evX m.T m.F m.call ys env st with
    | ok ds st1 =>
      refine ⟨ρ, env, st, hen, S, ?_⟩
      rw [hr'] at hf ⊢
      intro ρ1 H1 vs s1 S1 r1
      exact make_ok hC hk S1 r1 (by rw [evX_len _ _ _ _ _ hl hr']; exact hps) (Fin.step hf s1)
    | exc c x' s' => rw [hr'] at hf; exact ⟨ρ, env, st, hen, S, by rw [hr']; exact hf⟩
    | stuck => rw [hr'] at hf; exact hf.elim
theorem se_make0 {kk c : Nat} {C g : Addr} {k : Cl} {fd : FuncData} {ps : List Str} {w : Str} {p : Pos} (M : Mk X.K C g) (F : FnOk X.prog X.w X.K X.mg X.base (L2.CX X.prog X.w) kk g fd ps (spI m X.prog X.w X.K m.call k.init ps.length)) (hr : Room (kk + 1) X.A) (hC : m.nm.cA[c]? = some C) (hk : m.T.cls[c]? = some k)
    (hg : Gl X w) (hm : X.mg w = some (.ref C)) (hb : Binds X.K fd ps []) (hx : Passes (L2.CX X.prog X.w) X E) (hps : 1 = ps.length) (hdb : (w == ("__debug__" : Str)) = false) : PE X (.Call (.Name w p) [] [] pos) (tEv m E X (.make c .nil)) :=
  imE (pe_make0 M F hr hg hm hb .nil hx hdb) fun σ H Q ⟨ρ, env, st, hen, S, hf⟩ => by
    simp only [evE, evX, R.bind] at hf
    exact make_ok hC hk S .nil (by simpa using hps) hf
/-- o.m(e, ..): the class is the instance's; what lacks is filled up -/
structure MethOk (m : Md) (X : Cx) (w : Str) (n : Nat) : Prop where
  nm : m.nm.aN[n]? = some w
  ge : m.nm.nf ≤ n
  at_ : ∀ (c : Nat) (C : Addr) (k : Cl) (p : Nat × List D), m.nm.cA[c]? = some C → m.T.cls[c]? = some k → k.ms.lookup n = some p → ∃ kk g fd ps dvs dus, Meth X.K C w g ∧ FnOk X.prog X.w X.K X.mg X.base (L2.CX X.prog X.w) kk g fd ps (spI m X.prog X.w X.K m.call p.1 ps.length) ∧ Room kk X.A ∧ Binds X.K fd ps dus ∧ Vals dvs dus ∧ (∀ ρ H, Reps X.K ρ H p.2 dvs) ∧
    ∀ as st, as.length ≠ ps.length → m.call p.1 as st = .stuck
theorem cls_at {d : D} {v : V} {c : Nat} (S : Rel m X ρ H st) (r : Rep X.K ρ H d v) (h : clsAt st d = some c) : ∃ n a C dx fs fv, d = .ref n ∧ v = .ref a ∧ ρ[n]? = some a ∧ m.nm.cA[c]? = some C ∧ H a = some (.ins C dx fv) ∧ FRep m.nm X.K ρ H fs fv := by
  cases r with
  | ref ha =>
    unfold clsAt at h
    simp only at h
    split at h
    · rename_i c' fs g
      cases h
      obtain ⟨C, dx, fv, hC, hH, fr⟩ := S.ins_at ha g
      exact ⟨_, _, C, dx, fs, fv, rfl, rfl, ha, hC, hH, fr⟩
    · cases h
  | _ => cases h
theorem se_meth {w : Str} {n : Nat} {es : List Expr} {ys : Xs} (hcl : ClsOk m.nm X.K) (hx : Passes (L2.CX X.prog X.w) X E) (mo : MethOk m X w n) (he : PE X o (tEv m E X x)) (ha : PA X es (tEvX m E X ys))
    (hbase : attributeBase o w X.env (eval o X.env) = eval o X.env) (hform : methodCallForm (es.length + ([] : List Keyword).length) (backTo pos (starEach es X.env)) (backToKw pos (keywordEach [] X.env)) = true) (hline : (apos.endLine == pos.line) = true)
    (hst : (es = [] ∧ ys = .nil) ∨ ∃ e r, es = e :: r ∧ starEach (e :: r) X.env = (false, eval e X.env) :: starEach r X.env ∧ (backTo pos (starEach r X.env)).any (·.1) = false) :
    PE X (.Call (.Attribute o w apos) es [] pos) (tEv m E X (.meth x n ys)) := by
  refine ⟨fun pins s σ H Q inv ⟨ρ, env, st, hen, S, hf⟩ => ?_⟩
  simp only [evE] at hf
  rw [arm_eval_Call, hbase]
  refine wpAny_bind (thn (he.run pins s σ H (fun v H1 => ∃ ρ1 st1 d c k p, Step ρ H ρ1 H1 ∧ Rel m X ρ1 H1 st1 ∧ Rep X.K ρ1 H1 d v ∧ clsAt st1 d = some c ∧ m.T.cls[c]? = some k ∧ k.ms.lookup n = some p ∧ Fin m E X ρ1 H1 ((evX m.T m.F m.call ys env st1).bind fun ds s => m.call p.1 (d :: (ds ++ p.2)) s) (rD X) Q) inv ⟨ρ, env, st, hen, S, hf.bind fun d st1 ρ1 H1 v s1 S1 r1 hf1 => ?_⟩) fun u s1 ⟨v, H1, inv1, rv, ρ1, st1, d, c, k, f, stp1, S1, r1, hc, hk, hms, hf1⟩ => ?_)
  · split at hf1
    · rename_i c hc
      split at hf1
      · rename_i k hk
        split at hf1
        · rename_i f hms
          exact ⟨ρ1, st1, d, c, k, f, s1, S1, r1, hc, hk, hms, hf1⟩
        · exact hf1.elim
      · exact hf1.elim
    · exact hf1.elim
  · obtain ⟨i, a, C, dx, fs, fv, rfl, rfl, hia, hC, hH, fr⟩ := cls_at S1 r1 hc
    obtain ⟨kk, g, fd, ps, dvs, dus, hM, F, hr, hb, hdv, hdr, har⟩ := mo.at_ c C k f hC hk hms
    cases rv
    refine wpAny_bind (wpAny_standAt ?_)
    unfold methodCall
    rw [hform]
    have hpos : methodCallPos true o X.env apos pos = pure pos := by unfold methodCallPos; simp [hline]
    refine wpAny_bind (wpAny_holding (getmeth_ok inv1 hH (hcl.at_ _ _ hC).1 hM (frep_none hcl.nd mo.nm mo.ge fr) (wpAny_bind (wpAny_of_eq hpos ?_))))
    have run : ∀ (us : List Value) (vs : List V) (H2 : Hp) (s2 : Shared) (ρ2 : List Addr) (st2 : Store) (ds : List D), Inv X pins σ H2 s2 → Vals vs us → Step ρ1 H1 ρ2 H2 → Rel m X ρ2 H2 st2 → Reps X.K ρ2 H2 ds vs → Fin m E X ρ2 H2 (m.call f.1 (.ref i :: (ds ++ f.2)) st2) (rD X) Q → wpAny (model X.prog X.w) X.A (call (.ref g) (.ref a :: us)) (EP X pins σ Q) X.xe s2 := fun us vs H2 s2 ρ2 st2 ds inv2 rv stp S2 rs hf2 => by
      have rs2 : Reps X.K ρ2 H2 (.ref i :: (ds ++ f.2)) (.ref a :: (vs ++ dvs)) := .cons (.ref (stp.ext _ _ hia)) (rs.append (hdr ρ2 H2))
      have hlen : (D.ref i :: (ds ++ f.2)).length = ps.length := by
        refine Decidable.byContradiction fun hne => ?_
        rw [har _ st2 hne] at hf2
        exact hf2
      exact run_fn (us := .ref a :: us) (vs := .ref a :: vs) (dvs := dvs) F hr hb hdv hx inv2 (.cons rfl rv) ⟨by rw [← hlen, rs2.length]; rfl, ρ2, st2, _, S2, rs2, hf2.k⟩
    rcases hst with ⟨rfl, rfl⟩ | ⟨e, r, rfl, h1, h2⟩
    · simp only [evX, R.bind] at hf1
      exact PySem.W.callWith_K0 (first := [.ref a]) inv1.kIn hM.kp (run [] [] H1 s1 ρ1 _ [] inv1 .nil (Step.refl _ _) S1 .nil hf1)
    · refine PySem.W.callWith_K (first := [.ref a]) (h₀ := X.base) inv.ok.mod.kin hM.kp (thn (ha.run pos pins s1 σ H1 (fun vs H2 => ∃ ρ2 st2 ds, Step ρ1 H1 ρ2 H2 ∧ Rel m X ρ2 H2 st2 ∧ Reps X.K ρ2 H2 ds vs ∧ Fin m E X ρ2 H2 (m.call f.1 (.ref i :: (ds ++ f.2)) st2) (rD X) Q) inv1 ⟨ρ1, env, st1, hen.mono S stp1, S1, hf1.bind fun ds st2 ρ2 H2 vs s2 S2 r2 hf2 => ⟨ρ2, st2, ds, s2, S2, r2, hf2⟩⟩) fun us s2 ⟨vs, H2, inv2, r2, ρ2, st2, ds, stp2, S2, rs, hf2⟩ => ⟨inv2.kIn, run us vs H2 s2 ρ2 st2 ds inv2 r2 stp2 S2 rs hf2⟩) h1 h2
end
end VI
/-! VIw: written dicts, d.get, items, values, enumerate, stars. -/
namespace VI
open PySem PySem.Spec PyProof.Rows L2
variable [LL]
section
variable {m : Md} {E : XK} {X : Cx} {e a b o : Expr} {x y z : Ex} {pos apos cpos : Pos} {tg : Expr} {ρ : List Addr} {H : Hp} {st : Store}
/-! ### a dict of the module -/
structure DicOk (X : Cx) (w : Str) (kvs : List (D × D)) : Prop where
  ex : ∃ d es n, KDict X.K X.w d es n ∧ X.mg w = some (.ref d) ∧ ∀ p ∈ kvs, ∃ z v u, p.1 = .str z ∧ PySem.W.nsIn X.K d (toS z) = some (some u) ∧ RelV v u ∧ ∀ ρ H, Rep X.K ρ H p.2 v
theorem look_mem : ∀ {kvs : List (D × D)} {k d : D}, lookD kvs k = some d → ∃ p ∈ kvs, D.eqv p.1 k = true ∧ p.2 = d
  | [], _, _, h => nomatch h
  | p :: r, k, d, h => by
    unfold lookD at h
    split at h
    · cases h; exact ⟨p, List.mem_cons_self, by assumption, rfl⟩
    · obtain ⟨q, h1, h2⟩ := look_mem h
      exact ⟨q, List.mem_cons_of_mem _ h1, h2⟩
theorem se_wget {w : Str} {kvs : List (D × D)} {p : Pos} (dk : DicOk X w kvs) (hg : Gl X w) (hdb : (w == ("__debug__" : Str)) = false) (hs : PlainIx b) (hb : PE X b (tEv m E X y)) : PE X (.Subscript (.Name w p) b pos) (tEv m E X (.wget kvs y)) := by
  obtain ⟨d, es, n, kd, hm, hk⟩ := dk.ex
  have ix : IxR X (fun x y H Q => ∃ (z : Str) (u0 : Value) (v0 : V), x = .ref d ∧ y = .str z ∧ PySem.W.nsIn X.K d z = some (some u0) ∧ RelV v0 u0 ∧ Q v0 H) := by
    intro value slice pins s σ H x y v u Q inv rx ry h hs
    obtain ⟨z, u0, v0, rfl, rfl, h1, h2, h3⟩ := h
    have ht := kd_type kd inv
    have hop := op_item_kd kd pins s σ H (.ref d) (.str z) v u Q inv rx ry ⟨z, u0, v0, rfl, rfl, h1, h2, h3⟩
    cases rx
    exact tail_any (T := "dict") ht PySem.F.slot_dict_getitem.lookup hop hs
  refine imE (pe_ix ix (pe_clsName hg hm hdb) hb hs) fun σ H Q ⟨ρ, env, st, he, S, hf⟩ => ?_
  simp only [evE] at hf
  refine ⟨ρ, env, st, he, S, hf.bind fun dd st1 ρ1 H1 v s1 S1 r1 hf1 => ?_⟩
  obtain ⟨dv, hd, hf2⟩ := Fin.opt hf1
  obtain ⟨q, hq, e1, e2⟩ := look_mem hd
  obtain ⟨z, v, u, k1, k2, k3, k4⟩ := hk q hq
  rw [k1] at e1
  cases r1 with
  | str z' =>
    simp only [D.eqv, beq_iff_eq] at e1
    subst e1
    exact ⟨toS z, u, v, rfl, rfl, k2, k3, hf2.now S1 (by rw [← e2]; exact k4 _ _)⟩
  | _ => simp [D.eqv] at e1
/-! ### d.get -/
theorem getD_ok {kvs : List (D × D)} {k x d : D} {xv : V} (h : (lookD kvs k).getD x = d) (r : Rep X.K ρ H x xv) (hs : ∀ dd, lookD kvs k = some dd → ∃ v, Rep X.K ρ H dd v) : ∃ v, Rep X.K ρ H d v := by
  cases hl : lookD kvs k with
  | none => rw [hl] at h; cases h; exact ⟨xv, r⟩
  | some dd => rw [hl] at h; cases h; exact hs _ hl
theorem mt_get (hu : X.A.units + 65 < cLine) : MtR X "dict.get" (RMt m E X getV) := by
  intro pins s σ H x xs v us Q inv rx rv h
  obtain ⟨ρ, st, d, ds, S, r, rs, hf⟩ := h
  unfold getV at hf
  split at hf
  · rename_i n k
    cases r with
    | ref ha =>
      rename_i a
      obtain ⟨y, rfl, ry⟩ := reps_one rs
      obtain ⟨u, rfl, ru⟩ := rv.one
      cases rx
      split at hf
      · rename_i lk kvs g
        split at hf
        · rename_i hk
          obtain ⟨hz, hsy, hv⟩ := dict_view S ha g hk
          rcases hv with ⟨j, kv, hj, q, lp⟩ | ⟨h2, hv⟩
          · obtain rfl := leafK_rep hj ry
            refine d_get1 (by omega) inv (.inl ⟨kv, j, q.rd, rfl, rfl⟩) ru fun w' s' inv' rw' => ⟨_, H, inv', rw', ?_⟩
            rcases lp_look hj lp with ⟨h1, h2⟩ | ⟨dd, v, h1, h2, rd⟩
            · rw [h1] at hf; rw [h2]; exact hf.now S .non
            · rw [h1] at hf; rw [h2]; exact hf.now S rd
          · obtain ⟨xs0, rfl, _⟩ := kk2 h2
            cases ry with
            | tup q1 q2 =>
              cases ru
              have hkey := key_is inv h2 (.tup q1 q2)
              rcases hv with ⟨rfl, q⟩ | ⟨xs, ne, q, tp, nd⟩
              · have de := empty_of inv q
                exact call_meetsIn PySem.F.slot_dict_get de.typeIs PySem.F.entry_dict_get (PySem.F.args_dict_get_2 _ _) (meetsH_dict_get (nestedKind X.prog X.w) a _ hsy) ⟨room8 hu, _, [], hkey, de, .non, H, inv.tok _, rfl, hf.now S .non⟩
              · have de := dictOfH inv q tp nd
                rcases tp_look h2 tp with ⟨h1, h3⟩ | ⟨dd, p, v, h1, h3, rv', rd⟩
                · rw [h1] at hf
                  refine call_meetsIn PySem.F.slot_dict_get de.typeIs PySem.F.entry_dict_get (PySem.F.args_dict_get_2 _ _) (meetsH_dict_get (nestedKind X.prog X.w) a _ hsy) ⟨room8 hu, _, xs, hkey, de, .non, H, inv.tok _, ?_, hf.now S .non⟩
                  rw [h3]; rfl
                · rw [h1] at hf
                  refine call_meetsIn PySem.F.slot_dict_get de.typeIs PySem.F.entry_dict_get (PySem.F.args_dict_get_2 _ _) (meetsH_dict_get (nestedKind X.prog X.w) a _ hsy) ⟨room8 hu, _, xs, hkey, de, v, H, inv.tok _, ?_, hf.now S rd⟩
                  rw [h3]; exact rv'
        · exact hf.elim
      · exact hf.elim
  · rename_i n k dx
    cases r with
    | ref ha =>
      rename_i a
      cases rs with
      | cons ry rs =>
        obtain ⟨yx, rfl, ryx⟩ := reps_one rs
        obtain ⟨u, ux, rfl, ru, rux⟩ := vals2 rv
        cases rx
        split at hf
        · rename_i lk kvs g
          split at hf
          · rename_i hk
            obtain ⟨hz, hsy, hv⟩ := dict_view S ha g hk
            rcases hv with ⟨j, kv, hj, q, lp⟩ | ⟨h2, hv⟩
            · obtain rfl := leafK_rep hj ry
              refine d_get2 (by omega) inv (.inl ⟨kv, j, q.rd, rfl, rfl⟩) ru rux fun w' s' inv' rw' => ⟨_, H, inv', rw', ?_⟩
              rcases lp_look hj lp with ⟨h1, h2⟩ | ⟨dd, v, h1, h2, rd⟩
              · rw [h1] at hf; rw [h2]; exact hf.now S ryx
              · rw [h1] at hf; rw [h2]; exact hf.now S rd
            · obtain ⟨xs0, rfl, _⟩ := kk2 h2
              cases ry with
              | tup q1 q2 =>
                cases ru
                have hkey := key_is inv h2 (.tup q1 q2)
                rcases hv with ⟨rfl, q⟩ | ⟨xs, ne, q, tp, nd⟩
                · have de := empty_of inv q
                  exact call_meetsIn PySem.F.slot_dict_get de.typeIs PySem.F.entry_dict_get (PySem.F.args_dict_get_3 _ _ _) (meetsH_dict_get_default (nestedKind X.prog X.w) a _ hsy ux) ⟨room8 hu, _, [], hkey, de, yx, H, inv.tok _, rux, hf.now S ryx⟩
                · have de := dictOfH inv q tp nd
                  rcases tp_look h2 tp with ⟨h1, h3⟩ | ⟨dd, p, v, h1, h3, rv', rd⟩
                  · rw [h1] at hf
                    refine call_meetsIn PySem.F.slot_dict_get de.typeIs PySem.F.entry_dict_get (PySem.F.args_dict_get_3 _ _ _) (meetsH_dict_get_default (nestedKind X.prog X.w) a _ hsy ux) ⟨room8 hu, _, xs, hkey, de, yx, H, inv.tok _, ?_, hf.now S ryx⟩
                    rw [h3]; exact rux
                  · rw [h1] at hf
                    refine call_meetsIn PySem.F.slot_dict_get de.typeIs PySem.F.entry_dict_get (PySem.F.args_dict_get_3 _ _ _) (meetsH_dict_get_default (nestedKind X.prog X.w) a _ hsy ux) ⟨room8 hu, _, xs, hkey, de, v, H, inv.tok _, ?_, hf.now S rd⟩
                    rw [h3]; exact rv'
          · exact hf.elim
        · exact hf.elim
  · exact hf.elim
/-! ### d.items() -/
theorem it_items {elts : List Expr} {kk : Nat} {tpos : Pos} (he : PE X e (tEv m E X x)) (hbase : attributeBase e "items" X.env (eval e X.env) = eval e X.env) (hline : (apos.endLine == cpos.line) = true) :
    PI X (.Tuple elts kk tpos) (.Call (.Attribute e "items" apos) [] [] cpos) (iEv m E X .items (.cons false x .nil)) := by
  refine ⟨fun pins s σ H R inv ⟨ρ, env, st, hen, S, hf⟩ => ?_⟩
  rw [ev1, bind_assoc] at hf
  refine wpAny_Call_method (T := "dict") (id := "dict.items") hbase rfl hline F.plainAttrs_dict F.slot_dict_items F.type_dict_items (thn (he.run pins s σ H _ inv ⟨ρ, env, st, hen, S, hf.bind (Q1 := fun v H1 => ∃ ρ1 st1 d, Rel m X ρ1 H1 st1 ∧ Rep X.K ρ1 H1 d v ∧ itAt (snap .items [d] st1).1 (snap .items [d] st1).2 0 (lock (lockOf .items [d] st1) st1) ≠ .bad ∧ ∀ J G, Lk X ρ1 H1 (lockOf .items [d] st1) G → ItOk m X (snap .items [d] st1).1 (snap .items [d] st1).2 ρ1 G J → R J G) fun d st1 ρ1 H1 v s1 S1 r1 hf1 => ?_⟩) fun u s1 ⟨v, H1, inv1, ru, ρ1, st1, d, S1, r1, hnb, hR⟩ => ?_)
  · obtain ⟨ρ2, st2, ds, s2, S2, rs, hnb, hR⟩ := hf1.now S1 (.cons r1 .nil)
    obtain ⟨d2, rfl, rd⟩ := reps1 rs
    exact ⟨ρ2, st2, d2, S2, rd, hnb, hR⟩
  · cases r1 with
    | fn => exact absurd rfl hnb
    | err => exact absurd rfl hnb
    | ref ha =>
      rename_i n a
      cases ru
      cases hg : st1.get n with
      | none => obtain ⟨ob, g', _⟩ := S1.ob n a ha; rw [hg] at g'; cases g'
      | some ob =>
        have bad : (∀ lk kvs, ob ≠ .dct lk kvs) → False := fun hne => by
          obtain ⟨e1, e2⟩ := lock_lst (k := .items) (n := n) (st := st1) fun lk kvs z => by rw [hg] at z; cases z; exact hne lk kvs rfl
          rw [e2] at hnb
          exact hnb rfl
        cases ob with
        | dct lk kvs =>
          obtain ⟨G, o, u, es, ep, inv2, lk2, ho, hx, hod, hs, de, S2, _⟩ := lock_any .items inv1 S1 ha hg
          have e2 : snap .items [.ref n] st1 = (.val, [.tup (kvs.map fun p => .tup [p.1, p.2])]) := by unfold snap; simp only [hg]
          rw [e2] at hR
          have raw : s1.heap.DictRaw a es ep := ⟨o, ho, hx, hod⟩
          have inv3 : Inv X pins σ G { s1 with heap := s1.heap.push { cls := .type "dict_items", data := .fields #[.ref a] } } := inv2.kept (t' := s1.toks) fun b ob q => Heap.get?_push_of_some _ q
          refine ⟨raw.typeIs, ?_, ?_⟩
          · intro a' hz
            cases hz
            exact ⟨o, ho, hx.2.1⟩
          · have fin : wpAny (model X.prog X.w) X.A (pyIter (.ref s1.heap.objs.size)) (PIE X pins σ (.Tuple elts kk tpos) R) X.xe { s1 with heap := s1.heap.push { cls := .type "dict_items", data := .fields #[.ref a] } } :=
              wpAny_pyIter_items_raw (d := a) ⟨_, Heap.get?_push_size _ rfl, rfl, rfl⟩ (raw.push _) (pi_one (tk := s1.toks) inv3 _ (turn_ri _ hx hod fun i hi => let ⟨_, vk, vd, _, z1, _, z2, _⟩ := de.at_ i hi; ⟨vk, vd, z1, z2⟩) ⟨.none, .none, Heap.get?_push_size _ rfl⟩ (hR _ _ lk2 (ok_ri S2 de)))
            exact method_meetsIn F.slot_dict_items F.entry_dict_items rfl (PySem.evalArgs_none ⟨rfl, raw.typeIs, F.args_dict_items_1 _, _, meets_dict_items_raw a hs, ⟨⟨es, ep, raw⟩, fin⟩⟩)
        | lst xs => exact (bad fun _ _ z => by cases z).elim
        | tab c => exact (bad fun _ _ z => by cases z).elim
        | flst xs => exact (bad fun _ _ z => by cases z).elim
        | ins c fs => exact (bad fun _ _ z => by cases z).elim
    | tup q rs => exact absurd rfl hnb
    | str x => exact absurd rfl hnb
    | non => exact absurd rfl hnb
    | bl _ => exact absurd rfl hnb
    | int _ => exact absurd rfl hnb
/-! ### stars -/
theorem sa_star {es : List Expr} {ys : Xs} {p : Pos} (ha : PE X e (tEv m E X x)) (hr : PA X es (tEvX m E X ys)) (hs : starEach (.Starred e p :: es) X.env = (true, eval e X.env) :: starEach es X.env) : PA X (.Starred e p :: es) (tEvX m E X (.cons true x ys)) :=
  imA (StX.pa_star ha hr hs) fun σ H Q ⟨ρ, env, st, he, S, hf⟩ => by
    simp only [evX, if_true] at hf
    refine ⟨ρ, env, st, he, S, hf.bind fun d st1 ρ1 H1 v s1 S1 r1 hf1 => ?_⟩
    have key : ∀ (q : Addr) (xs : List D) (vs : List V), (SqT X.K H1 q vs ∨ SqL X.K H1 q vs) → Reps X.K ρ1 H1 xs vs → Fin m E X ρ1 H1 ((evX m.T m.F m.call ys env st1).bind fun ys s => .ok (xs ++ ys) s) (rDs X) Q → tEvX m E X ys σ H1 fun zs H2 => Q (vs ++ zs) H2 := fun q xs vs hq rs hf2 =>
      ⟨ρ1, env, st1, he.mono S s1, S1, hf2.bind fun ds st2 ρ2 H2 us s2 S2 r2 hf3 => hf3.now S2 ((Reps.mono S1 s2 _ _ rs).append r2)⟩
    split at hf1
    · rename_i xs hst
      unfold starOf at hst
      split at hst
      · cases hst
        cases r1 with
        | tup q rs => exact ⟨_, _, rfl, .inl q, key _ _ _ (.inl q) rs hf1⟩
      · split at hst
        · rename_i ys' g
          cases hst
          cases r1 with
          | ref ha =>
            obtain ⟨vs, e1, rs⟩ := S1.lst_at ha g
            exact ⟨_, _, rfl, .inr (SqL.of e1), key _ _ _ (.inr (SqL.of e1)) rs hf1⟩
        · cases hst
      · cases hst
    · exact hf1.elim
/-! ### enumerate -/
theorem ok_enumL {ρ0 : List Addr} {H0 : Hp} {n : Nat} {a : Addr} (ha : ρ0[n]? = some a) : ItOk m X .enum [.ref n] ρ0 H0 (Ite X.K a) := fun i ρ H st stp S => by
  have ha' := stp.ext n a ha
  show (itAt .enum [.ref n] i st = .stop → _) ∧ (∀ d, itAt .enum [.ref n] i st = .item d → _)
  unfold itAt
  simp only
  cases hg : st.get n with
  | none => exact ⟨(fun h => nomatch h), (fun _ h => nomatch h)⟩
  | some ob =>
    cases ob with
    | lst xs =>
      obtain ⟨vs, e1, rs⟩ := S.lst_at ha' hg
      refine ⟨fun h => ⟨vs, SqL.of e1, by rw [← rs.length]; exact nth_stop h⟩, fun d h => ?_⟩
      obtain ⟨x, hx, rfl⟩ := nth_item h
      obtain ⟨v, hv, rv⟩ := rs.get hx
      refine ⟨⟨vs, v, SqL.of e1, hv⟩, fun y H' hy => ?_⟩
      obtain ⟨T, v', rfl, hT, rfl, hy⟩ := hy
      have := hy _ (SqL.of e1)
      rw [hv] at this
      cases this
      obtain ⟨S', stp'⟩ := SRel.other (o := .tup [.int (i : Nat), v]) S hT
      exact ⟨S', stp', .tup (SqT.of upd_same) (.cons (.int _) (.cons (Rep.mono S stp' _ _ rv) .nil))⟩
    | _ => exact ⟨(fun h => nomatch h), (fun _ h => nomatch h)⟩
/-- a text's signs with their places -/
def ItEs (x : Str) : It := ⟨fun i _ => i < x.cps.size, fun i H v H' => ∃ T c, v = .ref T ∧ H T = none ∧ H' = upd H T (.tup [.int (i : Nat), .str ⟨#[c]⟩]) ∧ x.cps[i]? = some c, fun i _ => x.cps.size ≤ i⟩
theorem turn_enumS {P : Program} {w : World} {K : PySem.W.Frag} {elts : List Expr} {kk : Nat} {tpos : Pos} (en it : Addr) (x : Str) (t : Tok) :
    Turn P w K (.Tuple elts kk tpos) (ItEs x) [en, it] en (fun i h => (∃ old, IsEnum h en it ((i : Nat) : Int) old) ∧ h.IsStrIter it (strIterType x) x t i ∧ en ≠ it ∧ i ≤ x.cps.size) where
  mem := List.mem_cons_self
  obj := fun i h st b hb => by
    obtain ⟨⟨old, he⟩, ⟨o, ho, hc, hd⟩, _⟩ := st
    rcases List.mem_cons.mp hb with z | z
    · rw [z]; exact ⟨_, he, fun v q => nomatch q⟩
    · rw [List.mem_singleton.mp z]; exact ⟨o, ho, fun v q => by rw [hd] at q; cases q⟩
  keep := fun i h h' st k => by
    obtain ⟨⟨old, he⟩, ⟨o, ho, hr⟩, hne, hle⟩ := st
    exact ⟨⟨old, k en List.mem_cons_self _ he⟩, ⟨o, k it (List.mem_cons_of_mem _ (List.mem_singleton.mpr rfl)) o ho, hr⟩, hne, hle⟩
  item := by
    intro X hP hw hK hc i pins s σ H E inv hf st hg
    subst hP hw hK
    obtain ⟨⟨old, he⟩, hit, hne, _⟩ := st
    have hel : en < s.heap.objs.size := Heap.lt_size he
    have hil : it < s.heap.objs.size := by obtain ⟨_, q, _⟩ := hit; exact Heap.lt_size q
    have D : Draws X.prog X.w X.A.in1 it [it] x.cps.size (fun i v => ∃ c u, x.cps[i]? = some c ∧ v = .str ⟨#[c]⟩ u) (fun i h => h.IsStrIter it (strIterType x) x t i) := by
      unfold strIterType
      split
      · exact Draws.strAscii (show X.A.in1.handled = none from inv.ok.hd hc) it x t
      · exact Draws.strWide (show X.A.in1.handled = none from inv.ok.hd hc) it x t
    refine wpAny_pyNext_enum_itemD D he hit hg hne (fun z => hne (List.mem_singleton.mp z)) fun y h' tk ⟨c, u, hcx, hy⟩ ho hit' hT hsz hk => ?_
    subst hy
    refine ⟨_, rfl, wpAny_letOwnedTupleGo_enum (s := { s with heap := h', toks := tk + 1 }) ho fun h'' he' sb => ?_⟩
    have hT2 : h''.get? s.heap.objs.size = some { cls := .type "tuple", data := .seq #[.int i tk, .str ⟨#[c]⟩ u] } := (sb.2 _ (Nat.ne_of_gt hel)).trans hT
    have new : ObjOk X.prog X.w (upd H s.heap.objs.size (.tup [.int (i : Nat), .str ⟨#[c]⟩])) h'' s.heap.objs.size (.tup [.int (i : Nat), .str ⟨#[c]⟩]) :=
      ⟨by show 2 ≤ sizeLine; decide, [.int i tk, .str ⟨#[c]⟩ u], .cons ⟨_, rfl⟩ (.cons ⟨_, rfl⟩ .nil), ⟨_, hT2, rfl, _, rfl⟩⟩
    have inv1 : Inv X pins σ (upd H s.heap.objs.size (.tup [.int (i : Nat), .str ⟨#[c]⟩])) { s with heap := h'', toks := tk + 1 } :=
      inv.turnedNew (ch := [en, it]) (fun b ob hb q => (sb.2 b (fun z => hb (by simp [z]))).trans (hk b ob (fun z => hb (by simp [z])) (fun z => hb (by simp [z])) q)) hf (Nat.le_refl _) new
    refine ⟨.ref s.heap.objs.size, _, inv1, rfl, ⟨_, c, rfl, inv.hok.fresh (Nat.le_refl _), rfl, hcx⟩, ⟨⟨.str ⟨#[c]⟩ u, ?_⟩, ?_, hne, hg⟩, fun b hb => ?_⟩
    · have e1 : ((i + 1 : Nat) : Int) = (i : Int) + 1 := by omega
      rw [e1]; exact he'
    · obtain ⟨o, ho', hr⟩ := hit'
      exact ⟨o, (sb.2 it (Ne.symm hne)).trans ho', hr⟩
    · have hb' : b < s.heap.objs.size := by
        rcases List.mem_cons.mp hb with z | z
        · rw [z]; exact hel
        · rw [List.mem_singleton.mp z]; exact hil
      rw [upd_ne (Nat.ne_of_lt hb')]
      exact (hf b hb).1
  done := by
    intro X hP hw hK hc i pins s σ H E inv hf st hg
    subst hP hw hK
    obtain ⟨⟨old, he⟩, hit, hne, hle⟩ := st
    have hg : x.cps.size = i := Nat.le_antisymm hg hle
    subst hg
    obtain ⟨f0, f1, f2, f3, f4, f5⟩ := hf it (List.mem_cons_of_mem _ (List.mem_singleton.mpr rfl))
    have D : Draws X.prog X.w X.A.in1 it [it] x.cps.size (fun i v => ∃ c u, x.cps[i]? = some c ∧ v = .str ⟨#[c]⟩ u) (fun i h => h.IsStrIter it (strIterType x) x t i) := by
      unfold strIterType
      split
      · exact Draws.strAscii (show X.A.in1.handled = none from inv.ok.hd hc) it x t
      · exact Draws.strWide (show X.A.in1.handled = none from inv.ok.hd hc) it x t
    exact wpAny_pyNext_enum_endD D he hit fun h' eb => ⟨rfl, inv.turned (t' := s.toks) (fun b o hb q => eb b o hb q) f0 f1 f3 f4 f5⟩
  self := fun A i s Q E st h => let ⟨⟨_, he⟩, _⟩ := st; wpAny_pyIter_enum he h
theorem ok_enumS {ρ0 : List Addr} {H0 : Hp} {x : List Nat} : ItOk m X .enum [.str x] ρ0 H0 (ItEs (toS x)) := fun i ρ H st stp S => by
  have hsz : (toS x).cps.size = x.length := toS_len x
  have hget : (toS x).cps[i]? = x[i]? := by simp [toS]
  refine ⟨fun h => ?_, fun d h => ?_⟩
  · show (toS x).cps.size ≤ i
    rw [hsz]; exact nth_stop h
  · obtain ⟨c, hc, rfl⟩ := nth_item h
    refine ⟨by show i < (toS x).cps.size; rw [hsz]; exact (List.getElem?_eq_some_iff.mp hc).1, fun y H' hy => ?_⟩
    obtain ⟨T, c', rfl, hT, rfl, h1⟩ := hy
    rw [hget, hc] at h1
    cases h1
    obtain ⟨S', stp'⟩ := SRel.other (o := .tup [.int (i : Nat), .str ⟨#[c]⟩]) S hT
    exact ⟨S', stp', .tup (SqT.of upd_same) (.cons (.int _) (.cons (.str [c]) .nil))⟩
/-! a tuple's things with their places -/
theorem meets_enumT (l : Addr) (items : Array Value) (n : Nat) (dct : Option Addr) (sl : Array (Option Value)) :
    Meets (Builtin.«enumerate.__new__» ⟨[.type "enumerate", .ref l], []⟩) (fun _ R s => s.heap.get? l = some { cls := .type "tuple", dict := dct, data := .seq items n, slots := sl } ∧
      R (.ok (.ret (.ref (s.heap.push { cls := .type "tuple_iterator", data := .fields #[.ref l, .int 0 0] }).objs.size)))
        { s with heap := (s.heap.push { cls := .type "tuple_iterator", data := .fields #[.ref l, .int 0 0] }).push { cls := .type "enumerate", data := .fields #[.none, .bool false, .ref s.heap.objs.size, rawInt 0, .none, .none] } }) :=
  .of_wp fun prog w A R s ⟨hl, h⟩ => by
    obtain ⟨hp, g, d, tk, os⟩ := s
    have hit : Heap.IsTuple hp l items := ⟨_, hl, rfl, n, rfl⟩
    have hsub := sub_enumerate
    wp_walk
    refine wpAny_stack_any fun st => wpAny_pure ?_
    split
    · rename_i c _ _ _ _ _
      cases (c == Value.type "enumerate")
      · wp_walk using wpAny_pyIter_tuple hit
        exact ⟨_, rfl, h⟩
      · wp_walk using wpAny_pyIter_tuple hit
        exact ⟨_, rfl, h⟩
    · wp_walk using wpAny_pyIter_tuple hit
      exact ⟨_, rfl, h⟩
theorem call_enumT {prog : Program} {w : World} {A : Around} {E : Value → Shared → Prop} {s : Shared} {l : Addr} {items : Array Value} {Q : Value → Shared → Prop} (hL : s.heap.IsTuple l items)
    (h : ∀ h', IsEnum h' (s.heap.objs.size + 1) s.heap.objs.size 0 .none → h'.IsTupleIter s.heap.objs.size l 0 → h'.objs.size = s.heap.objs.size + 2 →
      (∀ b o, s.heap.get? b = some o → h'.get? b = some o) → Q (.ref (s.heap.objs.size + 1)) { s with heap := h' }) :
    wpAny (model prog w) A (call (.type "enumerate") [.ref l]) Q E s := by
  obtain ⟨⟨c, dct, dt, sl⟩, hl, hc, n, hd⟩ := hL
  replace hc : c = .type "tuple" := hc
  replace hd : dt = .seq items n := hd
  subst hc hd
  refine callType_new F.called_enumerate (by decide) (F.typeCall_enumerate_1 _) (F.newCall_enumerate_1 _) (fun obj => F.args_object_init_2 obj _) F.entry_enumerate_new (meets_enumT l items n dct sl) ⟨hl, ?_⟩
  generalize hp1 : s.heap.push { cls := .type "tuple_iterator", data := .fields #[.ref l, .int 0 0] } = p1
  have hz : p1.objs.size = s.heap.objs.size + 1 := by rw [← hp1]; exact Heap.size_push ..
  have hit : p1.get? s.heap.objs.size = some { cls := .type "tuple_iterator", data := .fields #[.ref l, .int 0 0] } := by rw [← hp1]; exact Heap.get?_push_size _ rfl
  have hkp : ∀ b o, s.heap.get? b = some o → p1.get? b = some o := fun b o e => by rw [← hp1]; exact Heap.get?_push_of_some _ e
  show _ ∧ _
  have he : IsEnum (p1.push { cls := .type "enumerate", data := .fields #[.none, .bool false, .ref s.heap.objs.size, rawInt 0, .none, .none] }) (s.heap.objs.size + 1) s.heap.objs.size 0 .none := by
    rw [← hz]; exact Heap.get?_push_size _ rfl
  rw [hz]
  exact ⟨⟨_, he, rfl⟩, h _ he ⟨_, Heap.get?_push_of_some _ hit, rfl, rfl⟩ (by rw [Heap.size_push, hz]) fun b o e => Heap.get?_push_of_some _ (hkp b o e)⟩
def ItEt (K : PySem.W.Frag) (a : Addr) (vs : List V) : It :=
  ⟨fun i H => SqT K H a vs ∧ i < vs.length, fun i H v H' => ∃ T x, v = .ref T ∧ H T = none ∧ H' = upd H T (.tup [.int (i : Nat), x]) ∧ vs[i]? = some x, fun i H => SqT K H a vs ∧ vs.length ≤ i⟩
theorem turn_enumT {P : Program} {w : World} {K : PySem.W.Frag} {elts : List Expr} {kk : Nat} {tpos : Pos} (en it a : Addr) (vs : List V) :
    Turn P w K (.Tuple elts kk tpos) (ItEt K a vs) [en, it] en (fun i h => (∃ old, IsEnum h en it ((i : Nat) : Int) old) ∧ h.IsTupleIter it a i ∧ en ≠ it ∧ a ≠ en ∧ a ≠ it ∧ i ≤ vs.length) where
  mem := List.mem_cons_self
  obj := fun i h st b hb => by
    obtain ⟨⟨old, he⟩, ⟨o, ho, hc, hd⟩, _⟩ := st
    rcases List.mem_cons.mp hb with z | z
    · rw [z]; exact ⟨_, he, fun v q => nomatch q⟩
    · rw [List.mem_singleton.mp z]; exact ⟨o, ho, fun v q => by rw [hd] at q; cases q⟩
  keep := fun i h h' st k => by
    obtain ⟨⟨old, he⟩, hit, hr⟩ := st
    exact ⟨⟨old, k en List.mem_cons_self _ he⟩, hit.at fun o e => k it (List.mem_cons_of_mem _ (List.mem_singleton.mpr rfl)) o e, hr⟩
  item := by
    intro X hP hw hK hc i pins s σ H E inv hf st hg
    subst hP hw hK
    obtain ⟨⟨old, he⟩, hit, hne, hae, hai, _⟩ := st
    obtain ⟨hq, hi⟩ := hg
    obtain ⟨its, rv, p, hz⟩ := inv.tuple hq
    have hel : en < s.heap.objs.size := Heap.lt_size he
    have hil : it < s.heap.objs.size := by obtain ⟨_, q, _⟩ := hit; exact Heap.lt_size q
    have D := Draws.tuple (prog := X.prog) (w := X.w) (A := X.A.in1) (show X.A.in1.handled = none from inv.ok.hd hc) it a hai its.toArray
    have hsz : its.toArray.size = vs.length := by rw [List.size_toArray]; exact rv.length.symm
    refine wpAny_pyNext_enum_itemD D he ⟨hit, show s.heap.IsTuple a its.toArray from p⟩ (by rw [hsz]; exact hi) hne (fun z => by
      rcases List.mem_cons.mp z with z | z
      · exact hne z
      · exact hae (List.mem_singleton.mp z).symm) fun y h' tk hy ho hit' hT hsz' hk => ?_
    obtain ⟨x, hx⟩ : ∃ x, vs[i]? = some x := ⟨vs[i], List.getElem?_eq_getElem hi⟩
    obtain ⟨u, hu, ru⟩ := rv.get hx
    have hyu : y = u := by
      have : its.toArray[i]? = some u := by simpa using hu
      rw [hy] at this
      exact Option.some.inj this
    subst hyu
    refine ⟨_, rfl, wpAny_letOwnedTupleGo_enum (s := { s with heap := h', toks := tk + 1 }) ho fun h'' he' sb => ?_⟩
    have hT2 : h''.get? s.heap.objs.size = some { cls := .type "tuple", data := .seq #[.int i tk, y] } := (sb.2 _ (Nat.ne_of_gt hel)).trans hT
    have new : ObjOk X.prog X.w (upd H s.heap.objs.size (.tup [.int (i : Nat), x])) h'' s.heap.objs.size (.tup [.int (i : Nat), x]) :=
      ⟨by show 2 ≤ sizeLine; decide, [.int i tk, y], .cons ⟨_, rfl⟩ (.cons ru .nil), ⟨_, hT2, rfl, _, rfl⟩⟩
    have inv1 : Inv X pins σ (upd H s.heap.objs.size (.tup [.int (i : Nat), x])) { s with heap := h'', toks := tk + 1 } :=
      inv.turnedNew (ch := [en, it]) (fun b ob hb q => (sb.2 b (fun z => hb (by simp [z]))).trans (hk b ob (fun z => hb (by simp [z])) (fun z => hb (by simp [z])) q)) hf (Nat.le_refl _) new
    refine ⟨.ref s.heap.objs.size, _, inv1, rfl, ⟨_, x, rfl, inv.hok.fresh (Nat.le_refl _), rfl, hx⟩, ⟨⟨y, ?_⟩, hit'.1.at fun o q => (sb.2 it (Ne.symm hne)).trans q, hne, hae, hai, hi⟩, fun b hb => ?_⟩
    · have e1 : ((i + 1 : Nat) : Int) = (i : Int) + 1 := by omega
      rw [e1]; exact he'
    · have hb' : b < s.heap.objs.size := by
        rcases List.mem_cons.mp hb with z | z
        · rw [z]; exact hel
        · rw [List.mem_singleton.mp z]; exact hil
      rw [upd_ne (Nat.ne_of_lt hb')]
      exact (hf b hb).1
  done := by
    intro X hP hw hK hc i pins s σ H E inv hf st hg
    subst hP hw hK
    obtain ⟨⟨old, he⟩, hit, hne, hae, hai, hle⟩ := st
    obtain ⟨hq, hge⟩ := hg
    have hi : i = vs.length := Nat.le_antisymm hle hge
    obtain ⟨its, rv, p, hz⟩ := inv.tuple hq
    obtain ⟨f0, f1, f2, f3, f4, f5⟩ := hf it (List.mem_cons_of_mem _ (List.mem_singleton.mpr rfl))
    have D := Draws.tuple (prog := X.prog) (w := X.w) (A := X.A.in1) (show X.A.in1.handled = none from inv.ok.hd hc) it a hai its.toArray
    have hsz : its.toArray.size = i := by rw [List.size_toArray, hi]; exact rv.length.symm
    refine wpAny_pyNext_enum_endD D he ⟨?_, show s.heap.IsTuple a its.toArray from p⟩ fun h' eb => ⟨rfl, inv.turned (t' := s.toks) (fun b o hb q => eb b o hb q) f0 f1 f3 f4 f5⟩
    rw [hsz]; exact hit
  self := fun A i s Q E st h => let ⟨⟨_, he⟩, _⟩ := st; wpAny_pyIter_enum he h
theorem ok_enumT {ρ0 : List Addr} {H0 : Hp} {st0 : Store} {xs : List D} {a : Addr} {vs : List V} (S0 : Rel m X ρ0 H0 st0) (q : SqT X.K H0 a vs) (rs : Reps X.K ρ0 H0 xs vs) : ItOk m X .enum [.tup xs] ρ0 H0 (ItEt X.K a vs) := fun i ρ H st stp S => by
  have q2 := stp.tup S0 q
  have rs2 := Reps.monoI S0 stp _ _ rs
  refine ⟨fun h => ⟨q2, by rw [← rs2.length]; exact nth_stop h⟩, fun d h => ?_⟩
  obtain ⟨x, hx, rfl⟩ := nth_item h
  obtain ⟨v, hv, rv⟩ := rs2.get hx
  refine ⟨⟨q2, (List.getElem?_eq_some_iff.mp hv).1⟩, fun y H' hy => ?_⟩
  obtain ⟨T, v', rfl, hT, rfl, hy⟩ := hy
  rw [hv] at hy
  cases hy
  obtain ⟨S', stp'⟩ := SRel.other (o := .tup [.int (i : Nat), v]) S hT
  exact ⟨S', stp', .tup (SqT.of upd_same) (.cons (.int _) (.cons (Rep.mono S stp' _ _ rv) .nil))⟩
theorem it_enum {elts : List Expr} {kk : Nat} {p tpos : Pos} (hg : Gl X "enumerate") (hm : X.mg "enumerate" = none) (ha : PA X [e] (tEvX m E X (.cons false x .nil))) (hs : starEach [e] X.env = [(false, eval e X.env)]) :
    PI X (.Tuple elts kk tpos) (.Call (.Name "enumerate" p) [e] [] pos) (iEv m E X .enum (.cons false x .nil)) := by
  refine ⟨fun pins s σ H R inv ⟨ρ, env, st, hen, S, hf⟩ => ?_⟩
  refine Call_ (ld_blt inv hg hm boot_enumerate (PyProof.Rows.callWith_type1 (thn (ha.run pos pins s σ H (fun vs H1 => ∃ ρ1 st1 ds, Rel m X ρ1 H1 st1 ∧ Reps X.K ρ1 H1 ds vs ∧ itAt .enum ds 0 (lock (lockOf .enum ds st1) st1) ≠ .bad ∧ ∀ J G, Lk X ρ1 H1 (lockOf .enum ds st1) G → ItOk m X .enum ds ρ1 G J → R J G) inv ⟨ρ, env, st, hen, S, hf.bind fun ds st1 ρ1 H1 vs s1 S1 r1 hf1 => ?_⟩) fun us s1 ⟨vs, H1, inv1, rv, ρ1, st1, ds, S1, rs, hnb, hR⟩ => ?_) hs rfl))
  · obtain ⟨ρ2, st2, ds2, s2, S2, rs2, hnb, hR⟩ := hf1.now S1 r1
    rw [snap_same (.inr (.inl rfl))] at hnb hR
    exact ⟨ρ2, st2, ds2, S2, rs2, hnb, hR⟩
  · match ds, rs, hnb, hR with
    | [], _, hnb, _ => exact absurd rfl hnb
    | _ :: _ :: _, _, hnb, _ => exact absurd rfl hnb
    | [d], rs, hnb, hR =>
      obtain ⟨v, rfl, r1⟩ := reps_one rs
      obtain ⟨u, rfl, ru⟩ := rv.one
      cases r1 with
      | fn => exact absurd rfl hnb
      | err => exact absurd rfl hnb
      | @ref n a hna =>
        cases ru
        cases hg : st1.get n with
        | none => obtain ⟨ob, g', _⟩ := S1.ob n a hna; rw [hg] at g'; cases g'
        | some ob =>
          cases ob with
          | lst xs =>
            obtain ⟨vs, e1, rs1⟩ := S1.lst_at hna hg
            obtain ⟨its, rv', p', hz⟩ := inv1.list (SqL.of e1)
            have hl := (lock_lst (k := .enum) (n := n) (st := st1) fun _ _ z => by rw [hg] at z; cases z).1
            rw [hl] at hR
            refine call_enumerate_list p'.isList fun h' he hit hsz hk => wpAny_pyIter_enum he ?_
            refine ⟨s1.heap.objs.size + 1, [s1.heap.objs.size + 1, s1.heap.objs.size], _, _, H1, rfl, inv1.kept (t' := s1.toks) hk, turn_enum a (s1.heap.objs.size + 1) s1.heap.objs.size, ⟨⟨.none, he⟩, hit, Nat.succ_ne_self _⟩, fun b hb => ?_, hR _ _ rfl (ok_enumL hna)⟩
            have hle : s1.heap.objs.size ≤ b := by
              rcases List.mem_cons.mp hb with z | z
              · rw [z]; exact Nat.le_add_right _ _
              · rw [List.mem_singleton.mp z]; exact Nat.le_refl _
            exact inv1.fpOk hle (inv1.hok.fresh hle)
          | flst xs =>
            have hl := (lock_lst (k := .enum) (n := n) (st := st1) fun _ _ z => by rw [hg] at z; cases z).1
            rw [hl] at hnb
            refine absurd ?_ hnb
            show itAt .enum [.ref n] 0 st1 = .bad
            unfold itAt; simp only [hg]
          | ins c fs =>
            have hl := (lock_lst (k := .enum) (n := n) (st := st1) fun _ _ z => by rw [hg] at z; cases z).1
            rw [hl] at hnb
            refine absurd ?_ hnb
            show itAt .enum [.ref n] 0 st1 = .bad
            unfold itAt; simp only [hg]
          | tab c =>
            have hl := (lock_lst (k := .enum) (n := n) (st := st1) fun _ _ z => by rw [hg] at z; cases z).1
            rw [hl] at hnb
            refine absurd ?_ hnb
            show itAt .enum [.ref n] 0 st1 = .bad
            unfold itAt; simp only [hg]
          | dct lk kvs =>
            refine absurd ?_ hnb
            cases lk with
            | true =>
              have e1 : lockOf .enum [.ref n] st1 = none := by unfold lockOf; simp only [hg]
              rw [e1]
              show itAt .enum [.ref n] 0 st1 = .bad
              unfold itAt; simp only [hg]
            | false =>
              have e1 : lockOf .enum [.ref n] st1 = some (n, kvs) := by unfold lockOf; simp only [hg]
              have e2 : (lock (some (n, kvs)) st1).get n = some (.dct true kvs) := set_dct hg
              rw [e1]
              unfold itAt; simp only [e2]
      | str x =>
        obtain ⟨t, rfl⟩ := ru
        refine call_enumerate_str fun h' he hit hsz hk => wpAny_pyIter_enum he ?_
        refine ⟨s1.heap.objs.size + 1, [s1.heap.objs.size + 1, s1.heap.objs.size], _, _, H1, rfl, inv1.kept (t' := s1.toks) hk, turn_enumS (s1.heap.objs.size + 1) s1.heap.objs.size (toS x) t, ⟨⟨.none, he⟩, hit, Nat.succ_ne_self _, Nat.zero_le _⟩, fun b hb => ?_, hR _ _ rfl ok_enumS⟩
        · have hle : s1.heap.objs.size ≤ b := by
            rcases List.mem_cons.mp hb with z | z
            · rw [z]; exact Nat.le_add_right _ _
            · rw [List.mem_singleton.mp z]; exact Nat.le_refl _
          exact inv1.fpOk hle (inv1.hok.fresh hle)
      | @tup xs a vs q rs1 =>
        cases ru
        obtain ⟨its, rv', p', hz⟩ := inv1.tuple q
        have hT : s1.heap.IsTuple a its.toArray := p'
        refine call_enumT hT fun h' he hit hsz hk => wpAny_pyIter_enum he ?_
        have hlt : a < s1.heap.objs.size := by obtain ⟨o, ho, _⟩ := hT; exact Heap.lt_size ho
        refine ⟨s1.heap.objs.size + 1, [s1.heap.objs.size + 1, s1.heap.objs.size], _, _, H1, rfl, inv1.kept (t' := s1.toks) hk, turn_enumT (s1.heap.objs.size + 1) s1.heap.objs.size a vs, ⟨⟨.none, he⟩, hit, Nat.succ_ne_self _, Nat.ne_of_lt (Nat.lt_succ_of_lt hlt), Nat.ne_of_lt hlt, Nat.zero_le _⟩, fun b hb => ?_, hR _ _ rfl (ok_enumT S1 q rs1)⟩
        have hle : s1.heap.objs.size ≤ b := by
          rcases List.mem_cons.mp hb with z | z
          · rw [z]; exact Nat.le_add_right _ _
          · rw [List.mem_singleton.mp z]; exact Nat.le_refl _
        exact inv1.fpOk hle (inv1.hok.fresh hle)
      | non => exact absurd rfl hnb
      | bl _ => exact absurd rfl hnb
      | int _ => exact absurd rfl hnb
end
end VI
/-! VIwa: d.pop(k). -/
namespace VI
open PySem PySem.Spec PyProof.Rows L2
variable [LL]
section
variable {m : Md} {E : XK} {X : Cx} {ρ : List Addr} {H : Hp} {st : Store}
theorem paired_filter {α β : Type} {F : α → β → Prop} {f : α → Bool} {g : β → Bool} : ∀ {l : List α} {n : List β}, Paired F l n → (∀ a b, F a b → f a = g b) → Paired F (l.filter f) (n.filter g)
  | _, _, .nil, _ => .nil
  | a :: l, b :: n, .cons h t, k => by
    have e := k a b h
    cases hb : g b with
    | true =>
      rw [List.filter_cons_of_pos (by rw [e]; exact hb), List.filter_cons_of_pos hb]
      exact .cons h (paired_filter t k)
    | false =>
      rw [List.filter_cons_of_neg (by rw [e, hb]; exact Bool.false_ne_true), List.filter_cons_of_neg (by rw [hb]; exact Bool.false_ne_true)]
      exact paired_filter t k
theorem mt_dpop (hu : X.A.units + 65 < cLine) : MtR X "dict.pop" (RMt m E X dpopV) := by
  intro pins s σ H x xs v us Q inv rx rv h
  obtain ⟨ρ, st, d, ds, S, r, rs, hf⟩ := h
  unfold dpopV at hf
  split at hf
  · rename_i n k
    cases r with
    | ref ha =>
      rename_i a
      obtain ⟨y, rfl, ry⟩ := reps_one rs
      obtain ⟨u, rfl, ru⟩ := rv.one
      cases rx
      split at hf
      · rename_i kvs g
        split at hf
        · rename_i hk
          split at hf
          · rename_i dd hdd
            obtain ⟨hz, hsy, hv⟩ := dict_view S ha g hk
            have hz' : (delD kvs k).length ≤ sizeLine := Nat.le_trans (List.length_filter_le _ _) hz
            rcases hv with ⟨j, kv, hj, q, lp⟩ | ⟨h2, hv⟩
            · obtain rfl := leafK_rep hj ry
              rcases lp_look hj lp with ⟨h1, h2⟩ | ⟨dd', v, h1, h2, rd⟩
              · rw [hdd] at h1; cases h1
              · rw [hdd] at h1; cases h1
                have q : H a = some (.dK kv) := q
                refine d_pop inv q ru h2 (.inl rfl) fun w' s' inv' rw' => ?_
                have hp : LPairs X.K ρ H (delD kvs k) (dropK kv j) := paired_filter lp fun p q h => by
                  rw [leafK_eqv h.1 hj]
                  simp
                obtain ⟨S', stp⟩ := SRel.dset (o := .dK (dropK kv j)) (kvs := delD kvs k) S ha (fun o u z => by rw [q] at z; cases z) fun stp => ⟨hz', hsy, .inl ⟨_, upd_same, paired_imp hp fun p q z => ⟨z.1, Rep.mono S stp _ _ z.2⟩⟩⟩
                exact ⟨v, _, inv', rw', hf ρ _ v stp S' (Rep.mono S stp _ _ rd)⟩
            · obtain ⟨xs0, rfl, _⟩ := kk2 h2
              cases ry with
              | tup q1 q2 =>
                cases ru
                have hkey := key_is inv h2 (.tup q1 q2)
                rcases hv with ⟨rfl, q⟩ | ⟨xs, ne, q, tp, nd⟩
                · cases hdd
                · have q' : H a = some (.ext _) := q
                  have de := dictOfH inv q tp nd
                  rcases tp_look h2 tp with ⟨h1, h3⟩ | ⟨dd', p, v, h1, h3, rv', rd⟩
                  · rw [hdd] at h1; cases h1
                  · rw [hdd] at h1; cases h1
                    refine call_pop_heap (hsz := by rw [← paired_len tp]; exact hz) (.inl rfl) (PySem.F.args_dict_pop_2 _ _) (room8 hu) hkey hsy de h3 fun h' hm' hsb => ?_
                    obtain ⟨o, es, ep, e1, e2, e3, e4, e5, e6⟩ := hm'
                    have tp' : TPairs X.K ρ H (delD kvs (.tup xs0)) (withoutH xs (nkey (.tup xs0))) := paired_filter tp fun p q h => by
                      have e : decide (q.1 = nkey (.tup xs0)) = D.eqv p.1 (.tup xs0) := by rw [h.2.1]; exact nkey_eq (kk2_flat h.1) (kk2_flat h2)
                      rw [← e]
                      simp
                    cases hw : delD kvs (.tup xs0) with
                    | nil =>
                      rw [hw] at tp'
                      have hx : withoutH xs (nkey (.tup xs0)) = [] := by cases hq : withoutH xs (nkey (.tup xs0)) with | nil => rfl | cons _ _ => rw [hq] at tp'; cases tp'
                      rw [hx] at e4
                      have e4 : es.toList = [] := e4
                      have dd0 : h'.DictOf (mixKind X.prog X.w) a [] := ⟨o, es, ep, e1, e2, e3, (by
                        have : es = #[] := by rw [← Array.toList_inj] ; exact e4
                        subst this
                        intro i hi
                        simp at hi), (by rw [e4]; exact .nil), List.nodup_nil⟩
                      have I' : Inv X pins σ (upd H a (.dK [])) { s with heap := h', toks := s.toks + (nestedKind X.prog X.w).draws (nkey (.tup xs0)) } := d_write inv (by rw [q']; exact True.intro) hsb ⟨o, e1⟩ (dk_new (Nat.zero_le _) hsy .nil dd0)
                      obtain ⟨S', stp⟩ := SRel.dset (o := .dK []) (kvs := delD kvs (.tup xs0)) S ha (fun o u z => by rw [q'] at z; cases z) fun stp => ⟨hz', hsy, .inl ⟨_, upd_same, by rw [hw]; exact .nil⟩⟩
                      exact ⟨v, _, I', rv', hf ρ _ v stp S' (Rep.mono S stp _ _ rd)⟩
                    | cons p0 r0 =>
                      have raw : rawD X.prog X.w a (withoutH xs (nkey (.tup xs0))) h' := ⟨o, es, ep, e1, e2, e3, e4⟩
                      have I' : Inv X pins σ (upd H a (.ext (rawD X.prog X.w a (withoutH xs (nkey (.tup xs0)))))) { s with heap := h', toks := s.toks + (nestedKind X.prog X.w).draws (nkey (.tup xs0)) } :=
                        inv.write (x := a) (e := a) (by rw [q']; exact True.intro) (.inl rfl) (fun b' u' hb hu' => (hsb.2 b' hb).trans hu') ⟨o, e1⟩ ⟨raw, ⟨o, e1⟩, fun h1 h2 r k => rawD_stay r k⟩
                      obtain ⟨S', stp⟩ := SRel.dset (o := .ext (rawD X.prog X.w a (withoutH xs (nkey (.tup xs0))))) (kvs := delD kvs (.tup xs0)) S ha (fun o u z => by rw [q'] at z; cases z) fun stp => ⟨hz', hsy, .inr ⟨by rw [hw]; exact fun z => (by cases z), _, upd_same, paired_imp tp' fun p q z => ⟨z.1, z.2.1, Rep.mono S stp _ _ z.2.2.1, let ⟨v, h1, h2⟩ := z.2.2.2; ⟨v, h1, Rep.mono S stp _ _ h2⟩⟩, e6⟩⟩
                      exact ⟨v, _, I', rv', hf ρ _ v stp S' (Rep.mono S stp _ _ rd)⟩
          · exact hf.elim
        · exact hf.elim
      · exact hf.elim
  · exact hf.elim
theorem mt_dclear : MtR X "dict.clear" (RMt m E X dclearV) := by
  intro pins s σ H x xs v us Q inv rx rv h
  obtain ⟨ρ, st, d, ds, S, r, rs, hf⟩ := h
  unfold dclearV at hf
  split at hf
  · cases rs
    cases rv
    cases r with
    | ref ha =>
      rename_i a
      cases rx
      split at hf
      · rename_i kvs g
        have dr := S.dct_at ha g
        obtain ⟨es, ep, raw, hsz, _⟩ := dct_raw inv dr
        obtain ⟨hz, hsy, hv⟩ := dr
        have mu : Mut (H a) ∧ ∀ o u, H a ≠ some (.frz o u) := by
          rcases hv with ⟨kv, q, _⟩ | ⟨_, xs, q, _⟩
          · have q : H a = some (.dK kv) := q
            rw [q]
            exact ⟨True.intro, fun o u z => by cases z⟩
          · have q : H a = some (.ext _) := q
            rw [q]
            exact ⟨True.intro, fun o u z => by cases z⟩
        refine call_meetsIn PySem.F.slot_dict_clear raw.typeIs PySem.F.entry_dict_clear (PySem.F.args_dict_clear_1 _) (meets_dict_clear_raw a) ⟨es, ep, raw, by rw [hsz]; exact hz, fun h' hr' hsb => ?_⟩
        obtain ⟨o, e1, e2, e3⟩ := hr'
        have dd0 : h'.DictOf (mixKind X.prog X.w) a [] := ⟨o, #[], _, e1, e2, e3, (by intro i hi; simp at hi), .nil, List.nodup_nil⟩
        have I' : Inv X pins σ (upd H a (.dK [])) { s with heap := h', toks := s.toks } := d_write inv mu.1 hsb ⟨o, e1⟩ (dk_new (Nat.zero_le _) hsy .nil dd0)
        obtain ⟨S', stp⟩ := SRel.dset (o := .dK []) (kvs := []) S ha mu.2 fun stp => ⟨Nat.zero_le _, hsy, .inl ⟨_, upd_same, .nil⟩⟩
        exact ⟨.non, _, I', rfl, hf ρ _ .non stp S' .non⟩
      · exact hf.elim
  · exact hf.elim
end
end VI
/-! VIx: dict(..), list(d.values()). -/
namespace VI
open PySem PySem.Spec PyProof.Rows L2
variable [LL]
/-- dict(d), d's keys tuples -/
theorem call_dictH {prog : Program} {w : World} {A : Around} {E : Value → Shared → Prop} {s : Shared} {K : Type} [DecidableEq K] {knd : HeapKind prog w K} {o : Addr} {more : List (K × Addr × Value)} {Q : Value → Shared → Prop} (hu : knd.room A.in1.in1) (hoS : (o == sysModules) = false) (ho : s.heap.DictOfH knd o more)
    (hty : ∀ x ∈ more, s.TypeIs (.ref x.2.1) "tuple") (hap : (more.map fun x => knd.hash x.1).Nodup) (hsz : more.length ≤ sizeLine) (hst : ∀ h', (∀ b o, s.heap.get? b = some o → h'.get? b = some o) → ∀ x ∈ more, knd.is h' x.1 x.2.1)
    (h : ∀ h', h'.DictOfH knd s.heap.objs.size more → (∀ b o, s.heap.get? b = some o → h'.get? b = some o) → Q (.ref s.heap.objs.size) { s with heap := h' }) :
    wpAny (model prog w) A (call (.type "dict") [.ref o]) Q E s := by
  refine callType_codes (Q₁ := fun obj s₁ => obj = .ref s.heap.objs.size ∧ s₁ = { s with heap := s.heap.push { cls := .type "dict", data := .dict #[] } }) F.kt_called_dict (F.kt_typeCall_dict_1 _) F.entry_dict_init (kt_code_dict_new _ ⟨rfl, rfl⟩) ?_
  rintro obj s1 ⟨rfl, rfl⟩
  have hT : Shared.TypeIs { s with heap := s.heap.push { cls := .type "dict", data := .dict #[] } } (.ref s.heap.objs.size) "dict" := ⟨_, Heap.get?_push_size _ rfl, rfl⟩
  refine ⟨hT, F.args_dict_init_2 _ _, ?_⟩
  unfold Builtin.«dict.__init__»
  refine wpAny_bind ?_
  unfold Builtin.Dict.selfAndRest
  refine wpAny_bind (wpAny_notOrdered_dict hT ?_)
  show wpAny _ _ (pure (s.heap.objs.size, [Value.ref o])) _ _ _
  refine wpAny_pure ?_
  have hlt : o < s.heap.objs.size := by obtain ⟨ob, _, _, e, _⟩ := ho; exact Heap.lt_size e
  have kp : ∀ b o, s.heap.get? b = some o → (s.heap.push { cls := .type "dict", data := .dict #[] }).get? b = some o := fun b o e => Heap.get?_push_of_some _ e
  have ho' : (s.heap.push { cls := .type "dict", data := .dict #[] }).DictOfH knd o more := by
    obtain ⟨ob, es, ep, e1, e2, e3, e4, _, e6⟩ := ho
    exact ⟨ob, es, ep, kp _ _ e1, e2, e3, e4, hst _ kp, e6⟩
  refine updateFrom_dictH (A := A.in1) (knd := knd) (kvs := []) .none hu (Nat.ne_of_gt hlt) hoS (Heap.DictOfH.new s.heap) ho' (.inr ⟨fun x hx => ?_, hap⟩) (by simpa using hsz) fun h' hd' _ hs => ⟨rfl, h h' ?_ fun b ob e => (hs.2 b (Nat.ne_of_lt (Heap.lt_size e))).trans (kp b ob e)⟩
  · obtain ⟨ob, e1, e2⟩ := hty x hx
    exact ⟨ob, kp _ _ e1, e2⟩
  · rw [storedAllH_nil_of_nodup more ho.nodup] at hd'
    exact hd'
mutual
theorem hash_nkey (w : World) : ∀ (d : D) (h : Int), hashD d = some h → (nkey d).hash w = h
  | .non, h, e => by simp only [hashD, Option.some.injEq] at e; subst e; rfl
  | .bl b, h, e => by simp only [hashD, Option.some.injEq] at e; subst e; cases b <;> rfl
  | .int i, h, e => by simp only [hashD, Option.some.injEq] at e; subst e; rfl
  | .str _, h, e => by simp [hashD] at e
  | .tup xs, h, e => by
    simp only [hashD] at e
    obtain ⟨hs, h1, rfl⟩ := Option.map_eq_some_iff.mp e
    simp only [nkey, NestedKey.hash, hash_nkeys w xs hs h1]
  | .ref _, h, e => by simp [hashD] at e
theorem hash_nkeys (w : World) : ∀ (d : List D) (h : List Int), hashDs d = some h → NestedKey.hashes w (nkeys d) = h
  | [], h, e => by simp only [hashDs, Option.some.injEq] at e; subst e; rfl
  | x :: xs, h, e => by
    unfold hashDs at e
    split at e
    · rename_i a as h1 h2
      cases e
      simp only [nkeys, NestedKey.hashes, hash_nkey w x a h1, hash_nkeys w xs as h2]
    · cases e
end
theorem nodupB_ok : ∀ {l : List Int}, nodupB l = true → l.Nodup
  | [], _ => List.nodup_nil
  | x :: xs, h => by
    simp only [nodupB, Bool.and_eq_true, Bool.not_eq_true', List.any_eq_false, decide_eq_true_eq] at h
    exact List.nodup_cons.mpr ⟨fun hm => h.1 x hm rfl, nodupB_ok h.2⟩
section
variable {m : Md} {E : XK} {X : Cx} {e a b o : Expr} {x y z : Ex} {pos apos cpos : Pos} {ρ : List Addr} {H : Hp} {st : Store} {pins : List (Addr × Obj)} {σ : L2.St} {s : Shared}
theorem apart_ok : ∀ {kvs : List (D × D)} {xs : List (NestedKey × Addr × Value)} {hs : List Int}, TPairs X.K ρ H kvs xs → allOpt (fun (p : D × D) => hashD p.1) kvs = some hs → (xs.map fun x => x.1.hash X.w) = hs
  | _, _, hs, .nil, e => by simp only [allOpt, Option.some.injEq] at e; subst e; rfl
  | p :: kvs, q :: xs, hs, .cons h t, e => by
    unfold allOpt at e
    split at e
    · rename_i y ys h1 h2
      cases e
      rw [List.map_cons, apart_ok t h2, h.2.1, hash_nkey X.w p.1 y h1]
    · cases e
theorem tpairs_ty (I : Inv X pins σ H s) {kvs : List (D × D)} {xs : List (NestedKey × Addr × Value)} (tp : TPairs X.K ρ H kvs xs) : ∀ x ∈ xs, s.TypeIs (.ref x.2.1) "tuple" := fun x hx => by
  obtain ⟨i, hi⟩ := List.getElem?_of_mem hx
  obtain ⟨p, _, h⟩ := paired_at tp hi
  obtain ⟨ys, e, _⟩ := kk2 h.1
  have r := h.2.2.1
  rw [e] at r
  cases r with
  | tup q rs =>
    obtain ⟨its, rv, ⟨ob, h1, h2, _⟩, _⟩ := I.tuple q
    exact ⟨ob, h1, h2⟩
theorem tpairs_stay (I : Inv X pins σ H s) {kvs : List (D × D)} {xs : List (NestedKey × Addr × Value)} (tp : TPairs X.K ρ H kvs xs) : ∀ h', (∀ b o, s.heap.get? b = some o → h'.get? b = some o) → ∀ x ∈ xs, (nestedKind X.prog X.w).is h' x.1 x.2.1 := fun h' hk x hx =>
  tpairs_is (s := { s with heap := h' }) (I.kept (t' := s.toks) hk) tp x hx
/-- a dict with tuple keys, just laid -/
theorem laid_dict (I : Inv X pins σ H s) {h' : Heap} {tk : Nat} {xs : List (NestedKey × Addr × Value)} (S : Rel m X ρ H st) {kvs : List (D × D)} (ne : kvs ≠ []) (hz : kvs.length ≤ sizeLine) (tp : TPairs X.K ρ H kvs xs) (hk : ∀ b o, s.heap.get? b = some o → h'.get? b = some o) (hd : h'.DictOfH (nestedKind X.prog X.w) s.heap.objs.size xs)
    {Q : VK} (hf : Fin m E X ρ H (.ok (.ref st.sz) (st.add (.dct false kvs))) (rD X) Q) : EP X pins σ Q (.ref s.heap.objs.size) { s with heap := h', toks := tk } := by
  have hn := I.hok.fresh (Nat.le_refl s.heap.objs.size)
  have hbig : (s.heap.objs.size == sysModules) = false := beq_eq_false_iff_ne.mpr (Ne.symm (Nat.ne_of_lt I.big))
  obtain ⟨ob, es, ep, e1, e2, e3, e4, e5, e6⟩ := hd
  have raw : rawD X.prog X.w s.heap.objs.size xs h' := ⟨ob, es, ep, e1, e2, e3, e4⟩
  have I' : Inv X pins σ (upd H s.heap.objs.size (.ext (rawD X.prog X.w s.heap.objs.size xs))) { s with heap := h', toks := tk } := I.laid hk (Nat.le_refl _) ⟨raw, ⟨ob, e1⟩, fun h1 h2 r k => rawD_stay r k⟩
  obtain ⟨S', s'⟩ := SRel.grow (H' := upd H s.heap.objs.size (.ext (rawD X.prog X.w s.heap.objs.size xs))) (ob := .dct false kvs) S hn (fun a ha _ => upd_ne ha) (fun stp => ⟨hz, hbig, .inr ⟨ne, xs, upd_same, paired_imp tp fun p q z => ⟨z.1, z.2.1, Rep.mono S stp _ _ z.2.2.1, let ⟨v, h1, h2⟩ := z.2.2.2; ⟨v, h1, Rep.mono S stp _ _ h2⟩⟩, e6⟩⟩)
  refine ⟨.ref s.heap.objs.size, _, I', rfl, hf _ _ _ s' S' (.ref ?_)⟩
  rw [S.sz, List.getElem?_append_right (Nat.le_refl _)]
  simp
theorem laid_dK (S : Rel m X ρ H st) {kvs : List (D × D)} {kv : List (Key × V)} (hz : kvs.length ≤ sizeLine) (lp : LPairs X.K ρ H kvs kv) {p : Addr} (hp : H p = none) (hbig : (p == sysModules) = false) {Q : VK} (hf : Fin m E X ρ H (.ok (.ref st.sz) (st.add (.dct false kvs))) (rD X) Q) : Q (.ref p) (upd H p (.dK kv)) := by
  obtain ⟨S', s'⟩ := SRel.grow (H' := upd H p (.dK kv)) (ob := .dct false kvs) S hp (fun a ha _ => upd_ne ha) (fun stp => ⟨hz, hbig, .inl ⟨kv, upd_same, paired_imp lp fun p q z => ⟨z.1, Rep.mono S stp _ _ z.2⟩⟩⟩)
  refine hf _ _ _ s' S' (.ref ?_)
  rw [S.sz, List.getElem?_append_right (Nat.le_refl _)]
  simp
/-- pairs in a list: tuples as keys -/
inductive PrT (X : Cx) (ρ : List Addr) (H : Hp) (h : Heap) : List D → List Value → List (D × D) → List (NestedKey × Addr × Value) → List (Addr × Value × Value) → Prop
  | nil : PrT X ρ H h [] [] [] [] []
  | cons {k d : D} {T ka : Addr} {v : V} {u : Value} {xs : List D} {us : List Value} {ps : List (D × D)} {qs : List (NestedKey × Addr × Value)} {ts : List (Addr × Value × Value)} : kk k = 2 → Rep X.K ρ H k (.ref ka) → Rep X.K ρ H d v → RelV v u → h.IsTuple T #[.ref ka, u] →
      PrT X ρ H h xs us ps qs ts → PrT X ρ H h (.tup [k, d] :: xs) (.ref T :: us) ((k, d) :: ps) ((nkey k, ka, u) :: qs) ((T, .ref ka, u) :: ts)
theorem kkOk_put {acc : List (D × D)} {k v : D} {j : D} (h : kkOk (putD acc k v) j = true) (hk : kkOk acc k = true) : kk j = kk k := by
  unfold putD at h
  split at h
  · cases acc with
    | nil => simp [lookD] at *
    | cons p r =>
      simp only [List.map_cons, kkOk, Bool.and_eq_true] at h hk
      have h1 : kk j = kk p.1 := by
        have := h.2
        split at this <;> simpa using this
      have h2 : kk k = kk p.1 := by simpa using hk.2
      rw [h1, h2]
  · cases acc with
    | nil => simp only [List.nil_append, kkOk, Bool.and_eq_true] at h; simpa using h.2
    | cons p r =>
      simp only [List.cons_append, kkOk, Bool.and_eq_true] at h hk
      have h1 : kk j = kk p.1 := by simpa using h.2
      have h2 : kk k = kk p.1 := by simpa using hk.2
      rw [h1, h2]
theorem prT_of (I : Inv X pins σ H s) : ∀ {xs : List D} {vs : List V} {us : List Value} {acc kvs : List (D × D)}, pairsD xs acc = some kvs → (∀ k v r, xs = .tup [k, v] :: r → kk k = 2) → Reps X.K ρ H xs vs → Vals vs us → ∃ ps qs ts, PrT X ρ H s.heap xs us ps qs ts
  | [], _, _, _, _, _, _, .nil, .nil => ⟨[], [], [], .nil⟩
  | x :: xs, _, _, acc, kvs, h, h2, .cons r rs, .cons rv rvs => by
    unfold pairsD at h
    split at h
    · rename_i k v
      split at h
      · rename_i hc
        simp only [Bool.and_eq_true] at hc
        have hk2 := h2 k v xs rfl
        cases r with
        | tup q rr =>
          cases rr with
          | cons r1 rr =>
            cases rr with
            | cons r2 rr =>
              cases rr
              cases rv
              obtain ⟨its, rvi, p, _⟩ := I.tuple q
              cases rvi with
              | cons v1 rvi =>
                cases rvi with
                | cons v2 rvi =>
                  cases rvi
                  obtain ⟨xs0, rfl, _⟩ := kk2 hk2
                  cases r1 with
                  | tup q1 r1' =>
                    cases v1
                    obtain ⟨ps, qs, ts, t⟩ := prT_of I h (fun k' v' r' e => by
                      subst e
                      unfold pairsD at h
                      simp only at h
                      split at h
                      · rename_i hc'
                        simp only [Bool.and_eq_true] at hc'
                        rw [kkOk_put hc'.1 hc.1]; exact hk2
                      · cases h) rs rvs
                    exact ⟨_, _, _, .cons hk2 (.tup q1 r1') r2 v2 (show s.heap.IsTuple _ _ from p) t⟩
      · cases h
    · cases h
theorem prT_put {h : Heap} : ∀ {xs : List D} {us : List Value} {ps : List (D × D)} {qs : List (NestedKey × Addr × Value)} {ts : List (Addr × Value × Value)}, PrT X ρ H h xs us ps qs ts → ∀ {acc kvs : List (D × D)} {ac : List (NestedKey × Addr × Value)}, pairsD xs acc = some kvs → TPairs X.K ρ H acc ac → acc.length ≤ sizeLine → TPairs X.K ρ H kvs (storedAllH ac qs) ∧ kvs.length ≤ sizeLine ∧ (xs ≠ [] → kvs ≠ [])
  | _, _, _, _, _, .nil, acc, kvs, ac, e, tp, hl => by
    simp only [pairsD, Option.some.injEq] at e
    subst e
    exact ⟨tp, hl, fun z => absurd rfl z⟩
  | _, _, _, _, _, .cons hk r1 r2 rv hT t, acc, kvs, ac, e, tp, hl => by
    unfold pairsD at e
    simp only at e
    split at e
    · rename_i hc
      simp only [Bool.and_eq_true, decide_eq_true_eq] at hc
      have hp : ∀ k v acc kvs xs, pairsD xs (putD acc k v) = some kvs → kvs ≠ [] := fun k v acc kvs xs => by
        induction xs generalizing acc k v with
        | nil => intro e; simp only [pairsD, Option.some.injEq] at e; subst e; exact putD_ne _ _ _
        | cons x r ih =>
          intro e
          unfold pairsD at e
          split at e
          · split at e
            · exact ih _ _ _ e
            · cases e
          · cases e
      have ht := TPairs.put hk r1 r2 rv tp (by rcases tp_look hk tp with ⟨h1, h2⟩ | ⟨d, p, v, h1, h2, _⟩ <;> rw [h1, h2] <;> rfl)
      obtain ⟨g1, g2, _⟩ := prT_put t e ht (Nat.le_trans (putD_len _ _ _) (by rw [← line_eq]; exact hc.2))
      exact ⟨g1, g2, fun _ => hp _ _ _ _ _ e⟩
    · cases e
theorem prT_items {h : Heap} : ∀ {xs : List D} {us : List Value} {ps : List (D × D)} {qs : List (NestedKey × Addr × Value)} {ts : List (Addr × Value × Value)}, PrT X ρ H h xs us ps qs ts → us.length = ts.length ∧ qs.length = ts.length ∧ (∀ (j : Nat) (T : Addr) (k v : Value), ts[j]? = some (T, k, v) → us[j]? = some (Value.ref T) ∧ PairAt h T k v ∧ ∃ n ka, qs[j]? = some (n, ka, v) ∧ k = Value.ref ka) ∧ TPairs X.K ρ H ps qs
  | _, _, _, _, _, .nil => ⟨rfl, rfl, fun j T k v e => by simp at e, .nil⟩
  | _, _, _, _, _, .cons hk r1 r2 rv hT t => by
    obtain ⟨h1, h2, h3, h4⟩ := prT_items t
    refine ⟨congrArg (· + 1) h1, congrArg (· + 1) h2, fun j T k v e => ?_, .cons ⟨hk, rfl, r1, _, rv, r2⟩ h4⟩
    cases j with
    | zero =>
      simp at e
      obtain ⟨rfl, rfl, rfl⟩ := e
      exact ⟨rfl, .inl hT, _, _, rfl, rfl⟩
    | succ j =>
      obtain ⟨g1, g2, n, ka, g3, g4⟩ := h3 j T k v (by simpa using e)
      exact ⟨by simpa using g1, g2, n, ka, by simpa using g3, g4⟩
/-- pairs in a list: ints and texts as keys -/
theorem prL_of (hc0 : ∀ (a : Addr) (xs : List V), SqT X.K H a xs → SqT X.K H a xs) : ∀ {xs : List D} {vs : List V} {acc kvs : List (D × D)} {ac : List (Key × V)}, pairsD xs acc = some kvs → (∀ k v r, xs = .tup [k, v] :: r → kk k = 1) → Reps X.K ρ H xs vs → LPairs X.K ρ H acc ac → acc.length ≤ sizeLine →
    ∃ (ps : List Addr) (kv : List (Key × V)), vs = ps.map V.ref ∧ Paired (fun p q => SqT X.K H p [kV q.1, q.2]) ps kv ∧ LPairs X.K ρ H kvs (mergeK ac kv) ∧ kvs.length ≤ sizeLine
  | [], _, acc, kvs, ac, h, _, .nil, lp, hl => by
    simp only [pairsD, Option.some.injEq] at h
    subst h
    exact ⟨[], [], rfl, .nil, lp, hl⟩
  | x :: xs, _, acc, kvs, ac, h, h2, .cons r rs, lp, hl => by
    unfold pairsD at h
    split at h
    · rename_i k v
      split at h
      · rename_i hc
        simp only [Bool.and_eq_true, decide_eq_true_eq] at hc
        have hk1 := h2 k v xs rfl
        obtain ⟨j, hj⟩ := kk1 hk1
        cases r with
        | tup q rr =>
          cases rr with
          | cons r1 rr =>
            cases rr with
            | cons r2 rr =>
              cases rr
              obtain rfl := leafK_rep hj r1
              rename_i T vv
              have he : (lookD acc k).isSome = (valV ac j).isSome := by
                rcases lp_look hj lp with ⟨h1, h2⟩ | ⟨d, v, h1, h2, _⟩ <;> rw [h1, h2] <;> rfl
              obtain ⟨ps, kv, g1, g2, g3, g4⟩ := prL_of hc0 (ac := putK ac j vv) h (fun k' v' r' e => by
                subst e
                unfold pairsD at h
                simp only at h
                split at h
                · rename_i hc'
                  simp only [Bool.and_eq_true] at hc'
                  rw [kkOk_put hc'.1 hc.1]; exact hk1
                · cases h) rs (LPairs.put hj r2 lp he) (Nat.le_trans (putD_len _ _ _) (by rw [← line_eq]; exact hc.2))
              refine ⟨T :: ps, (j, vv) :: kv, by rw [g1]; rfl, .cons q g2, g3, g4⟩
      · cases h
    · cases h
theorem blt_dict (hc : X.calm = true) (hu : X.A.units + 65 < cLine) : CallR X (.type "dict") (RLD m E X dictV) := by
  intro pins s σ H xs us Q I r h
  obtain ⟨ρ, st, ds, S, rs, hf⟩ := h
  unfold dictV at hf
  split at hf
  · rename_i n
    obtain ⟨v, rfl, rv⟩ := reps_one rs
    cases rv with
    | @ref _ a ha =>
      split at hf
      · rename_i xs g
        split at hf
        · rename_i kvs hp
          obtain ⟨vs, e1, rs1⟩ := S.lst_at ha g
          have cases0 : xs = [] ∨ (∀ k v r, xs = .tup [k, v] :: r → kk k = 1) ∨ ((∀ k v r, xs = .tup [k, v] :: r → kk k = 2) ∧ xs ≠ []) := by
            cases xs with
            | nil => exact .inl rfl
            | cons x r =>
              right
              unfold pairsD at hp
              split at hp
              · rename_i k v
                split at hp
                · rename_i hc'
                  simp only [Bool.and_eq_true, kkOk] at hc'
                  have h0 : kk k ≠ 0 := by simpa using hc'.1
                  have : kk k = 1 ∨ kk k = 2 := by
                    cases k with
                    | tup ys => unfold kk at h0 ⊢; simp only at h0 ⊢; split at h0 <;> simp_all
                    | str ys => unfold kk at h0 ⊢; simp only at h0 ⊢; split at h0 <;> simp_all
                    | int i => exact .inl rfl
                    | _ => exact absurd rfl h0
                  rcases this with h1 | h2
                  · exact .inl fun k' v' r' e => by cases e; exact h1
                  · exact .inr ⟨fun k' v' r' e => by cases e; exact h2, fun z => by cases z⟩
                · cases hp
              · cases hp
          have leaf : (∀ k v r, xs = .tup [k, v] :: r → kk k = 1) → wpAny (model X.prog X.w) X.A (call (.type "dict") us) (EP X pins σ Q) X.xe s := fun h1 => by
            obtain ⟨ps, kv, g1, g2, g3, g4⟩ := prL_of (fun _ _ z => z) hp h1 rs1 .nil (Nat.zero_le _)
            subst g1
            refine thn (L2.call_dictP hc pins s σ H _ us (fun v H' => ∃ p, v = .ref p ∧ H p = none ∧ H' = upd H p (.dK (mergeK [] kv))) I r ⟨a, ps, kv, rfl, SqL.of e1, g2, fun p hp' => ⟨p, rfl, hp', rfl⟩⟩) fun u s1 ⟨v, H', I', rv, p, e2, hp', e3⟩ => ?_
            subst e2 e3
            exact ⟨_, _, I', rv, laid_dK S g4 g3 hp' (dk_of I'.hok upd_same).2.1 hf⟩
          rcases cases0 with h0 | h1 | ⟨h2, hne⟩
          · exact leaf fun k v r e => by rw [h0] at e; cases e
          · exact leaf h1
          · obtain ⟨u, rfl, ru⟩ := r.one
            cases ru
            obtain ⟨its, rvi, pl, hz⟩ := I.list (SqL.of e1)
            obtain ⟨ps, qs, ts, pr⟩ := prT_of I hp h2 rs1 rvi
            obtain ⟨l1, l2, l3, l4⟩ := prT_items pr
            obtain ⟨t1, t2, t3⟩ := prT_put pr hp .nil (Nat.zero_le _)
            have hpl : PlainSeq "list" s.heap a its.toArray := by
              obtain ⟨o, n', ho, hcl, hdd, hdt⟩ := pl
              exact ⟨o, n', ho, hcl, hdd, hdt⟩
            have hpi : PairItems s.heap its.toArray (fun j => (ts.getD j (0, .none, .none)).1) (ts.map fun z => (z.2.1, z.2.2)) := by
              refine ⟨by rw [List.size_toArray, List.length_map]; exact l1, fun j k v hj => ?_⟩
              rw [List.getElem?_map] at hj
              obtain ⟨⟨T, k', v'⟩, hz', e⟩ := Option.map_eq_some_iff.mp hj
              cases e
              obtain ⟨g1, g2, _⟩ := l3 j T k' v' hz'
              have hg : ts.getD j (0, .none, .none) = (T, k', v') := by rw [List.getD_eq_getElem?_getD, hz']; rfl
              simp only [hg]
              exact ⟨by simpa using g1, g2⟩
            refine call_dict_pairsH (knd := nestedKind X.prog X.w) (ps := qs) (PairArg.list a its.toArray _ _) (I.ok.hd hc) ?_ ⟨hpl, hpi⟩ ⟨by rw [List.length_map]; exact l2, fun i k v hr => ?_⟩ ?_ (by rw [List.length_map, ← l1]; rw [← rvi.length]; exact hz) fun h' tk hd hk => laid_dict I S (t3 hne) t2 t1 (fun b o e => hk b o (by simp) e) hd hf
            · show X.A.units + 1 + 1 + 8 < cLine
              omega
            · have hr : (ts.map fun z => (z.2.1, z.2.2))[i]? = some (k, v) := hr
              rw [List.getElem?_map] at hr
              obtain ⟨⟨T, k', v'⟩, hz', e⟩ := Option.map_eq_some_iff.mp hr
              cases e
              obtain ⟨_, _, n', ka, g3, g4⟩ := l3 i T k' v' hz'
              exact ⟨n', ka, g3, g4⟩
            · intro h' hk x hx
              refine tpairs_stay I l4 h' (fun b o e => hk b o (Nat.ne_of_lt (Heap.lt_size e)) (by simp) e) x hx
        · exact hf.elim
      · rename_i lk kvs g
        split at hf
        · rename_i hap
          have dr := S.dct_at ha g
          obtain ⟨hz, hsy, hv⟩ := dr
          rcases hv with ⟨kv, q, lp⟩ | ⟨ne, xs, q, tp, nd⟩
          · refine thn (L2.call_dictD pins s σ H _ us (fun v H' => ∃ p, v = .ref p ∧ H p = none ∧ H' = upd H p (.dK kv)) I r ⟨a, kv, rfl, q.rd, fun p hp' => ⟨p, rfl, hp', rfl⟩⟩) fun u s1 ⟨v, H', I', rv, p, e2, hp', e3⟩ => ?_
            subst e2 e3
            exact ⟨_, _, I', rv, laid_dK S hz lp hp' (dk_of I'.hok upd_same).2.1 hf⟩
          · obtain ⟨u, rfl, ru⟩ := r.one
            cases ru
            have hnd : (xs.map fun x => (nestedKind X.prog X.w).hash x.1).Nodup := by
              cases tp with
              | nil => exact absurd rfl ne
              | cons h0 t0 =>
                cases t0 with
                | nil => simp
                | cons h1 t1 =>
                  unfold apart at hap
                  simp only [Bool.and_eq_true] at hap
                  have hap2 := hap.2
                  split at hap2
                  · rename_i hs hhs
                    have := apart_ok (.cons h0 (.cons h1 t1)) hhs
                    show (List.map (fun (x : NestedKey × Addr × Value) => x.1.hash X.w) _).Nodup
                    rw [this]
                    exact nodupB_ok hap2
                  · cases hap2
            have hd := dictOfH I q tp nd
            exact call_dictH (by show X.A.units + 1 + 1 + 8 < cLine; omega) hsy hd (tpairs_ty I tp) hnd (by rw [← paired_len tp]; exact hz) (tpairs_stay I tp) fun h' hd' hk => laid_dict (tk := s.toks) I S ne hz tp hk hd' hf
        · exact hf.elim
      · exact hf.elim
  · exact hf.elim
end
end VI
/-! VIy: list(d.values()), calls of methods by keywords. -/
namespace VI
open PySem PySem.Spec PyProof.Rows L2
variable [LL]
def Xs.cat : Xs → Xs → Xs
  | .nil, y => y
  | .cons b e r, y => .cons b e (r.cat y)
theorem evX_cat {T : Tbl} {F : Nat} {call : Caller} {env : Env} (ys : Xs) : ∀ (xs : Xs) (st : Store), evX T F call (xs.cat ys) env st = (evX T F call xs env st).bind fun es s => (evX T F call ys env s).bind fun zs s => .ok (es ++ zs) s
  | .nil, st => by
    simp only [Xs.cat, evX, R.bind]
    cases evX T F call ys env st <;> rfl
  | .cons b e r, st => by
    simp only [Xs.cat, evX]
    cases evE T F call e env st with
    | ok d s =>
      simp only [R.bind, evX_cat ys r]
      cases b with
      | false =>
        cases evX T F call r env s with
        | ok es s1 => simp only [R.bind, if_false, Bool.false_eq_true]; cases evX T F call ys env s1 <;> rfl
        | exc c x s => rfl
        | stuck => rfl
      | true =>
        simp only [if_true]
        cases starOf d s with
        | none => rfl
        | some zs =>
          cases evX T F call r env s with
          | ok es s1 => simp only [R.bind]; cases evX T F call ys env s1 <;> simp [R.bind]
          | exc c x s => rfl
          | stuck => rfl
    | exc c x s => rfl
    | stuck => rfl
section
variable {m : Md} {E : XK} {X : Cx} {e a b o : Expr} {x y z : Ex} {pos apos cpos : Pos} {ρ : List Addr} {H : Hp} {st : Store} {pins : List (Addr × Obj)} {σ : L2.St} {s : Shared}
theorem se_listVals {p : Pos} (hc : X.calm = true) (hg : Gl X "list") (hm : X.mg "list" = none) (he : PE X o (tEv m E X x)) (hbase : attributeBase o "values" X.env (eval o X.env) = eval o X.env) (hline : (apos.endLine == cpos.line) = true) :
    PE X (.Call (.Name "list" p) [.Call (.Attribute o "values" apos) [] [] cpos] [] pos) (tEv m E X (.blt .listVals (.cons false x .nil))) := by
  refine ⟨fun pins s σ H Q inv ⟨ρ, env, st, hen, S, hf⟩ => ?_⟩
  simp only [evE, ev1, bind_assoc] at hf
  refine wpAny_Call_Name_kw (ld_blt inv hg hm (show bootBuiltins "list" = some (.type "list") from rfl) ?_ (by decide) (by decide))
  refine PyProof.Rows.callWith_type1 ?_ rfl rfl
  show wpAny _ _ (spliced ((false, eval (.Call (.Attribute o "values" apos) [] [] cpos) X.env) :: backTo pos (starEach [] X.env))) _ _ s
  refine Calls.spliced_cons ?_
  refine wpAny_Call_method (T := "dict") (id := "dict.values") hbase rfl hline F.plainAttrs_dict F.slot_dict_values F.type_dict_values (thn (he.run pins s σ H (fun v H1 => ∃ ρ1 st1 n d kvs lk, v = .ref d ∧ ρ1[n]? = some d ∧ st1.get n = some (.dct lk kvs) ∧ Rel m X ρ1 H1 st1 ∧ Fin m E X ρ1 H1 (.ok (.ref st1.sz) (st1.add (.lst (kvs.map (·.2))))) (rD X) Q) inv ⟨ρ, env, st, hen, S, hf.bind fun dd st1 ρ1 H1 v s1 S1 r1 hf1 => ?_⟩) fun u s1 ⟨v, H1, inv1, ru, ρ1, st1, n, d, kvs, lk, hv, hn, hg', S1, hf1⟩ => ?_)
  · have hf1 : Fin m E X ρ1 H1 (listValsV [dd] st1) (rD X) Q := hf1
    unfold listValsV at hf1
    cases r1 with
    | @ref n d hn =>
      simp only at hf1
      split at hf1
      · rename_i lk kvs g
        exact ⟨ρ1, st1, n, d, kvs, lk, rfl, hn, g, S1, hf1⟩
      · exact hf1.elim
    | _ => exact hf1.elim
  · subst hv
    cases ru
    have dr := S1.dct_at hn hg'
    obtain ⟨es, ep, raw, hsz, hat⟩ := dct_raw inv1 dr
    refine ⟨raw.typeIs, fun a' hz => ?_, ?_⟩
    · cases hz
      obtain ⟨ob, h1, h2, _⟩ := raw
      exact ⟨ob, h1, h2.2.1⟩
    · refine method_meetsIn F.slot_dict_values F.entry_dict_values rfl (PySem.evalArgs_none ⟨rfl, raw.typeIs, F.args_dict_values_1 _, _, meets_dict_values_raw d dr.2.1, ⟨⟨es, ep, raw⟩, ?_⟩⟩)
      have inv2 : Inv X pins σ H1 { s1 with heap := s1.heap.push { cls := .type "dict_values", data := .fields #[.ref d] } } := inv1.kept (t' := s1.toks) fun b ob q => Heap.get?_push_of_some _ q
      refine Calls.spliced_nil ?_
      generalize hs2 : ({ s1 with heap := s1.heap.push { cls := .type "dict_values", data := .fields #[.ref d] } } : Shared) = s2 at inv2 ⊢
      have hview : s2.heap.IsValuesView s1.heap.objs.size d := by rw [← hs2]; exact ⟨_, Heap.get?_push_size _ rfl, rfl, rfl⟩
      have hraw : s2.heap.DictRaw d es ep := by rw [← hs2]; exact raw.push _
      show wpAny _ _ (call (.type "list") [.ref s1.heap.objs.size]) _ _ s2
      refine PySem.W.kdl_call (KdlSrc.rawValues (es := es) (ep := ep) (d := d) (r := s1.heap.objs.size)) (inv2.ok.hd hc) ⟨hview, hraw⟩ (by rw [hsz]; exact dr.1) fun h' tk acc c' hk hS' hacc => ?_
      obtain ⟨vs, h1, h2⟩ := reps_of (X := X) (ρ := ρ1) (H := H1) (ds := kvs.map (·.2)) (us := acc.toList) (by have := hacc.1; simp; omega) fun j dd u e1 e2 => by
        obtain ⟨hj, rfl⟩ := hacc.2 j u (by rw [← Array.getElem?_toList]; exact e2)
        obtain ⟨p, vk, vd, h1, _, _, h2, h3⟩ := hat j hj
        rw [List.getElem?_map, h1] at e1
        cases e1
        exact ⟨vd, h2, h3⟩
      have hz : vs.length ≤ sizeLine := by rw [← h2.length, List.length_map]; exact dr.1
      exact ⟨.ref s2.heap.objs.size, upd H1 s2.heap.objs.size (.lst vs), inv2.laid hk (Nat.le_refl _) (show ObjOk X.prog X.w _ _ _ (.lst vs) from ⟨hz, acc.toList, c', h1, by rw [Array.toArray_toList]; exact hS'⟩), rfl, hf1.lst S1 h2 (inv2.hok.fresh (Nat.le_refl _))⟩
/-! ### o.m(e, .., k=v) -/
structure MethOkK (m : Md) (X : Cx) (w : Str) (ks : List Str) (n : Nat) : Prop where
  nm : ∃ j, m.nm.aN[j]? = some w ∧ m.nm.nf ≤ j
  at_ : ∀ (c : Nat) (C : Addr) (k : Cl) (p : Nat × List D), m.nm.cA[c]? = some C → m.T.cls[c]? = some k → k.ms.lookup n = some p → ∃ kk g fd ps np, Meth X.K C w g ∧ FnOk X.prog X.w X.K X.mg X.base (L2.CX X.prog X.w) kk g fd ps (spI m X.prog X.w X.K m.call p.1 ps.length) ∧ Room kk X.A ∧ p.2 = [] ∧ ps.length = np + 1 + ks.length ∧
    (∀ (s : Shared) (us ws : List Value), us.length = np + 1 → ws.length = ks.length → BindsTo s fd ⟨us, ks.zip ws⟩ (ps.zip (us ++ ws))) ∧ ∀ as st, as.length ≠ ps.length → m.call p.1 as st = .stuck
theorem evX_len2 {T : Tbl} {F : Nat} {call : Caller} {env : Env} {ys : Xs} {n : Nat} {st st' : Store} {ds : List D} (h : ys.plain = some n) (e : evX T F call ys env st = .ok ds st') : ds.length = n := evX_len _ _ _ _ _ h e
theorem se_methK {w : Str} {n : Nat} {ks : List Str} {es : List Expr} {kws : List Keyword} {ys zs : Xs} (hcl : ClsOk m.nm X.K) (hx : Passes (L2.CX X.prog X.w) X E) (mo : MethOkK m X w ks n) (he : PE X o (tEv m E X x)) (ha : PA X (e :: es) (tEvX m E X ys)) (hkw : PK X kws (tEvX m E X zs)) (hl2 : zs.plain = some ks.length)
    (hks : (backToKw pos (keywordEach kws X.env)).map (·.1) = ks.map some)
    (hbase : attributeBase o w X.env (eval o X.env) = eval o X.env) (hform : methodCallForm ((e :: es).length + kws.length) (backTo pos (starEach (e :: es) X.env)) (backToKw pos (keywordEach kws X.env)) = true) (hline : (apos.endLine == pos.line) = true)
    (h1 : starEach (e :: es) X.env = (false, eval e X.env) :: starEach es X.env) (h2 : (backTo pos (starEach es X.env)).any (·.1) = false) :
    PE X (.Call (.Attribute o w apos) (e :: es) kws pos) (tEv m E X (.meth x n (ys.cat zs))) := by
  have hall : (backToKw pos (keywordEach kws X.env)).all (·.1.isSome) = true := by
    have : (backToKw pos (keywordEach kws X.env)).all (·.1.isSome) = ((backToKw pos (keywordEach kws X.env)).map (·.1)).all Option.isSome := by rw [List.all_map]; rfl
    rw [this, hks]
    simp
  have hfm : (backToKw pos (keywordEach kws X.env)).filterMap (·.1) = ks := by
    have : (backToKw pos (keywordEach kws X.env)).filterMap (·.1) = ((backToKw pos (keywordEach kws X.env)).map (·.1)).filterMap id := by rw [List.filterMap_map]; rfl
    rw [this, hks]
    simp
  refine ⟨fun pins s σ H Q inv ⟨ρ, env, st, hen, S, hf⟩ => ?_⟩
  simp only [evE] at hf
  rw [arm_eval_Call, hbase]
  refine wpAny_bind (thn (he.run pins s σ H (fun v H1 => ∃ ρ1 st1 d c k p, Step ρ H ρ1 H1 ∧ Rel m X ρ1 H1 st1 ∧ Rep X.K ρ1 H1 d v ∧ clsAt st1 d = some c ∧ m.T.cls[c]? = some k ∧ k.ms.lookup n = some p ∧ Fin m E X ρ1 H1 ((evX m.T m.F m.call (ys.cat zs) env st1).bind fun ds s => m.call p.1 (d :: (ds ++ p.2)) s) (rD X) Q) inv ⟨ρ, env, st, hen, S, hf.bind fun d st1 ρ1 H1 v s1 S1 r1 hf1 => ?_⟩) fun u s1 ⟨v, H1, inv1, rv, ρ1, st1, d, c, k, f, stp1, S1, r1, hc, hk, hms, hf1⟩ => ?_)
  · split at hf1
    · rename_i c hc
      split at hf1
      · rename_i k hk
        split at hf1
        · rename_i f hms
          exact ⟨ρ1, st1, d, c, k, f, s1, S1, r1, hc, hk, hms, hf1⟩
        · exact hf1.elim
      · exact hf1.elim
    · exact hf1.elim
  · obtain ⟨i, a, C, dx, fs, fv, rfl, rfl, hia, hC, hH, fr⟩ := cls_at S1 r1 hc
    obtain ⟨kk, g, fd, ps, np, hM, F, hr, hp2, hps, hb, har⟩ := mo.at_ c C k f hC hk hms
    obtain ⟨jn, hj1, hj2⟩ := mo.nm
    cases rv
    refine wpAny_bind (wpAny_standAt ?_)
    unfold methodCall
    rw [hform]
    have hpos : methodCallPos true o X.env apos pos = pure pos := by unfold methodCallPos; simp [hline]
    refine wpAny_bind (wpAny_holding (getmeth_ok inv1 hH (hcl.at_ _ _ hC).1 hM (frep_none hcl.nd hj1 hj2 fr) (wpAny_bind (wpAny_of_eq hpos ?_))))
    rw [evX_cat, bind_assoc] at hf1
    have hkb : KBn X.K fd ps (np + 1) ks (fun us ws => us ++ ws) (fun vs zs => vs ++ zs) := ⟨fun s us ws _ g1 g2 => hb s us ws g1 g2, fun r1 r2 => r1.append r2⟩
    refine PySem.W.callWith_KW (first := [.ref a]) (h₀ := X.base) inv.ok.mod.kin hM.kp hall (thn (ha.run pos pins s1 σ H1 (fun vs H2 => ∃ ρ2 st2 ds, Step ρ1 H1 ρ2 H2 ∧ Rel m X ρ2 H2 st2 ∧ Reps X.K ρ2 H2 ds vs ∧ Fin m E X ρ2 H2 ((evX m.T m.F m.call zs env st2).bind fun es s => m.call f.1 (.ref i :: ((ds ++ es) ++ f.2)) s) (rD X) Q) inv1 ⟨ρ1, env, st1, hen.mono S stp1, S1, hf1.bind fun ds st2 ρ2 H2 vs s2 S2 r2 hf2 => ⟨ρ2, st2, ds, s2, S2, r2, by rw [bind_assoc] at hf2; exact hf2⟩⟩) fun us s2 ⟨vs, H2, inv2, r2, ρ2, st2, ds, stp2, S2, rs, hf2⟩ => ?_) ?_ h1
    · refine thn (hkw.run pos pins s2 σ H2 (fun zv H3 => ∃ ρ3 st3 es, es.length = ks.length ∧ Step ρ2 H2 ρ3 H3 ∧ Rel m X ρ3 H3 st3 ∧ Reps X.K ρ3 H3 es zv ∧ Fin m E X ρ3 H3 (m.call f.1 (.ref i :: ((ds ++ es) ++ f.2)) st3) (rD X) Q) inv2 ⟨ρ2, env, st2, (hen.mono S stp1).mono S1 stp2, S2, ?_⟩) fun ws s3 ⟨zv, H3, inv3, r3, ρ3, st3, es', hel, stp3, S3, rs3, hf3⟩ => ⟨inv3.kIn, ?_⟩
      · cases hr2 : evX m.T m.F m.call zs env st2 with
        | ok es st3 => rw [hr2] at hf2; exact fun ρ3 H3 zv s3 S3 r3 => ⟨ρ3, st3, es, evX_len2 hl2 hr2, s3, S3, r3, Fin.step hf2 s3⟩
        | exc c x' s' => rw [hr2] at hf2; exact hf2
        | stuck => rw [hr2] at hf2; exact hf2.elim
      · rw [hp2, List.append_nil] at hf3
        have rs2 : Reps X.K ρ3 H3 (.ref i :: (ds ++ es')) (.ref a :: vs ++ zv) := .cons (.ref (stp3.ext _ _ (stp2.ext _ _ hia))) ((Reps.mono S2 stp3 _ _ rs).append rs3)
        have hlen : (D.ref i :: (ds ++ es')).length = ps.length := by
          refine Decidable.byContradiction fun hne => ?_
          rw [har _ st3 hne] at hf3
          exact hf3
        have hdl : ds.length = np := by
          rw [List.length_cons, List.length_append, hps, hel] at hlen
          omega
        rw [hfm]
        refine run_fnN (vs := .ref a :: vs) (zs := zv) (us := [.ref a] ++ us) F hr hkb hx inv3 (show Vals (V.ref a :: vs) (Value.ref a :: us) from .cons rfl r2) r3 ?_ ?_ ⟨?_, ρ3, st3, _, S3, rs2, hf3.k⟩
        · rw [List.length_cons, ← rs.length, hdl]
        · rw [← rs3.length, hel]
        · rw [← rs2.length, hlen]
    · rw [h1]
      show ((false || (backTo pos (starEach es X.env)).any (·.1)) || _) = false
      rw [h2, Bool.false_or, Bool.false_or, List.any_eq_false]
      intro q hq
      have := List.all_eq_true.mp hall q hq
      cases hq1 : q.1 with
      | none => rw [hq1] at this; cases this
      | some _ => simp
end
end VI
/-! VIya: list(enumerate(xs)) of a list. -/
namespace VI
open PySem PySem.Spec PyProof.Rows L2
variable [LL]
section
variable {m : Md} {E : XK} {X : Cx} {e a b o : Expr} {x y z : Ex} {pos apos cpos : Pos} {ρ : List Addr} {H : Hp} {st : Store} {pins : List (Addr × Obj)} {σ : L2.St} {s : Shared}
/-- what an enumeration stands at whose tuples are held -/
def EnSt (h : Heap) (e it l : Addr) (i : Nat) : Prop :=
  h.IsListIter it l i ∧ ((∃ old, IsEnum h e it (i : Int) old) ∨ ∃ T old f oT, IsEnumHeld h e it (i : Int) old T f ∧ h.get? T = some oT ∧ T ≠ e ∧ T ≠ it)
theorem enst_item {prog : Program} {w : World} {A : Around} {E : Value → Shared → Prop} {s : Shared} {e it l : Addr} {i : Nat} {items : Array Value} {x : Value} {Q : Option Value → Shared → Prop}
    (h : EnSt s.heap e it l i) (hl : s.heap.IsList l items) (hx : items[i]? = some x) (hne : e ≠ it) (he : e < s.heap.objs.size) (hi : it < s.heap.objs.size)
    (hQ : ∀ h' : Heap, EnSt h' e it l (i + 1) → h'.get? s.heap.objs.size = some { cls := .type "tuple", data := .seq #[.int i s.toks, x] } →
      (∀ b o, b ≠ e → b ≠ it → s.heap.get? b = some o → h'.get? b = some o) → Q (some (.ref s.heap.objs.size)) { s with heap := h', toks := s.toks + 1 }) :
    wpAny (model prog w) A (pyNext (.ref e)) Q E s := by
  have e1 : ((i + 1 : Nat) : Int) = (i : Int) + 1 := by omega
  obtain ⟨hit, h | ⟨T, old, f, oT, hh, hT, h1, h2⟩⟩ := h
  · obtain ⟨old, h⟩ := h
    refine wpAny_pyNext_enum_item h hit hl hx hne fun h' ho hit' ht _ hk => hQ h' ⟨hit', .inr ⟨s.heap.objs.size, x, false, _, ?_, ht, Nat.ne_of_gt he, Nat.ne_of_gt hi⟩⟩ ht hk
    rw [e1]; exact ho
  · refine wpAny_pyNext_enum_item_held hh hT h1 h2 hit hl hx hne fun h' ho hit' ht _ hk => hQ h' ⟨hit', .inr ⟨T, old, true, oT, ?_, hk T oT h1 h2 hT, h1, h2⟩⟩ ht hk
    rw [e1]; exact ho
theorem enst_end {prog : Program} {w : World} {A : Around} {E : Value → Shared → Prop} {s : Shared} {e it l : Addr} {i : Nat} {items : Array Value} {Q : Option Value → Shared → Prop} (hA : A.handled = none)
    (h : EnSt s.heap e it l i) (hl : s.heap.IsList l items) (hx : items[i]? = none)
    (hQ : ∀ h' : Heap, (∀ b o, b ≠ it → s.heap.get? b = some o → h'.get? b = some o) → Q none { s with heap := h' }) :
    wpAny (model prog w) A (pyNext (.ref e)) Q E s := by
  obtain ⟨hit, h | ⟨T, old, f, oT, hh, hT, h1, h2⟩⟩ := h
  · obtain ⟨old, h⟩ := h
    exact wpAny_pyNext_enum_end hA h hit hl hx fun h' hb => hQ h' hb
  · exact wpAny_pyNext_enum_end_held hA hh hit hl hx fun h' hb => hQ h' hb
theorem enst_keep {h h' : Heap} {e it l : Addr} {i : Nat} (st : EnSt h e it l i) (k : ∀ b o, b = e ∨ b = it → h.get? b = some o → h'.get? b = some o) (k2 : ∀ b o, h.get? b = some o → ∃ o', h'.get? b = some o') : EnSt h' e it l i := by
  obtain ⟨hit, q⟩ := st
  refine ⟨hit.at fun o q => k it o (.inr rfl) q, ?_⟩
  rcases q with ⟨old, q⟩ | ⟨T, old, f, oT, hh, hT, h1, h2⟩
  · exact .inl ⟨old, k e _ (.inl rfl) q⟩
  · obtain ⟨o', hT'⟩ := k2 T oT hT
    exact .inr ⟨T, old, f, o', k e _ (.inl rfl) hh, hT', h1, h2⟩
theorem numbered_get : ∀ (xs : List D) (k i : Nat) (x : D), xs[i]? = some x → (numbered k xs)[i]? = some (.tup [.int ((k + i : Nat) : Int), x])
  | x :: xs, k, 0, y, h => by
    cases Option.some.inj h
    rfl
  | x :: xs, k, i + 1, y, h => by
    have := numbered_get xs (k + 1) i y h
    show (numbered (k + 1) xs)[i]? = _
    rw [this]
    have : k + 1 + i = k + (i + 1) := by omega
    rw [this]
theorem numbered_len : ∀ (xs : List D) (k : Nat), (numbered k xs).length = xs.length
  | [], _ => rfl
  | x :: xs, k => by show (numbered (k + 1) xs).length + 1 = _; rw [numbered_len xs]; rfl
theorem enum_loop {en it l S : Addr} {vs : List V} {xs : List D} {res : Value} {A : Around} {R : Result → Shared → Prop} {H1 : Hp} (hA : A.handled = none) (hne : en ≠ it) (hlS : l ≠ S) (hSe : S ≠ en) (hSi : S ≠ it) (hSρ : S ∉ ρ)
    (hR : ∀ H s av, Inv X pins σ H s → (∀ a, H1 a ≠ none → H a = H1 a) → H S = some (.lst av) → Rel m X ρ H st → Reps X.K ρ H (numbered 0 xs) av → R (.ok (.ret res)) s) (hH1 : H1 S = none) :
    ∀ (k i : Nat) (H : Hp) (s : Shared) (av : List V), vs.length - i = k → i ≤ vs.length → Inv X pins σ H s → (∀ a, H1 a ≠ none → H a = H1 a) → (∀ b ∈ [en, it], FpOk X pins H b) → H l = some (.lst vs) → H S = some (.lst av) → av.length = i → Rel m X ρ H st → Reps X.K ρ H xs vs →
      Reps X.K ρ H ((numbered 0 xs).take i) av → EnSt s.heap en it l i → en < s.heap.objs.size → it < s.heap.objs.size →
      codeAny (model X.prog X.w) A (.builtin "list.extend.loop" { pos := [.ref S, .ref en, res] }) R s := by
  intro k
  induction k with
  | zero =>
    intro i H s av hk hi inv hx hfp hl hS hav rel rx ra hst h1 h2
    have hin : i = vs.length := by omega
    subst hin
    obtain ⟨its, rv, p, hz⟩ := inv.list (SqL.of hl)
    refine codeAny_builtin F.entry_extend_loop ?_
    rw [Around.under_plainId F.plain_extend_loop]
    show wpAny _ _ (pyNext (.ref en) >>= _) _ _ s
    refine wpAny_bind (enst_end (show A.in1.handled = none from hA) hst p.isList (by simp; rw [rv.length]; exact Nat.le_refl _) fun h' hkp => wpAny_pure ?_)
    have inv' : Inv X pins σ H { s with heap := h' } := inv.turnedL (ch := [en, it]) (fun b o hb q => hkp b o (fun z => hb (by simp [z])) q) hfp
    refine hR H _ av inv' hx hS rel ?_
    have e : (numbered 0 xs).take vs.length = numbered 0 xs := List.take_of_length_le (by rw [numbered_len, rx.length]; exact Nat.le_refl _)
    rw [e] at ra
    exact ra
  | succ k ih =>
    intro i H s av hk hi inv hx hfp hl hS hav rel rx ra hst h1 h2
    have hlt : i < vs.length := by omega
    obtain ⟨its, rv, p, hz⟩ := inv.list (SqL.of hl)
    obtain ⟨xv, hxv⟩ : ∃ x, vs[i]? = some x := ⟨vs[i], List.getElem?_eq_getElem hlt⟩
    obtain ⟨u, hu, ru⟩ := rv.get hxv
    obtain ⟨dx, hdx, rdx⟩ := rx.getV hxv
    refine codeAny_builtin F.entry_extend_loop ?_
    rw [Around.under_plainId F.plain_extend_loop]
    show wpAny _ _ (pyNext (.ref en) >>= _) _ _ s
    refine wpAny_bind (enst_item hst p.isList (x := u) (by simpa using hu) hne h1 h2 fun h' hst' hT hkp => ?_)
    have hT0 : H s.heap.objs.size = none := inv.fresh
    have new : ObjOk X.prog X.w (upd H s.heap.objs.size (.tup [.int (i : Nat), xv])) h' s.heap.objs.size (.tup [.int (i : Nat), xv]) :=
      ⟨by show 2 ≤ sizeLine; decide, [.int i s.toks, u], .cons ⟨_, rfl⟩ (.cons ru .nil), ⟨_, hT, rfl, _, rfl⟩⟩
    have inv1 : Inv X pins σ (upd H s.heap.objs.size (.tup [.int (i : Nat), xv])) { s with heap := h', toks := s.toks + 1 } :=
      inv.turnedNew (ch := [en, it]) (fun b ob hb q => hkp b ob (fun z => hb (by simp [z])) (fun z => hb (by simp [z])) q) hfp (Nat.le_refl _) new
    have hST : S ≠ s.heap.objs.size := fun z => by rw [z, hT0] at hS; cases hS
    have hlT : l ≠ s.heap.objs.size := fun z => by rw [z, hT0] at hl; cases hl
    have hS1 : upd H s.heap.objs.size (.tup [.int (i : Nat), xv]) S = some (.lst av) := by rw [upd_ne hST]; exact hS
    obtain ⟨hzl, its2, n2, rv2, hl2, hg2⟩ := inv1.lstM hS1
    have hsz : its2.length = i := by rw [← hl2]; exact hav
    show wpAny _ _ (Builtin.List.listUpdate (.ref S) (fun x => x.push (.ref s.heap.objs.size)) >>= _) _ _ _
    refine wpAny_bind (wpAny_updateSeq hg2 rfl (wpAny_pure ⟨plainId_quiet F.plain_extend_loop _, ?_⟩) (by simp; omega) (by simp; omega))
    have inv2 := inv1.lset (t' := s.toks + 1) (f := fun x => x.push (.ref s.heap.objs.size)) (its' := its2 ++ [.ref s.heap.objs.size]) (ys := av ++ [.ref s.heap.objs.size]) hS1 hg2 (by simp) (Vals.append rv2 (.cons (show RelV (.ref s.heap.objs.size) (.ref s.heap.objs.size) from rfl) .nil)) (by simp; omega)
    obtain ⟨rel1, stp1⟩ := SRel.other (o := .tup [.int (i : Nat), xv]) rel hT0
    have rel2 := rel1.beside (o := .lst (av ++ [.ref s.heap.objs.size])) hS1 hSρ
    have mv : ∀ (ds : List D) (ws : List V), Reps X.K ρ H ds ws → Reps X.K ρ (upd (upd H s.heap.objs.size (.tup [.int (i : Nat), xv])) S (.lst (av ++ [.ref s.heap.objs.size]))) ds ws := fun ds ws r =>
      Reps.mv (fun _ _ z => z) (sqt_upd hS1) (xk_upd hS1) _ _ (Reps.mono rel stp1 _ _ r)
    have hsqT : SqT X.K (upd (upd H s.heap.objs.size (.tup [.int (i : Nat), xv])) S (.lst (av ++ [.ref s.heap.objs.size]))) s.heap.objs.size [.int (i : Nat), xv] :=
      sqt_upd hS1 _ _ (SqT.of upd_same)
    have hrt : Rep X.K ρ (upd (upd H s.heap.objs.size (.tup [.int (i : Nat), xv])) S (.lst (av ++ [.ref s.heap.objs.size]))) (.tup [.int ((i : Nat) : Int), dx]) (.ref s.heap.objs.size) := by
      refine .tup hsqT ?_
      have r1 := mv [dx] [xv] (.cons rdx .nil)
      exact .cons (.int _) r1
    have hkS : ∀ b o, b ≠ S → h'.get? b = some o → (h'.update S (Obj.mapSeq fun x => x.push (.ref s.heap.objs.size))).get? b = some o := fun b o hb q => (Heap.get?_update_other h' _ (Ne.symm hb)).trans q
    refine ih (i + 1) _ _ (av ++ [.ref s.heap.objs.size]) (by omega) hlt inv2 (fun a ha => ?_) (fun b hb => ?_) ?_ upd_same (by simp [hav]) rel2 (mv _ _ rx) ?_ ?_ ?_ ?_
    · have n1 : a ≠ s.heap.objs.size := fun z => by
        have := hx a ha
        rw [z, hT0] at this
        rw [z] at ha
        exact ha this.symm
      have n2 : a ≠ S := fun z => by rw [z] at ha; exact ha hH1
      rw [upd_ne n2, upd_ne n1]; exact hx a ha
    · obtain ⟨q1, q2⟩ := hfp b hb
      have n1 : b ≠ S := by
        rcases List.mem_cons.mp hb with z | z
        · rw [z]; exact Ne.symm hSe
        · rw [List.mem_singleton.mp z]; exact Ne.symm hSi
      have n2 : b ≠ s.heap.objs.size := by
        rcases List.mem_cons.mp hb with z | z
        · rw [z]; exact Nat.ne_of_lt h1
        · rw [List.mem_singleton.mp z]; exact Nat.ne_of_lt h2
      exact ⟨by rw [upd_ne n1, upd_ne n2]; exact q1, q2⟩
    · rw [upd_ne hlS, upd_ne hlT]; exact hl
    · have e : (numbered 0 xs).take (i + 1) = (numbered 0 xs).take i ++ [.tup [.int ((i : Nat) : Int), dx]] := by
        have g := numbered_get xs 0 i dx hdx
        rw [Nat.zero_add] at g
        rw [List.take_add_one, g]
        rfl
      rw [e]
      exact Reps.append (mv _ _ ra) (.cons hrt .nil)
    · refine enst_keep hst' (fun b o hb q => hkS b o ?_ q) fun b o q => ?_
      · rcases hb with rfl | rfl
        · exact Ne.symm hSe
        · exact Ne.symm hSi
      · by_cases hb : b = S
        · subst hb; exact ⟨_, Heap.get?_update_self _ hg2 rfl⟩
        · exact ⟨o, hkS b o hb q⟩
    · obtain ⟨o, q⟩ : ∃ o, (h'.update S (Obj.mapSeq fun x => x.push (.ref s.heap.objs.size))).get? en = some o := by
        obtain ⟨_, q | ⟨T, old, f, oT, hh, _⟩⟩ := hst'
        · obtain ⟨old, q⟩ := q; exact ⟨_, hkS en _ (Ne.symm hSe) q⟩
        · exact ⟨_, hkS en _ (Ne.symm hSe) hh⟩
      exact Heap.lt_size q
    · obtain ⟨o, q⟩ : ∃ o, (h'.update S (Obj.mapSeq fun x => x.push (.ref s.heap.objs.size))).get? it = some o := by
        obtain ⟨⟨o, q, _⟩, _⟩ := hst'
        exact ⟨o, hkS it o (Ne.symm hSi) q⟩
      exact Heap.lt_size q
theorem enum_hint {prog : Program} {w : World} {A : Around} {E : Value → Shared → Prop} {s : Shared} {en : Addr} {Q : Bool → Shared → Prop} (hT : s.TypeIs (.ref en) "enumerate") (h : Q true s) :
    wpAny (model prog w) A (Builtin.List.listLengthHint (.ref en)) Q E s := by
  unfold Builtin.List.listLengthHint
  refine wpAny_bind (wpAny_specialOf hT (am_miss_of_fast (by decide +kernel)) ?_)
  show wpAny _ _ (specialOf (.ref en) (Str.ofString "__length_hint__") >>= _) _ _ s
  exact wpAny_bind (wpAny_specialOf hT (am_miss_of_fast (by decide +kernel)) (wpAny_pure h))
theorem list_enum {Q : Value → Shared → Prop} {en it l : Addr} {vs : List V} {xs : List D} {A : Around} {EE : Value → Shared → Prop} {s : Shared} (hA : A.handled = none) (inv : Inv X pins σ H s) (hfp : ∀ b ∈ [en, it], FpOk X pins H b) (hne : en ≠ it) (hl : H l = some (.lst vs)) (rel : Rel m X ρ H st) (rx : Reps X.K ρ H xs vs)
    (he : IsEnum s.heap en it 0 .none) (hit : s.heap.IsListIter it l 0)
    (hQ : ∀ H' s' av, Inv X pins σ H' s' → (∀ a, H a ≠ none → H' a = H a) → H' s.heap.objs.size = some (.lst av) → Rel m X ρ H' st → Reps X.K ρ H' (numbered 0 xs) av → Q (.ref s.heap.objs.size) s') :
    wpAny (model X.prog X.w) A (call (.type "list") [.ref en]) Q EE s := by
  have h1 : en < s.heap.objs.size := Heap.lt_size he
  have h2 : it < s.heap.objs.size := by obtain ⟨o, q, _⟩ := hit; exact Heap.lt_size q
  have hH : H s.heap.objs.size = none := inv.fresh
  refine callType_codes (Q₁ := fun obj s₁ => obj = .ref s.heap.objs.size ∧ s₁ = { s with heap := s.heap.push { cls := .type "list", data := .seq #[] } }) F.called_list (F.typeCall_list_1 (.ref en)) F.entry_list_init (code_list_new (.ref en) ⟨rfl, rfl⟩) fun obj s₁ h₁ => ?_
  obtain ⟨rfl, rfl⟩ := h₁
  have hS := Heap.get?_push_size s.heap (o := { cls := .type "list", data := .seq #[] }) rfl
  refine ⟨⟨_, hS, rfl⟩, F.args_list_init_2 _ _, ?_⟩
  generalize hSn : s.heap.objs.size = S at hS hQ hH h1 h2 ⊢
  have kS : ∀ (h : Heap) (f : Obj → Obj) b u, b < S → h.get? b = some u → (h.update S f).get? b = some u := fun h f b u hb q => (Heap.get?_update_other h f (Nat.ne_of_gt hb)).trans q
  have kp : ∀ b u, s.heap.get? b = some u → (s.heap.push { cls := .type "list", data := .seq #[] }).get? b = some u := fun b u q => Heap.get?_push_of_some _ q
  have kb : ∀ b u, s.heap.get? b = some u → b < S := fun b u q => by rw [← hSn]; exact Heap.lt_size q
  refine wpAny_bind (wpAny_bind (wpAny_seqItems hS rfl (wpAny_pure ?_)))
  refine wpAny_bind (wpAny_updateSeq hS rfl ?_ (by simp) (by simp))
  have hS2 := Heap.get?_update_self (Obj.mapSeq fun _ => #[]) hS rfl
  refine wpAny_bind (wpAny_letGo ?_)
  generalize hh2 : (s.heap.push { cls := .type "list", data := .seq #[] }).update S (Obj.mapSeq fun _ => #[]) = h2' at hS2 ⊢
  have k2 : ∀ b u, s.heap.get? b = some u → h2'.get? b = some u := fun b u q => by rw [← hh2]; exact kS _ _ b u (kb b u q) (kp b u q)
  show wpAny _ _ (Builtin.List.listExtendWith (.ref S) (.ref en) .none) _ _ _
  unfold Builtin.List.listExtendWith
  have hT : ∀ (s' : Shared), (∀ b u, s.heap.get? b = some u → s'.heap.get? b = some u) → s'.TypeIs (.ref en) "enumerate" := fun s' k => ⟨_, k en _ he, rfl⟩
  refine wpAny_bind (wpAny_typeOf (hT _ k2) ?_)
  have hb : (Builtin.List.listSameRef (.ref S) (.ref en) || (Value.type "enumerate" == Value.type "list") || (Value.type "enumerate" == Value.type "tuple")) = false := by
    have e1 : Builtin.List.listSameRef (.ref S) (.ref en) = false := by
      show (S == en) = false
      exact beq_eq_false_iff_ne.mpr (Nat.ne_of_gt h1)
    rw [e1]; decide
  rw [hb]
  show wpAny _ _ (pyIter (.ref en) >>= _) _ _ _
  refine wpAny_bind (wpAny_pyIter_enum (it := it) (i := 0) (old := .none) (k2 en _ he) ?_)
  refine wpAny_bind (wpAny_holding (enum_hint (hT _ k2) ?_))
  show wpAny _ _ (rule "list.extend.makes-room" >>= _) _ _ _
  refine wpAny_bind (wpAny_rule ?_)
  refine wpAny_bind (wpAny_bind (wpAny_updateSeq hS2 rfl ?_ (by simp [Obj.mapSeq]) (by simp [Obj.mapSeq])))
  have hS3 := Heap.get?_update_self (Obj.mapSeq fun x => x.push Value.none) hS2 rfl
  refine wpAny_updateSeq hS3 rfl ?_ (show 1 ≤ sizeLine by decide) (show 0 ≤ sizeLine + 1 from Nat.zero_le _)
  have hS4 := Heap.get?_update_self (Obj.mapSeq fun x => x.pop) hS3 rfl
  generalize hh4 : (h2'.update S (Obj.mapSeq fun x => x.push Value.none)).update S (Obj.mapSeq fun x => x.pop) = h4 at hS4 ⊢
  have k4 : ∀ b u, s.heap.get? b = some u → h4.get? b = some u := fun b u q => by rw [← hh4]; exact kS _ _ b u (kb b u q) (kS _ _ b u (kb b u q) (k2 b u q))
  refine wpAny_pure ⟨plainId_quiet F.plain_extend_loop _, ?_⟩
  have inv4 : Inv X pins σ (upd H S (.lst [])) { s with heap := h4 } := inv.laid k4 (by rw [hSn]; exact Nat.le_refl _) (show ObjOk X.prog X.w _ _ _ (.lst []) from ⟨by simp, [], _, .nil, hS4⟩)
  have hlS : l ≠ S := fun z => by rw [z, hH] at hl; cases hl
  obtain ⟨rel4, stp4⟩ := SRel.other (o := .lst []) rel hH
  have hSρ : S ∉ ρ := fun z => rel.live z hH
  refine enum_loop (A := A.in1) (res := .none) (R := wants (fun r s₂ => r = .none ∧ Q (.ref S) s₂) EE) (H1 := H) (l := l) (it := it) (vs := vs) (xs := xs) (ρ := ρ) (st := st) (m := m) (X := X) (pins := pins) (σ := σ) (show A.in1.handled = none from hA) hne hlS (Nat.ne_of_gt h1) (Nat.ne_of_gt h2) hSρ (fun H' s' av i1 i2 i3 i4 i5 => ⟨rfl, hQ H' s' av i1 i2 i3 i4 i5⟩) hH vs.length 0 (upd H S (.lst [])) _ [] (Nat.sub_zero _) (Nat.zero_le _) inv4 (fun a ha => upd_ne fun z => ?_) (fun b hb => ?_) ?_ upd_same rfl rel4 (Reps.mono rel stp4 _ _ rx) .nil ⟨hit.at fun o q => k4 it o q, .inl ⟨.none, k4 en _ he⟩⟩ ?_ ?_
  · rw [z] at ha; exact ha hH
  · obtain ⟨q1, q2⟩ := hfp b hb
    have hbS : b ≠ S := by
      rcases List.mem_cons.mp hb with z | z
      · rw [z]; exact Nat.ne_of_lt h1
      · rw [List.mem_singleton.mp z]; exact Nat.ne_of_lt h2
    exact ⟨by rw [upd_ne hbS]; exact q1, q2⟩
  · rw [upd_ne hlS]; exact hl
  · exact Heap.lt_size (k4 en _ he)
  · obtain ⟨o, q, _⟩ := hit; exact Heap.lt_size (k4 it o q)
theorem se_listEnum {p p1 p2 : Pos} (hc : X.calm = true) (hg : Gl X "list") (hm : X.mg "list" = none) (hg2 : Gl X "enumerate") (hm2 : X.mg "enumerate" = none) (ha : PA X [e] (tEvX m E X (.cons false x .nil))) (hs : starEach [e] X.env = [(false, eval e X.env)]) :
    PE X (.Call (.Name "list" p) [.Call (.Name "enumerate" p1) [e] [] p2] [] pos) (tEv m E X (.blt .listEnum (.cons false x .nil))) := by
  refine ⟨fun pins s σ H Q inv ⟨ρ, env, st, hen, S, hf⟩ => ?_⟩
  have hf : Fin m E X ρ H ((evX m.T m.F m.call (.cons false x .nil) env st).bind fun ds s => listEnumV ds s) (rD X) Q := by simpa only [evE, bltV] using hf
  refine wpAny_Call_Name_kw (ld_blt inv hg hm (show bootBuiltins "list" = some (.type "list") from rfl) ?_ (by decide) (by decide))
  refine PyProof.Rows.callWith_type1 ?_ rfl rfl
  show wpAny _ _ (spliced ((false, eval (.Call (.Name "enumerate" p1) [e] [] p2) X.env) :: backTo pos (starEach [] X.env))) _ _ s
  refine Calls.spliced_cons ?_
  refine Call_ (ld_blt inv hg2 hm2 boot_enumerate (PyProof.Rows.callWith_type1 (thn (ha.run p2 pins s σ H (fun vs H1 => ∃ ρ1 st1 n l ys, vs = [.ref l] ∧ ρ1[n]? = some l ∧ st1.get n = some (.lst ys) ∧ Rel m X ρ1 H1 st1 ∧ Fin m E X ρ1 H1 (.ok (.ref st1.sz) (st1.add (.lst (numbered 0 ys)))) (rD X) Q) inv ⟨ρ, env, st, hen, S, hf.bind fun ds st1 ρ1 H1 vs s1 S1 r1 hf1 => ?_⟩) fun us s1 ⟨vs, H1, inv1, rv, ρ1, st1, n, l, ys, hv, hn, hg', S1, hf1⟩ => ?_) hs rfl))
  · match ds, r1, hf1 with
    | [], _, hf1 => exact hf1.elim
    | [d], .cons r1 .nil, hf1 =>
      cases r1 with
      | @ref n l hn =>
        have hf1 : Fin m E X ρ1 H1 (listEnumV [.ref n] st1) (rD X) Q := hf1
        unfold listEnumV at hf1
        simp only at hf1
        split at hf1
        · rename_i ys g
          exact ⟨ρ1, st1, n, l, ys, rfl, hn, g, S1, hf1⟩
        · exact hf1.elim
      | _ => exact hf1.elim
    | d :: d2 :: ds, _, hf1 => cases d <;> exact hf1.elim
  · subst hv
    obtain ⟨u, rfl, ru⟩ := rv.one
    cases ru
    obtain ⟨vs, e1, rs1⟩ := S1.lst_at hn hg'
    obtain ⟨its, rv', p', hz⟩ := inv1.list (SqL.of e1)
    refine call_enumerate_list p'.isList fun h' he hit hsz hk => ?_
    have inv2 : Inv X pins σ H1 { s1 with heap := h' } := inv1.kept (t' := s1.toks) hk
    refine Calls.spliced_nil ?_
    show wpAny _ _ (call (.type "list") [.ref (s1.heap.objs.size + 1)]) _ _ _
    have hfp : ∀ b ∈ [s1.heap.objs.size + 1, s1.heap.objs.size], FpOk X pins H1 b := fun b hb => by
      have hle : s1.heap.objs.size ≤ b := by
        rcases List.mem_cons.mp hb with z | z
        · rw [z]; exact Nat.le_add_right _ _
        · rw [List.mem_singleton.mp z]; exact Nat.le_refl _
      exact inv1.fpOk hle (inv1.hok.fresh hle)
    refine list_enum (m := m) (st := st1) (ρ := ρ1) (xs := ys) (s := { s1 with heap := h' }) (inv1.ok.hd hc) inv2 hfp (Nat.succ_ne_self _) e1 S1 rs1 he hit fun H' s' av i1 i2 i3 i4 i5 => ?_
    have hfr : H1 h'.objs.size = none := inv2.fresh
    have hnρ : h'.objs.size ∉ ρ1 := fun z => S1.live z hfr
    refine ⟨.ref h'.objs.size, H', i1, rfl, hf1 (ρ1 ++ [h'.objs.size]) H' (.ref h'.objs.size) ⟨ext_app, fun a o h hn => ⟨?_, ?_⟩, fun a o u h => ?_⟩ (i4.adopt i3 hnρ i5) (.ref ?_)⟩
    · rw [i2 a (by rw [h]; exact fun z => by cases z)]; exact h
    · intro hmem
      rcases List.mem_append.mp hmem with z | z
      · exact hn z
      · rw [List.mem_singleton.mp z, hfr] at h; cases h
    · rw [i2 a (by rw [h]; exact fun z => by cases z)]; exact h
    · rw [S1.sz, List.getElem?_append_right (Nat.le_refl _)]; simp
/-! ### sorted(rows) -/
theorem insD_pw {le : D → D → Bool} (T : W.TotalLe le) (x : D) : ∀ l : List D, l.Pairwise (fun a b => le a b = true) → (insD le x l).Pairwise (fun a b => le a b = true) ∧ ∀ y ∈ insD le x l, y = x ∨ y ∈ l
  | [], _ => ⟨by simp [insD], fun y h => by simp [insD] at h; exact .inl h⟩
  | y :: r, h => by
    unfold insD
    split
    · rename_i hle
      refine ⟨List.pairwise_cons.mpr ⟨fun z hz => ?_, h⟩, fun z hz => ?_⟩
      · rcases List.mem_cons.mp hz with rfl | hz
        · exact hle
        · exact T.trans _ _ _ hle ((List.pairwise_cons.mp h).1 z hz)
      · rcases List.mem_cons.mp hz with rfl | hz
        · exact .inl rfl
        · exact .inr hz
    · rename_i hle
      obtain ⟨h1, h2⟩ := List.pairwise_cons.mp h
      obtain ⟨i1, i2⟩ := insD_pw T x r h2
      have hyx : le y x = true := (T.total y x).resolve_right hle
      refine ⟨List.pairwise_cons.mpr ⟨fun z hz => ?_, i1⟩, fun z hz => ?_⟩
      · rcases i2 z hz with rfl | hz
        · exact hyx
        · exact h1 z hz
      · rcases List.mem_cons.mp hz with rfl | hz
        · exact .inr List.mem_cons_self
        · rcases i2 z hz with e | hz
          · exact .inl e
          · exact .inr (List.mem_cons_of_mem _ hz)
theorem insD_filter {le : D → D → Bool} (T : W.TotalLe le) (c x : D) : ∀ l : List D, (insD le x l).filter (W.sameRank le c) = (x :: l).filter (W.sameRank le c)
  | [] => rfl
  | y :: r => by
    unfold insD
    split
    · rfl
    · rename_i hle
      rw [List.filter_cons, insD_filter T c x r]
      rw [List.filter_cons (x := x) (xs := y :: r), List.filter_cons (x := y) (xs := r), List.filter_cons (x := x) (xs := r)]
      by_cases hx : W.sameRank le c x = true
      · by_cases hy : W.sameRank le c y = true
        · exfalso
          unfold W.sameRank at hx hy
          rw [Bool.and_eq_true] at hx hy
          exact hle (T.trans _ _ _ hx.2 hy.1)
        · simp [hy]
      · simp [hx]
theorem isortD_eq {le : D → D → Bool} (T : W.TotalLe le) (xs : List D) : isortD le xs = xs.mergeSort le := by
  have h : ∀ xs : List D, (isortD le xs).Pairwise (fun a b => le a b = true) ∧ ∀ c, (isortD le xs).filter (W.sameRank le c) = xs.filter (W.sameRank le c) := by
    intro xs
    induction xs with
    | nil => exact ⟨.nil, fun c => rfl⟩
    | cons x xs ih =>
      refine ⟨(insD_pw T x _ ih.1).1, fun c => ?_⟩
      show (insD le x (isortD le xs)).filter (W.sameRank le c) = _
      rw [insD_filter T c x, List.filter_cons, ih.2 c, ← List.filter_cons]
  exact W.sort_unique T (h xs).1 (h xs).2
theorem encA_depth (x : D) : (encA x).depth = 0 := by cases x <;> rfl
theorem encAs_depth : ∀ xs : List D, PyData.depthAll (xs.map encA) = 0
  | [] => rfl
  | x :: xs => by simp only [List.map_cons, PyData.depthAll, encA_depth, encAs_depth xs]; rfl
theorem encT_depth (x : D) : (encT x).depth ≤ 1 := by
  cases x with
  | tup xs => simp only [encT, PyData.depth, encAs_depth]; exact Nat.le_refl _
  | _ => exact Nat.zero_le _
theorem reads_atoms {h : Heap} : ∀ (xs : List D) (vs : List V) (us : List Value), xs.all isAtom = true → Reps X.K ρ H xs vs → Vals vs us → ReadsAll h us (xs.map encA) []
  | [], _, _, _, .nil, .nil => .nil
  | x :: xs, _, _, ha, .cons r rs, .cons u us => by
    rw [List.all_cons, Bool.and_eq_true] at ha
    have := reads_atoms (h := h) xs _ _ ha.2 rs us
    cases r with
    | bl b => cases u; exact .cons (as := []) (.bool b) this
    | int i => obtain ⟨t, rfl⟩ := u; exact .cons (as := []) (.int i t) this
    | _ => cases ha.1
theorem blt_sorted (hu : X.A.units + 65 < cLine) : CallR X (.builtin "sorted") (RLD m E X sortedV) := by
  intro pins s σ H xs us Q I r h
  obtain ⟨ρ, st, ds, S, rs, hf⟩ := h
  unfold sortedV at hf
  split at hf
  · rename_i n
    obtain ⟨v, rfl, rv⟩ := reps_one rs
    cases rv with
    | @ref _ a ha =>
      split at hf
      · rename_i xs g
        split at hf
        · rename_i hl1
          obtain ⟨u, rfl, ru⟩ := r.one
          cases ru
          obtain ⟨vs, e1, rs1⟩ := S.lst_at ha g
          obtain ⟨its, rv', p', hz⟩ := I.list (SqL.of e1)
          have hll : its.length ≤ 1 := by rw [← rv'.length, ← rs1.length]; exact hl1
          refine Srt.sorted_any p'.isList (by rw [← rv'.length]; exact hz) (fun h2 => absurd h2 (by omega)) fun out hp => ?_
          have ho : out = its := by
            match its, hll, hp with
            | [], _, hp => exact hp.eq_nil
            | [x], _, hp => exact List.perm_singleton.mp hp
            | _ :: _ :: _, h, _ => simp at h
          subst ho
          obtain ⟨e, he⟩ := sortedAll_at s.heap out out.toArray
          exact ⟨.ref (s.heap.objs.size + 1), upd H (s.heap.objs.size + 1) (.lst vs), I.laid (fun b u q => sortedAll_old q) (Nat.le_succ _) (show ObjOk X.prog X.w _ _ _ (.lst vs) from ⟨hz, out, e, rv', he⟩), rfl, hf.lst S rs1 (I.hok.fresh (Nat.le_succ _))⟩
        split at hf
        · rename_i hok
          rw [Bool.and_eq_true] at hok
          obtain ⟨h1, h2⟩ := hok
          obtain ⟨u, rfl, ru⟩ := r.one
          cases ru
          obtain ⟨vs, e1, rs1⟩ := S.lst_at ha g
          obtain ⟨its, rv', p', hz⟩ := I.list (SqL.of e1)
          have each : ∀ (xs : List D) (vs : List V) (its : List Value), xs.all isRow = true → Reps X.K ρ H xs vs → Vals vs its →
              W.EachIs (fun v d => ∃ vv, RelV vv v ∧ Rep X.K ρ H d vv) its xs ∧ W.EachIs (fun v b => ∃ as, Reads s.heap v (encT b) as) its xs := by
            intro xs
            induction xs with
            | nil => intro vs its _ r v; cases r; cases v; exact ⟨.nil, .nil⟩
            | cons x xs ih =>
              intro vs its hall r v
              cases r with
              | cons r rs =>
                cases v with
                | cons v vs =>
                  rw [List.all_cons, Bool.and_eq_true] at hall
                  obtain ⟨i1, i2⟩ := ih _ _ hall.2 rs vs
                  refine ⟨.cons ⟨_, v, r⟩ i1, .cons ?_ i2⟩
                  cases r with
                  | @tup ys a vs' q rs' =>
                    cases v
                    obtain ⟨its', rv2, ⟨o, h1, h2, n, h3⟩, _⟩ := I.tuple q
                    have hy : ys.all isAtom = true := by
                      cases ys with
                      | nil => rfl
                      | cons y ys => rw [List.all_cons]; exact hall.1
                    exact ⟨[], .tuple h1 h2 h3 (by rw [List.toList_toArray]; exact reads_atoms ys _ _ hy rs' rv2)⟩
                  | _ => cases hall.1
          obtain ⟨ea, eb⟩ := each xs vs its h1 rs1 rv'
          refine W.sorted_data (vs := its) (bs := xs) (enc := encT) (R := fun v d => ∃ vv, RelV vv v ∧ Rep X.K ρ H d vv) p'.isList ea eb ?_ ?_ ?_ ?_ fun out hlen ho => ?_
          · intro d hd d' hd'
            obtain ⟨a', ha', rfl⟩ := List.mem_map.mp hd
            obtain ⟨b', hb', rfl⟩ := List.mem_map.mp hd'
            exact List.all_eq_true.mp (List.all_eq_true.mp h2 a' ha') b' hb'
          · refine .inl fun d hd => ?_
            obtain ⟨a', ha', rfl⟩ := List.mem_map.mp hd
            have := List.all_eq_true.mp h1 a' ha'
            cases a' with
            | tup ys => cases ys with
              | nil => cases this
              | cons y ys => exact ⟨_, _, rfl⟩
            | _ => cases this
          · rw [rs1.length]; exact hz
          · intro b hb
            have := encT_depth b
            omega
          · have ho : W.EachIs (fun v d => ∃ vv, RelV vv v ∧ Rep X.K ρ H d vv) out (isortD (W.dataLe false encT) xs) := by rw [isortD_eq (show W.TotalLe (W.dataLe false encT) from W.sortLe_total _ _ _)]; exact ho
            have back : ∀ (us : List Value) (ds : List D), W.EachIs (fun v d => ∃ vv, RelV vv v ∧ Rep X.K ρ H d vv) us ds → ∃ ws, Vals ws us ∧ Reps X.K ρ H ds ws := by
              intro us ds e
              induction e with
              | nil => exact ⟨[], .nil, .nil⟩
              | cons h _ ih =>
                obtain ⟨vv, q1, q2⟩ := h
                obtain ⟨ws, q3, q4⟩ := ih
                exact ⟨vv :: ws, .cons q1 q3, .cons q2 q4⟩
            obtain ⟨ws, q1, q2⟩ := back _ _ ho
            obtain ⟨e, he⟩ := sortedAll_at s.heap its out.toArray
            have hz2 : ws.length ≤ sizeLine := by rw [q1.length, hlen, rs1.length]; exact hz
            exact ⟨.ref (s.heap.objs.size + 1), upd H (s.heap.objs.size + 1) (.lst ws), I.laid (fun b u q => sortedAll_old q) (Nat.le_succ _) (show ObjOk X.prog X.w _ _ _ (.lst ws) from ⟨hz2, out, e, q1, he⟩), rfl, hf.lst S q2 (I.hok.fresh (Nat.le_succ _))⟩
        · exact hf.elim
      · exact hf.elim
  · exact hf.elim
end
end VI
/-! VIea: == and != by an own __eq__. -/
namespace VI
open PySem PySem.Spec PyProof.Rows L2
variable [LL]
theorem slot_objNe : Slot "object" "__ne__" "object.__ne__" :=
  Slot.of (T := "object") (name := "__ne__") (owner := "object") (n := "__ne__") (by rw [typeLookup_type, builtinLookup_eq_fast]; kernel_rfl) (by decide +kernel) (by decide +kernel) (by decide +kernel) (.inl (by decide +kernel)) (by rw [isSubtype_type]; kernel_rfl)
section
variable {prog : Program} {w : World} {A : Around} {E : Value → Shared → Prop} {s : Shared} {K : PySem.W.Frag} {x C L f : Addr} {h₀ : Heap} {m : Str → Option Value} {ox : Obj} {od : Option Obj} {b tb : Value}
theorem ne_entry (X : K.In s.heap) (I : PySem.W.InstAt s.heap x ox C od) (hu : A.units < cLine) (hs : PySem.W.findIn K (.ref C) "__eq__" = some (some (.ref f))) (hf : PySem.W.isFn K (.ref f) = true) {Q : PySem.Fin → Shared → Prop}
    (hcall : wpAny (model prog w) A (call (.ref f) [.ref x, b]) (fun v s' => ∃ k, v = .bool k ∧ Q (.done (.ret (.bool (!k)))) s') E s) :
    wpAny (model prog w) A (Builtin.«object.__ne__» ⟨[.ref x, b], []⟩) Q E s := by
  obtain ⟨hh, g, d, t, os⟩ := s
  unfold Builtin.«object.__ne__»
  repeat (first
    | with_reducible refine wpAny_cRoomFor hu ?_
    | (refine wpAny_bind (m := callSpecialIfBound? (.ref x) (Str.ofString "__eq__") [b])
        (PySem.W.ifBound_K X I hs hf (wpAny_mono hcall (fun r s' hr => by
          obtain ⟨k, rfl, hq⟩ := hr
          repeat (first | exact hq | exact wpAny_pure hq | exact wpAny_truthy_bool hq | (refine wpAny_bind (m := truthy (.bool _)) (wpAny_truthy_bool ?_)) | wp_step)) fun _ _ e => e)))
    | wp_step)
theorem cmpNe_K {Q : Value → Shared → Prop} (hu : A.units + 1 < cLine) (F : PyProof.Rows.Fr h₀ L s.heap m) (X₀ : K.In h₀) (I : PySem.W.InstAt s.heap x ox C od) (hb : PySem.W.Looks (model prog w) s.heap (typeOf b) tb) (hn : PySem.W.notFirst K C tb = true)
    (hne : PySem.W.findIn K (.ref C) "__ne__" = some (some (.builtin "object.__ne__"))) (hob : PySem.W.mroIn K C (.type "object") = some true) (hs : PySem.W.findIn K (.ref C) "__eq__" = some (some (.ref f))) (hf : PySem.W.isFn K (.ref f) = true)
    (h : wpAny (model prog w) A.in1 (call (.ref f) [.ref x, b]) (fun v s' => ∃ k, v = .bool k ∧ Q (.bool !k) s') E s) : wpAny (model prog w) A (richCompare .NotEq (.ref x) b) Q E s := by
  have X := X₀.keeps F.keep
  have call1 : wpAny (model prog w) A (call (.builtin "object.__ne__") [.ref x, b]) (fun v s' => v ≠ .notImplemented ∧ Q v s') E s := by
    have t2 : PySem.W.Looks (model prog w) s.heap (isInstance (.ref x) (.type "object")) true := I.type.andThen (PySem.W.looks_mroIn X hob)
    refine wpAny_call (codeAny_call_builtin slot_objNe.plain PySem.F.cmpEntry_ne (PySem.W.check_slot PySem.F.cmpKind_ne PySem.F.cmpSplit_ne t2 (PySem.F.cmpArgs_ne _ _) ?_))
    refine ne_entry (A := A.in1) X I hu hs hf (wpAny_mono h (fun v s' hv => ?_) fun _ _ e => e)
    obtain ⟨k, rfl, hq⟩ := hv
    exact ⟨k, rfl, (fun z => nomatch z), hq⟩
  have one : wpAny (model prog w) A (tryCompare (.ref x) "__ne__" b) (fun r s' => ∃ v, r = some v ∧ Q v s') E s := by
    unfold tryCompare
    refine wpAny_bind ?_
    simp only [callSpecialIfBound?, bindSpecialIfBound?]
    refine wpAny_holding (wpAny_bind (wpAny_bind (wpAny_bind (I.type.here ((PySem.W.looks_findIn X hne).here ?_)))))
    simp only [slot_objNe.bind]
    refine wpAny_bind (wpAny_askSetting (wpAny_ite ?_))
    have fin : ∀ Q' : Option Value → Shared → Prop, (∀ v s', v ≠ .notImplemented → Q v s' → Q' (some v) s') → wpAny (model prog w) A (call (.builtin "object.__ne__") ([.ref x] ++ [b]) >>= fun v => pure (some v)) Q' E s := fun Q' hq =>
      wpAny_bind (wpAny_mono call1 (fun v s' hv => wpAny_pure (hq v s' hv.1 hv.2)) fun _ _ e => e)
    split
    · exact wpAny_bind (wpAny_pure (wpAny_pure (by
        exact fin _ (fun v s' h1 h2 => by cases v <;> first | exact absurd rfl h1 | exact wpAny_pure ⟨_, rfl, h2⟩))))
    · exact wpAny_tryCatch (wpAny_bind (wpAny_pure (wpAny_pure (by
        exact fin _ (fun v s' h1 h2 => by cases v <;> first | exact absurd rfl h1 | exact wpAny_pure ⟨_, rfl, h2⟩)))))
  unfold richCompare
  simp only [oneThing_ref]
  refine wpAny_holding (wpAny_bind (wpAny_cRoomFor (Nat.lt_of_succ_lt hu) ?_))
  refine wpAny_bind (I.type.here (wpAny_bind (hb.here ?_)))
  split
  · rename_i q
    have e : PySem.W.subIn K tb (.ref C) = some false := by
      rcases Bool.or_eq_true_iff.mp hn with e | e
      · rw [beq_iff_eq.mp e] at q; simp at q
      · exact beq_iff_eq.mp e
    refine wpAny_bind ((PySem.W.looks_subIn X e).here ?_)
    simp only [Bool.false_eq_true, if_false]
    refine wpAny_bind (wpAny_mono one (fun r s' z => ?_) fun _ _ e => e)
    obtain ⟨v, rfl, hq⟩ := z
    exact wpAny_pure hq
  · refine wpAny_bind (wpAny_pure ?_)
    simp only [Bool.false_eq_true, if_false]
    refine wpAny_bind (wpAny_mono one (fun r s' z => ?_) fun _ _ e => e)
    obtain ⟨v, rfl, hq⟩ := z
    exact wpAny_pure hq
end
/-- what is known of an own __eq__ -/
def EqOk (m : Md) (X : Cx) (C : Addr) (f : Nat) : Prop := ∃ kk g fd ps, Meth X.K C "__eq__" g ∧ FnOk X.prog X.w X.K X.mg X.base (L2.CX X.prog X.w) kk g fd ps (spI m X.prog X.w X.K m.call f ps.length) ∧ Room (kk + 1) X.A ∧ Binds X.K fd ps [] ∧ ps.length = 2 ∧
  PySem.W.findIn X.K (.ref C) "__ne__" = some (some (.builtin "object.__ne__")) ∧ ∀ (c' : Nat) (C' : Addr), m.nm.cA[c']? = some C' → PySem.W.notFirst X.K C (.ref C') = true
theorem notFirst_ty {K : PySem.W.Frag} {C : Addr} : ∀ n ∈ tyNames, PySem.W.notFirst K C (.type n) = true := by
  intro n hn
  simp only [tyNames, List.mem_cons, List.not_mem_nil, or_false] at hn
  rcases hn with rfl | rfl | rfl | rfl | rfl | rfl | rfl <;> rfl
theorem rep_noNi {K : PySem.W.Frag} {ρ : List Addr} {H : Hp} {d : D} {v : V} {u : Value} (r : Rep K ρ H d v) (ru : RelV v u) : u ≠ .notImplemented := by
  intro e
  subst e
  cases r <;> first | (obtain ⟨_, z⟩ := ru; cases z; done) | (cases ru; done)
section
variable {m : Md} {E : XK} {X : Cx}
theorem own_run {pins : List (Addr × Obj)} {σ : L2.St} {s : Shared} {ρ : List Addr} {H : Hp} {st : Store} {A : Around} {kk f : Nat} {g : Addr} {fd : FuncData} {ps : List Str} {d e : D} {x y : V} {u v : Value} {Q : VK} {R : Value → Shared → Prop} (I : Inv X pins σ H s)
    (hA : A.frames = X.A.frames) (hr : Room kk A) (F : FnOk X.prog X.w X.K X.mg X.base (L2.CX X.prog X.w) kk g fd ps (spI m X.prog X.w X.K m.call f ps.length)) (hb : Binds X.K fd ps []) (hp : ps.length = 2) (hx : Passes (L2.CX X.prog X.w) X E)
    (S : Rel m X ρ H st) (rd : Rep X.K ρ H d x) (re : Rep X.K ρ H e y) (rx : RelV x u) (ry : RelV y v) (hf : Fin m E X ρ H (m.call f [d, e] st) (rD X) Q)
    (fin : ∀ z u' H' s', Inv X pins σ H' s' → RelV z u' → (∃ ρ' d', Rep X.K ρ' H' d' z) → Q z H' → R u' s') : wpAny (model X.prog X.w) A (call (.ref g) [u, v]) R X.xe s := by
  have hf2 : Fin m E X ρ H (m.call f [d, e] st) (rD X) (fun z H' => Q z H' ∧ ∃ ρ' d', Rep X.K ρ' H' d' z) := by
    cases hc : m.call f [d, e] st with
    | ok a st1 => rw [hc] at hf; exact fun ρ' H' b s1 S1 r1 => ⟨hf ρ' H' b s1 S1 r1, ρ', a, r1⟩
    | exc c x st1 => rw [hc] at hf; exact hf
    | stuck => rw [hc] at hf; exact hf
  have hsp : spI m X.prog X.w X.K m.call f ps.length [x, y] H (fun z H' => Q z H' ∧ ∃ ρ' d', Rep X.K ρ' H' d' z) E := ⟨by rw [hp]; rfl, ρ, st, [d, e], S, .cons rd (.cons re .nil), hf2.k⟩
  have e0 : Env0 X.prog X.w X.K X.mg X.base A X.stack s H := by
    have e := I.env0
    exact ⟨by rw [hA]; exact e.frames, e.mod, e.bs, e.bsz, e.funs, e.frf, e.hok, e.bare⟩
  have r2 : Vals [x, y] [u, v] := .cons rx (.cons ry .nil)
  refine wpAny_call (codeAny_mono (F.run A X.stack s H ⟨[u, v], []⟩ [u, v] [x, y] _ E hr e0 (by
    have := hb s [u, v] I.kIn (by rw [hp]; rfl)
    simpa using this) r2 hsp) fun r s' hq => ?_)
  cases r with
  | error e => exact hx pins σ H s e s' I hq
  | ok fl =>
    cases fl with
    | ret w =>
      obtain ⟨z, H', I', rz, q1, q2⟩ := I.after hq
      exact fin z w H' s' I' rz q2 q1
    | next => exact False.elim hq
    | brk => exact False.elim hq
    | cont => exact False.elim hq
/-- the two things, as they stand -/
theorem own_at {pins : List (Addr × Obj)} {σ : L2.St} {s : Shared} {ρ : List Addr} {H : Hp} {st : Store} {d e : D} {x y : V} {v u : Value} {c : Nat} (hcl : ClsOk m.nm X.K) (I : Inv X pins σ H s) (S : Rel m X ρ H st) (r1 : Rep X.K ρ H d x) (r2 : Rep X.K ρ H e y) (rx : RelV x v) (ry : RelV y u) (hc : clsAt st d = some c) (hoT : offT st e = true) :
    ∃ a C dx fv t, v = .ref a ∧ H a = some (.ins C dx fv) ∧ m.nm.cA[c]? = some C ∧ PySem.W.Looks (model X.prog X.w) s.heap (typeOf u) t ∧ ((∃ n ∈ tyNames, t = .type n) ∨ ∃ (c' : Nat) (C' : Addr), m.nm.cA[c']? = some C' ∧ t = .ref C') := by
  unfold clsAt at hc
  split at hc
  · split at hc
    · rename_i g
      cases hc
      cases r1 with
      | ref ha =>
        cases rx
        obtain ⟨o, g', q⟩ := S.ob _ _ ha
        rw [g] at g'; cases g'
        obtain ⟨C, dx, fv, hC, q, _⟩ := q
        obtain ⟨k, hk⟩ : ∃ k, tyNo st e = some k := by
          cases r2 with
          | ref ha =>
            obtain ⟨o, g, _⟩ := S.ob _ _ ha
            unfold tyNo
            simp only [g]
            cases o <;> first | exact ⟨_, rfl⟩ | (exfalso; simp [offT, g] at hoT)
          | fn => exfalso; simp [offT] at hoT
          | err => exfalso; simp [offT] at hoT
          | _ => exact ⟨_, rfl⟩
        obtain ⟨t, P, Z, p, _, hq⟩ := kit_D hcl I S r2 ry hk
        refine ⟨_, C, dx, fv, t, rfl, q, hC, Z.ty _ _ I.kIn p, ?_⟩
        cases k with
        | inl k =>
          obtain ⟨n, hn, e⟩ := hq
          exact .inl ⟨n, List.mem_of_getElem? hn, e⟩
        | inr c' =>
          obtain ⟨C', hC', e⟩ := hq
          exact .inr ⟨c', C', hC', e⟩
    · cases hc
  · cases hc
theorem opr_eqO (hu : X.A.units + 65 < cLine) (hx : Passes (L2.CX X.prog X.w) X E) (hcl : ClsOk m.nm X.K) (h : ∀ (c : Nat) (C : Addr) (k : Cl) (f : Nat), m.nm.cA[c]? = some C → m.T.cls[c]? = some k → k.eq = some f → EqOk m X C f) : OpR X (compareOp .Eq) (R2D m E X (cmpC m.T m.call .eq)) := by
  intro pins s σ H x y v u Q I rx ry ⟨ρ, st, d, e, S, r1, r2, hf⟩
  cases hc : clsAt st d with
  | none =>
    rw [cmpC_plain (.inl hc)] at hf
    exact cmp_eq (m := m) (E := E) hu pins s σ H x y v u Q I rx ry ⟨ρ, st, d, e, S, r1, r2, hf⟩
  | some c =>
    unfold cmpC at hf
    rw [hc] at hf
    simp only at hf
    cases hk : m.T.cls[c]? with
    | none => rw [hk] at hf; exact hf.elim
    | some k =>
      rw [hk] at hf
      simp only [Option.bind_some] at hf
      cases he : k.eq with
      | none => rw [he] at hf; exact hf.elim
      | some f =>
        rw [he] at hf
        simp only at hf
        split at hf
        rotate_left
        · exact hf.elim
        rename_i hoT
        obtain ⟨a, C, dx, fv, t, rfl, ha, hC, ht, htt⟩ := own_at hcl I S r1 r2 rx ry hc hoT
        obtain ⟨kk, g, fd, ps, M, F, hr, hb, hp, hne, hnf⟩ := h c C k f hC hk he
        obtain ⟨mA, J, _⟩ := ins_get I.hok ha
        obtain ⟨od, J, _⟩ := J.look
        obtain ⟨mm, hF⟩ := I.fr
        have hn : PySem.W.notFirst X.K C t = true := by
          rcases htt with ⟨n, hn, e⟩ | ⟨c', C', hC', e⟩
          · rw [e]; exact notFirst_ty n hn
          · rw [e]; exact hnf c' C' hC'
        show wpAny _ _ (compareOp .Eq (.ref a) u) _ _ _
        unfold compareOp
        refine PySem.W.cmp_K (op := .Eq) (tb := t) (by omega) hF I.ok.mod.kin J ht hn M.at_ M.fn ?_
        refine own_run I rfl (hr.mono (Nat.le_succ _)) F hb hp hx S r1 r2 rx ry hf fun z u' H' s' I' rz hrep q => ?_
        obtain ⟨ρ', d', rep⟩ := hrep
        have hni := rep_noNi rep rz
        unfold PySem.W.CmpBack
        split
        · exact hni rfl
        · exact ⟨z, H', I', rz, q⟩
theorem opr_neO (hu : X.A.units + 65 < cLine) (hx : Passes (L2.CX X.prog X.w) X E) (hcl : ClsOk m.nm X.K) (h : ∀ (c : Nat) (C : Addr) (k : Cl) (f : Nat), m.nm.cA[c]? = some C → m.T.cls[c]? = some k → k.eq = some f → EqOk m X C f) : OpR X (compareOp .NotEq) (R2D m E X (cmpC m.T m.call .ne)) := by
  intro pins s σ H x y v u Q I rx ry ⟨ρ, st, d, e, S, r1, r2, hf⟩
  cases hc : clsAt st d with
  | none =>
    rw [cmpC_plain (.inl hc)] at hf
    exact cmp_ne (m := m) (E := E) hu pins s σ H x y v u Q I rx ry ⟨ρ, st, d, e, S, r1, r2, hf⟩
  | some c =>
    unfold cmpC at hf
    rw [hc] at hf
    simp only at hf
    cases hk : m.T.cls[c]? with
    | none => rw [hk] at hf; exact hf.elim
    | some k =>
      rw [hk] at hf
      simp only [Option.bind_some] at hf
      cases he : k.eq with
      | none => rw [he] at hf; exact hf.elim
      | some f =>
        rw [he] at hf
        simp only at hf
        split at hf
        rotate_left
        · exact hf.elim
        rename_i hoT
        obtain ⟨a, C, dx, fv, t, rfl, ha, hC, ht, htt⟩ := own_at hcl I S r1 r2 rx ry hc hoT
        obtain ⟨kk, g, fd, ps, M, F, hr, hb, hp, hne, hnf⟩ := h c C k f hC hk he
        obtain ⟨mA, J, _⟩ := ins_get I.hok ha
        obtain ⟨od, J, _⟩ := J.look
        obtain ⟨mm, hF⟩ := I.fr
        have hn : PySem.W.notFirst X.K C t = true := by
          rcases htt with ⟨n, hn, e⟩ | ⟨c', C', hC', e⟩
          · rw [e]; exact notFirst_ty n hn
          · rw [e]; exact hnf c' C' hC'
        show wpAny _ _ (compareOp .NotEq (.ref a) u) _ _ _
        unfold compareOp
        refine cmpNe_K (tb := t) (by omega) hF I.ok.mod.kin J ht hn hne (hcl.at_ c C hC).2.2.2.2 M.at_ M.fn ?_
        refine own_run (A := X.A.in1) (Q := fun z H' => ∃ b, z = .bl b ∧ Q (.bl !b) H') I rfl hr.in1 F hb hp hx S r1 r2 rx ry (hf.bind fun b st1 ρ1 H1 z s1 S1 rz hf1 => ?_) fun z u' H' s' I' rz hrep q => ?_
        · cases rz with
          | bl b => exact ⟨b, rfl, hf1.now S1 (.bl _)⟩
          | _ => exact hf1.elim
        · obtain ⟨b, rfl, q⟩ := q
          cases rz
          exact ⟨b, rfl, .bl !b, H', I', rfl, q⟩
theorem str_picked (z : Str) : (Builtin.Str.strSliceIndices none none (-1) z.length).filterMap (z.cps[·]?) = z.cps.toList.reverse := by
  unfold Builtin.Str.strSliceIndices
  show (sliceRange ((z.length : Int) - 1) (-1) (-1)).filterMap (z.cps[·]?) = _
  rw [PySem.W.krv_sliceRange, PySem.W.krv_range, List.filterMap_reverse]
  congr 1
  exact PySem.W.krv_all z.cps
def tRevS (K : PySem.W.Frag) (te : TE) : TE := fun σ H Q => te σ H fun x H1 => (∃ a xs, x = .ref a ∧ SqL K H1 a xs ∧ ∀ p, H1 p = none → Q (.ref p) (upd H1 p (.lst xs.reverse))) ∨ (∃ z : Str, x = .str z ∧ z.length ≤ sizeLine ∧ Q (.str ⟨z.cps.toList.reverse.toArray⟩) H1)
theorem pe_revS {e : Expr} {te : TE} {k : Nat} {p1 p2 p3 pos : Pos} (he : PE X e te) : PE X (.Subscript e (.Slice none none (some (.UnaryOp .USub (.Constant (.int 1) k p1) p2)) p3) pos) (tRevS X.K te) := by
  refine ⟨fun pins s σ H Q I h => ?_⟩
  refine Subscript_ (thn (he.run pins s σ H _ I h) fun v s1 ⟨x, H1, I1, r1, q1⟩ => ?_)
  have hst : PO X (some (.UnaryOp .USub (.Constant (.int 1) k p1) p2)) (tPart (tUn (rU fun i => .int (-i)) (tC (.int 1)))) := po_some (pe_un un_neg pe_int)
  refine wpAny_Slice (thn (po_none.run pins s1 σ H1 (fun o H2 => o = none ∧ H2 = H1) I1 ⟨rfl, rfl⟩) fun vl s2 ⟨l, H2, I2, pl, el, e2⟩ => ?_)
  subst el e2
  refine thn (po_none.run pins s2 σ H2 (fun o H3 => o = none ∧ H3 = H2) I2 ⟨rfl, rfl⟩) fun vu s3 ⟨u, H3, I3, pu, eu, e3⟩ => ?_
  subst eu e3
  refine thn (hst.run pins s3 σ H3 (fun o H4 => o = some (-1) ∧ H4 = H3) I3 ⟨1, rfl, -1, rfl, rfl, rfl⟩) fun vs s4 ⟨o, H4, I4, ps, eo, e4⟩ => ?_
  subst eo e4
  have I5 : Inv X pins σ H4 { s4 with heap := s4.heap.push { cls := .type "slice", data := .fields #[vl, vu, vs] } } := I4.kept (t' := s4.toks) fun b ob q => Heap.get?_push_of_some _ q
  rcases q1 with ⟨a, xs, ex, hx, q⟩ | ⟨z, ex, hz, q⟩
  · subst ex
    cases r1
    obtain ⟨its, r, ht, hz⟩ := I5.list hx
    have hlen := r.length
    show wpAny (model X.prog X.w) X.A (subscriptTail e (.Slice none none (some (.UnaryOp .USub (.Constant (.int 1) k p1) p2)) p3) (.ref a) (.ref s4.heap.objs.size)) (EP X pins σ Q) X.xe { s4 with heap := s4.heap.push { cls := .type "slice", data := .fields #[vl, vu, vs] } }
    refine tail_any (ops := [.ref a, .ref s4.heap.objs.size]) ht.isList.typeIs (PySem.slot_list_getitem.lookup) ?_ (by with_unfolding_all rfl)
    refine wpAny_getItem_list_slice ht.isList (Heap.IsSliceOf.new _ vl vu vs) pl pu ps (by decide) ?_ (by rw [List.size_toArray]; omega)
    rw [PySem.W.krv_pick]
    refine ⟨.ref _, _, I5.laid (t' := s4.toks) (o := .lst xs.reverse) (fun b ob q => Heap.get?_push_of_some _ q) (Nat.le_refl _) ?_, rfl, q _ (I5.hok.fresh (Nat.le_refl _))⟩
    exact ⟨by rw [List.length_reverse]; exact hz, _, 0, r.reverse, Heap.get?_push_size _ rfl⟩
  · subst ex
    obtain ⟨t, rfl⟩ := r1
    obtain ⟨l, rfl, hl⟩ := IsPart.raw pl
    obtain ⟨u, rfl, hu⟩ := IsPart.raw pu
    obtain ⟨st, rfl, hs⟩ := IsPart.raw ps
    have hl' : l = none := by cases l with | none => rfl | some _ => cases hl
    have hu' : u = none := by cases u with | none => rfl | some _ => cases hu
    subst hl' hu'
    show wpAny (model X.prog X.w) X.A (subscriptTail e (.Slice none none (some (.UnaryOp .USub (.Constant (.int 1) k p1) p2)) p3) (.str z t) (.ref s4.heap.objs.size)) (EP X pins σ Q) X.xe { s4 with heap := s4.heap.push { cls := .type "slice", data := .fields #[partValue none, partValue none, partValue st] } }
    refine tail_any (ops := [.str z t, .ref s4.heap.objs.size]) (typeIs_str _ _ _) F.slot_str_getitem.lookup ?_ (by with_unfolding_all rfl)
    refine wpAny_getItem_str_slice (l := none) (u := none) (st := st) ⟨_, Heap.get?_push_size _ rfl, rfl, rfl⟩ (by rw [hs]; rfl) ?_
    unfold sliceMade slicePicked
    rw [hs]
    show Made.post (if ((-1 : Int) == 1 && (Builtin.Str.strSliceIndices none none (-1) z.length).length == z.length) = true then Made.val (.str z t)
      else Made.str ⟨((Builtin.Str.strSliceIndices none none (-1) z.length).filterMap (z.cps[·]?)).toArray⟩) (EP X pins σ Q) _
    rw [if_neg (by simp), str_picked]
    refine ⟨?_, .str _, H4, I5.tok _, ⟨_, rfl⟩, q⟩
    show (z.cps.toList.reverse.toArray).size ≤ sizeLine
    rw [List.size_toArray, List.length_reverse, Array.length_toList]
    exact hz
/-- a[::-1] -/
theorem se_rev {a : Expr} {x : Ex} {k : Nat} {p1 p2 p3 pos : Pos} (ha : PE X a (tEv m E X x)) : PE X (.Subscript a (.Slice none none (some (.UnaryOp .USub (.Constant (.int 1) k p1) p2)) p3) pos) (tEv m E X (.rev x)) :=
  imE (pe_revS ha) fun σ H Q ⟨ρ, env, st, he, S, hf⟩ => by
    simp only [evE] at hf
    refine ⟨ρ, env, st, he, S, hf.bind fun d st1 ρ1 H1 v s1 S1 r1 hf1 => ?_⟩
    unfold revV at hf1
    split at hf1
    · split at hf1
      · rename_i xs g
        cases r1 with
        | ref ha =>
          obtain ⟨vs, e, rs⟩ := S1.lst_at ha g
          exact .inl ⟨_, vs, rfl, SqL.of e, fun p hp => hf1.lst S1 rs.reverse hp⟩
      · exact hf1.elim
    · rename_i z
      split at hf1
      · rename_i hz
        cases r1 with
        | str =>
          refine .inr ⟨toS z, rfl, by rw [toS_len, ← line_eq]; exact hz, ?_⟩
          exact hf1.now S1 (.str _)
      · exact hf1.elim
    · exact hf1.elim
end
end VI
/-! VIyb: text.replace(y, z) behind a written text in a display. -/
namespace VI
open PySem PySem.Spec PyProof.Rows L2
variable [LL]
section
variable {m : Md} {E : XK} {X : Cx}
/-- .. and a token is out behind it -/
def PEk (X : Cx) (e : Expr) (t : TE) : Prop := ∀ (pins : List (Addr × Obj)) (s : Shared) (σ : L2.St) (H : Hp) (Q : VK), Inv X pins σ H s → t σ H Q → wpAny (model X.prog X.w) X.A (eval e X.env) (fun v s1 => EP X pins σ Q v s1 ∧ 1 ≤ s1.toks) X.xe s
theorem pek_op {op : Operator} {r : R2} {f : Expr} {tf : TE} {c : Str} {j : Nat} {cp pos : Pos} (ho : OpR X (binaryOp op) r) (hb : PE X f tf) : PEk X (.BinOp (.Constant (.str c) j cp) op f pos) (tOp r (tC (.str c)) tf) := by
  intro pins s σ H Q I h
  refine wpAny_BinOp (Calls.Constant_str ?_)
  have I1 : Inv X pins σ H { s with toks := s.toks + 1 } := I.tok (s.toks + 1)
  refine wpAny_mono (PySem.wpAny_toks (hb.run pins _ σ H _ I1 h)) (fun u s2 q => ?_) fun _ _ z => z.2
  obtain ⟨hk, y, H2, I2, r2, q2⟩ := q
  refine wpAny_mono (PySem.wpAny_toks (ho pins s2 σ H2 (.str c) y _ u Q I2 ⟨_, rfl⟩ r2 q2)) (fun v s3 q => ?_) fun _ _ z => z.2
  have hk : s.toks + 1 ≤ s2.toks := hk
  exact ⟨q.2, Nat.le_trans (Nat.le_trans (Nat.le_add_left 1 _) hk) q.1⟩
theorem pa_tok {e1 e2 : Expr} {t1 t2 : TE} (h1 : PEk X e1 t1) (h2 : PET X e2 t2) (hs1 : starEach [e1, e2] X.env = (false, eval e1 X.env) :: starEach [e2] X.env) (hs2 : starEach [e2] X.env = (false, eval e2 X.env) :: starEach [] X.env) : PA X [e1, e2] (tCons t1 (tCons t2 tNil)) := by
  refine ⟨fun pos pins s σ H Q I h => ?_⟩
  rw [hs1]
  show wpAny _ _ (spliced ((false, eval e1 X.env) :: backTo pos (starEach [e2] X.env))) _ _ s
  refine Calls.spliced_cons (thn (h1 pins s σ H _ I h) fun v s1 ⟨⟨x, H1, I1, r1, q1⟩, hk⟩ => ?_)
  exact thn (pat_cons h2 pat_nil hs2 pos pins s1 σ H1 _ hk I1 q1) fun us s2 ⟨xs, H2, I2, r2, q2⟩ => ⟨x :: xs, H2, I2, .cons r1 r2, q2⟩
theorem R.assoc {α β γ : Type} (r : R α) (f : α → Store → R β) (g : β → Store → R γ) : (r.bind f).bind g = r.bind fun a s => (f a s).bind g := by cases r <;> rfl
theorem R.okb {α β : Type} (a : α) (s : Store) (f : α → Store → R β) : (R.ok a s).bind f = f a s := rfl
theorem replL_eq (x y z : List Nat) : toS (replL x y z) = Txt.replace (toS x) (toS y) (toS z) := by
  unfold replL
  show (⟨(Txt.replace (toS x) (toS y) (toS z)).cps.toList.toArray⟩ : Str) = _
  rw [Array.toArray_toList]
/-- .., c + f, o.replace(y, z) -/
theorem sa_repl {op : Operator} {b : Bop} {f o : Expr} {fx ox : Ex} {c y z : Str} {j j0 j1 : Nat} {cp p2 c0 c1 apos pos : Pos} (ho : OpR X (binaryOp op) (R2D m E X (binV b))) (hb : PE X f (tEv m E X fx)) (hO : PE X o (tEv m E X ox)) (hyz : (y == z) = false)
    (hbase : attributeBase o "replace" X.env (eval o X.env) = eval o X.env) (hline : (apos.endLine == pos.line) = true) :
    PA X [.BinOp (.Constant (.str c) j cp) op f p2, .Call (.Attribute o "replace" apos) [.Constant (.str y) j0 c0, .Constant (.str z) j1 c1] [] pos]
      (tEvX m E X (.cons false (.bin b (.c (.str c.cps.toList)) fx) (.cons false (.bm .replace ox (.cons false (.c (.str y.cps.toList)) (.cons false (.c (.str z.cps.toList)) .nil))) .nil))) :=
  imA (pa_tok (pek_op ho hb) (CwR.pet_replC (y := y) (z := z) hO hyz rfl hbase hline) rfl rfl) fun σ H Q ⟨ρ, env, st, he, S, hf⟩ => by
    simp only [evX, evE, if_false, Bool.false_eq_true, R.assoc, R.okb] at hf
    have tl : ∀ q : Str, toS q.cps.toList = q := fun q => by
      show (⟨q.cps.toList.toArray⟩ : Str) = q
      rw [Array.toArray_toList]
    have rc : ∀ {ρ H}, Rep X.K ρ H (.str c.cps.toList) (.str c) := fun {ρ H} => by
      have h := Rep.str (K := X.K) (ρ := ρ) (H := H) c.cps.toList
      rw [tl] at h
      exact h
    refine ⟨ρ, env, st, he, S, hf.bind fun a st1 ρ1 H1 u s1 S1 r1 hf1 => ?_⟩
    refine ⟨ρ1, st1, .str c.cps.toList, a, S1, rc, r1, hf1.bind fun d st2 ρ2 H2 v s2 S2 r2 hf2 => ?_⟩
    refine ⟨ρ2, env, st2, (he.mono S s1).mono S1 s2, S2, hf2.bind fun x st3 ρ3 H3 w s3 S3 r3 hf3 => ?_⟩
    split at hf3
    · replace hf3 : Fin m E X ρ3 H3 ((replV x [D.str y.cps.toList, D.str z.cps.toList] st3).bind fun a s => R.ok [d, a] s) (rDs X) Q := hf3
      unfold replV at hf3
      split at hf3
      · rename_i x' y' z' e1 hrec
        cases e1
        cases r3
        split at hf3
        · rename_i hl
          have r4 : Rep X.K ρ3 H3 (.str (replL x' y.cps.toList z.cps.toList)) (.str (Txt.replace (toS x') y z)) := by
            have h := Rep.str (K := X.K) (ρ := ρ3) (H := H3) (replL x' y.cps.toList z.cps.toList)
            rw [replL_eq, tl, tl] at h
            exact h
          refine ⟨_, rfl, ?_, hf3.now S3 (.cons (Rep.mono S2 s3 _ _ r2) (.cons r4 .nil))⟩
          rw [toS_len]
          have : z.length = z.cps.toList.length := by simp [Str.length]
          rw [this]
          exact hl.2
        · exact hf3.elim
      · exact hf3.elim
    · exact hf3.elim
end
end VI
/-! VIyc: text.replace(y, z) behind a written key, and where a written text was compared. -/
namespace VI
open PySem PySem.Spec PyProof.Rows L2
variable [LL]
section
variable {m : Md} {E : XK} {X : Cx}
theorem rd_repl {ox : Ex} {y z : Str} {σ : L2.St} {H : Hp} {Q : VK} (h : tEv m E X (.bm .replace ox (.cons false (.c (.str y.cps.toList)) (.cons false (.c (.str z.cps.toList)) .nil))) σ H Q) : CwR.tReplC (tEv m E X ox) y z σ H Q := by
  obtain ⟨ρ, env, st, he, S, hf⟩ := h
  simp only [evX, evE, if_false, Bool.false_eq_true, R.assoc, R.okb] at hf
  have tl : ∀ q : Str, toS q.cps.toList = q := fun q => by
    show (⟨q.cps.toList.toArray⟩ : Str) = q
    rw [Array.toArray_toList]
  refine ⟨ρ, env, st, he, S, hf.bind fun x st3 ρ3 H3 w s3 S3 r3 hf3 => ?_⟩
  split at hf3
  · replace hf3 : Fin m E X ρ3 H3 (replV x [D.str y.cps.toList, D.str z.cps.toList] st3) (rD X) Q := hf3
    unfold replV at hf3
    split at hf3
    · rename_i x' y' z' e1 hrec
      cases e1
      cases r3
      split at hf3
      · rename_i hl
        have r4 : Rep X.K ρ3 H3 (.str (replL x' y.cps.toList z.cps.toList)) (.str (Txt.replace (toS x') y z)) := by
          have h := Rep.str (K := X.K) (ρ := ρ3) (H := H3) (replL x' y.cps.toList z.cps.toList)
          rw [replL_eq, tl, tl] at h
          exact h
        refine ⟨_, rfl, ?_, hf3.now S3 r4⟩
        rw [toS_len]
        have : z.length = z.cps.toList.length := by simp [Str.length]
        rw [this]
        exact hl.2
      · exact hf3.elim
    · exact hf3.elim
  · exact hf3.elim
theorem set_rep1 {o : Expr} {ox : Ex} {y z : Str} {j0 j1 : Nat} {c0 c1 apos pos : Pos} (hO : PE X o (tEv m E X ox)) (hyz : (y == z) = false) (hbase : attributeBase o "replace" X.env (eval o X.env) = eval o X.env) (hline : (apos.endLine == pos.line) = true) :
    PET X (.Call (.Attribute o "replace" apos) [.Constant (.str y) j0 c0, .Constant (.str z) j1 c1] [] pos) (tEv m E X (.bm .replace ox (.cons false (.c (.str y.cps.toList)) (.cons false (.c (.str z.cps.toList)) .nil)))) :=
  fun pins s σ H Q h0 I h => CwR.pet_replC (y := y) (z := z) hO hyz rfl hbase hline pins s σ H Q h0 I (rd_repl h)
theorem set_rep2 {o : Expr} {ox : Ex} {y z : Str} {j0 j1 : Nat} {c0 c1 apos pos : Pos} (hO : PET X o (tEv m E X ox)) (hyz : (y == z) = false) (hbase : attributeBase o "replace" X.env (eval o X.env) = eval o X.env) (hline : (apos.endLine == pos.line) = true) :
    PET X (.Call (.Attribute o "replace" apos) [.Constant (.str y) j0 c0, .Constant (.str z) j1 c1] [] pos) (tEv m E X (.bm .replace ox (.cons false (.c (.str y.cps.toList)) (.cons false (.c (.str z.cps.toList)) .nil)))) :=
  fun pins s σ H Q h0 I h => CwR.pet_replT (y := y) (z := z) hO hyz rfl hbase hline pins s σ H Q h0 I (rd_repl h)
/-- a written text: a token is out behind it -/
theorem pek_c {c : Str} {j : Nat} {cp : Pos} : PEk X (.Constant (.str c) j cp) (tEv m E X (.c (.str c.cps.toList))) := by
  intro pins s σ H Q I h
  obtain ⟨ρ, env, st, he, S, hf⟩ := h
  have hf : Fin m E X ρ H (.ok (.str c.cps.toList) st) (rD X) Q := hf
  have rc : Rep X.K ρ H (.str c.cps.toList) (.str c) := by
    have h := Rep.str (K := X.K) (ρ := ρ) (H := H) c.cps.toList
    have tl : toS c.cps.toList = c := by
      show (⟨c.cps.toList.toArray⟩ : Str) = c
      rw [Array.toArray_toList]
    rw [tl] at h
    exact h
  exact Calls.Constant_str ⟨⟨.str c, H, I.tok (s.toks + 1), ⟨_, rfl⟩, hf.now S rc⟩, Nat.le_add_left 1 _⟩
/-- .. a test, and a token is out behind it -/
def PTk (X : Cx) (e : Expr) (t : TT) : Prop := ∀ (pins : List (Addr × Obj)) (s : Shared) (σ : L2.St) (H : Hp) (Q : Bool → Hp → Prop), Inv X pins σ H s → t σ H Q → wpAny (model X.prog X.w) X.A (isTrue e X.env (eval e X.env)) (fun d s1 => TP X pins σ Q d s1 ∧ 1 ≤ s1.toks) X.xe s
theorem ptk_cmp {op : CmpOp} {r : R2} {a b : Expr} {ta tb : TE} {pos : Pos} (ho : OpR X (compareOp op) r) (ha : PE X a ta) (hb : PEk X b tb) (hm : behindInMarks op b = false) : PTk X (.Compare a [op] [b] pos) (tTest (tOp r ta tb)) := by
  intro pins s σ H Q I h
  refine wpAny_isTrue_Compare1 (thn (ha.run pins s σ H _ I h) fun v s1 ⟨x, H1, I1, r1, q1⟩ => thn (hb pins s1 σ H1 _ I1 q1) fun u s2 ⟨⟨y, H2, I2, r2, q2⟩, hk⟩ => ?_) hm
  refine wpAny_mono (PySem.wpAny_toks (ho pins s2 σ H2 x y v u _ I2 r1 r2 q2)) (fun c s3 q => ?_) fun _ _ z => z.2
  obtain ⟨hk3, z, H3, I3, r3, k, e, q3⟩ := q
  subst e
  cases r3
  exact wpAny_truthy_bool ⟨⟨H3, I3, q3⟩, Nat.le_trans hk hk3⟩
theorem stk_cmp {op : CmpOp} {o : Cop} {a b : Expr} {x y : Ex} {pos : Pos} (ho : OpR X (compareOp op) (R2D m E X (cmpC m.T m.call o))) (hm : behindInMarks op b = false) (ha : PE X a (tEv m E X x)) (hb : PEk X b (tEv m E X y)) : PTk X (.Compare a [op] [b] pos) (tEvT m E X (.cmp o x y)) :=
  fun pins s σ H Q I h => ptk_cmp ho ha hb hm pins s σ H Q I (by
    obtain ⟨ρ, env, st, he, S, hf⟩ := h
    simp only [evE, bind_assoc] at hf
    refine ⟨ρ, env, st, he, S, hf.bind fun d st1 ρ1 H1 v s1 S1 r1 hf1 => ?_⟩
    refine ⟨ρ1, env, st1, he.mono S s1, S1, hf1.bind fun d2 st2 ρ2 H2 v2 s2 S2 r2 hf2 => ?_⟩
    exact ⟨ρ2, st2, d, d2, S2, Rep.mono S1 s2 _ _ r1, r2, bind_boolOf hf2⟩)
theorem ife_tok {c a b : Expr} {tA : TT} {ta tb : TE} {pos : Pos} (hc : PTk X c tA) (ha : PE X a ta) (hb : PET X b tb) : PE X (.IfExp c a b pos) (tIf tA ta tb) := by
  refine ⟨fun pins s σ H Q I h => ?_⟩
  refine wpAny_IfExp (thn (hc pins s σ H _ I h) fun d s1 ⟨⟨H1, I1, q1⟩, hk⟩ => ?_)
  cases d with
  | true => exact ha.run pins s1 σ H1 Q I1 q1
  | false => exact hb pins s1 σ H1 Q hk I1 q1
/-- a if a comparison with a written text else o.replace(y, z) -/
theorem se_iteT {c a b : Expr} {cx ax bx : Ex} {pos : Pos} (hc : PTk X c (tEvT m E X cx)) (ha : PE X a (tEv m E X ax)) (hb : PET X b (tEv m E X bx)) : PE X (.IfExp c a b pos) (tEv m E X (.ite cx ax bx)) :=
  imE (ife_tok hc ha hb) fun σ H Q ⟨ρ, env, st, he, S, hf⟩ => by
    simp only [evE] at hf
    have hf' : Fin m E X ρ H (((evE m.T m.F m.call cx env st).bind boolOf).bind fun k s => if k then evE m.T m.F m.call ax env s else evE m.T m.F m.call bx env s) (rD X) Q := by
      cases h : evE m.T m.F m.call cx env st <;> simp only [h, R.bind] at hf ⊢ <;> exact hf
    refine ⟨ρ, env, st, he, S, hf'.bind fun k st1 ρ1 H1 k' s1 S1 r1 hf1 => ?_⟩
    cases r1
    cases k with
    | true => exact iteT ⟨ρ1, env, st1, he.mono S s1, S1, hf1⟩
    | false => exact iteF ⟨ρ1, env, st1, he.mono S s1, S1, hf1⟩
/-- a pair of a display whose key is written -/
theorem ppd_consT {v : Expr} {ks : List (Option Expr)} {vs : List Expr} {c : Str} {j : Nat} {cp pos : Pos} {y : Ex} {ys : Xs} (hv : PET X v (tEv m E X y)) (hr : PPd m E X pos ks vs ys) :
    PPd m E X pos (some (.Constant (.str c) j cp) :: ks) (v :: vs) (.cons false (.c (.str c.cps.toList)) (.cons false y ys)) := ⟨fun pins s σ H Q I ⟨ρ, env, st, he, S, hf⟩ => by
  simp only [evX, if_false, Bool.false_eq_true, bind_assoc] at hf
  refine pairTrees_cons_walk (thn (pek_c (m := m) (E := E) pins s σ H (fun v H1 => ∃ ρ1 st1 d, Step ρ H ρ1 H1 ∧ Rel m X ρ1 H1 st1 ∧ Rep X.K ρ1 H1 d v ∧ Fin m E X ρ1 H1 ((evE m.T m.F m.call y env st1).bind fun d2 s2 => (evX m.T m.F m.call ys env s2).bind fun dr s3 => .ok (d :: d2 :: dr) s3) (rDs X) Q) I ⟨ρ, env, st, he, S, hf.bind fun d st1 ρ1 H1 v s1 S1 r1 hf1 => ⟨ρ1, st1, d, s1, S1, r1, hf1⟩⟩) fun u s1 ⟨⟨xv, H1, I1, rx, ρ1, st1, d, stp1, S1, r1, hf1⟩, hk⟩ => ?_)
  refine thn (hv pins s1 σ H1 (fun v H2 => ∃ ρ2 st2 d2, Step ρ1 H1 ρ2 H2 ∧ Rel m X ρ2 H2 st2 ∧ Rep X.K ρ2 H2 d2 v ∧ Fin m E X ρ2 H2 ((evX m.T m.F m.call ys env st2).bind fun dr s3 => .ok (d :: d2 :: dr) s3) (rDs X) Q) hk I1 ⟨ρ1, env, st1, he.mono S stp1, S1, hf1.bind fun d st1 ρ1 H1 v s1 S1 r1 hf1 => ⟨ρ1, st1, d, s1, S1, r1, hf1⟩⟩) fun w2 s2 ⟨yv, H2, I2, ry, ρ2, st2, d2, stp2, S2, r2, hf2⟩ => ?_
  refine thn (hr.run pins s2 σ H2 (fun vs H3 => Q (xv :: yv :: vs) H3) I2 ⟨ρ2, env, st2, (he.mono S stp1).mono S1 stp2, S2, hf2.bind fun dr st3 ρ3 H3 vs s3 S3 r3 hf3 => ?_⟩) fun ws s3 ⟨vs, H3, I3, rel, q3⟩ => ⟨xv :: yv :: vs, H3, I3, .cons rx (.cons ry rel), q3⟩
  exact hf3.now S3 (.cons (Rep.mono S1 (stp2.trans s3) _ _ r1) (.cons (Rep.mono S2 s3 _ _ r2) r3))⟩
end
end VI
/-! VIyd: sorted(xs, key=lambda a: (len(a), a)). -/
namespace VI
open PySem PySem.Spec PyProof.Rows L2
variable [LL]
/-- what the lambda's scope is -/
structure LenScope (a : Str) (scope : Scope) : Prop where
  k : scope.kind = .function
  co : scope.isCoroutine = false
  gen : scope.isGenerator = false
  cell : ∀ y ∈ scope.names, y.2 ≠ .cell ∧ y.2 ≠ .free
  loc : scope.names.lookup a = some .local
  len : scope.names.lookup ("len" : Str) = some .globalImplicit
def lenScopeB (a : Str) (scope : Scope) : Bool := decide (scope.kind = .function) && !scope.isCoroutine && !scope.isGenerator && (scope.names.all fun y => !decide (y.2 = .cell) && !decide (y.2 = .free)) && decide (scope.names.lookup a = some .local) && decide (scope.names.lookup ("len" : Str) = some .globalImplicit)
theorem lenScope_by {a : Str} {scope : Scope} (h : lenScopeB a scope = true) : LenScope a scope := by
  unfold lenScopeB at h
  simp only [Bool.and_eq_true, Bool.not_eq_true', decide_eq_true_eq, List.all_eq_true, decide_eq_false_iff_not] at h
  obtain ⟨⟨⟨⟨⟨h1, h2⟩, h3⟩, h4⟩, h5⟩, h6⟩ := h
  exact ⟨h1, h2, h3, h4, h5, h6⟩
section
variable {prog : Program} {w : World} {A : Around} {s : Shared}
/-- the lambda is called -/
theorem lam_run {f c' : Addr} {q a : Str} {params : Arguments} {scope : Scope} {pm ctv v : Value} {n : Int} {kd : PyData} {mg mb : Str → Option Value} {x1} {p1 p2 p3 p4 p5 : Pos}
    (hdep : A.depth < recursionLimit) (hf : s.heap.get? f = some (PySem.W.kla_obj "<lambda>" q params (.Tuple [.Call (.Name "len" p1) [.Name a p2] [] p3, .Name a p4] x1 p5) scope [] pm c' ctv)) (hco : s.heap.CodeRec (.ref c') q) (hlim : s.heap.NoLimit)
    (hbind : bindArgs (PySem.W.kla_fn "<lambda>" q params (.Tuple [.Call (.Name "len" p1) [.Name a p2] [] p3, .Name a p4] x1 p5) scope [] pm (.ref c') ctv) ⟨[v], []⟩ = pure [(a, v)]) (S : LenScope a scope)
    (hG : s.heap.Ns mainGlobals mg) (hgl : mg "len" = none) (hB : s.heap.Ns builtinsNs mb) (hbl : mb "len" = some (.builtin "len")) (hda : (a == ("__debug__" : Str)) = false)
    (item : ∀ (h : Heap) (tk : Nat), (∀ b o, s.heap.get? b = some o → h.get? b = some o) → ∀ (A' : Around) (E' : Value → Shared → Prop) (Q' : Value → Shared → Prop), (∀ t tk', Q' (.int n t) { s with heap := h, toks := tk' }) → wpAny (model prog w) A' (call (.builtin "len") [v]) Q' E' { s with heap := h, toks := tk })
    (hr : ∀ h : Heap, (∀ b o, s.heap.get? b = some o → h.get? b = some o) → Reads h v kd []) :
    wpAny (model prog w) A (call (.ref f) [v]) (PySem.W.KeyPure (.tuple [.int n, kd]) s) (fun _ _ => False) s := by
  refine wpAny_call ?_
  refine PySem.W.kla_callFunE hdep hf rfl S.co S.gen rfl hco ?_
  rw [hbind]
  refine wpAny_pure (wpAny_newFunctionEnv (fun y hy => (S.cell y hy).1) (fun x hx => by rw [List.mem_singleton.mp hx]; exact S.loc) (fun h₁ hns hsb => ⟨hlim.fresh _ hsb, ?_⟩) S.k)
  show codeAny _ _ (.expr _ (PySem.W.envX q scope s.heap.objs.size f (.ref c') [])) _ _
  have kp : ∀ b o, s.heap.get? b = some o → h₁.get? b = some o := fun b o e => hsb.extBut b o (Nat.ne_of_lt (Heap.lt_size e)) (Heap.get?_push_of_some _ e)
  refine PySem.W.kla_codeExpr ?_
  generalize hTk : s.toks + [(a, v)].length = tk0
  generalize hEnv : PySem.W.envX q scope s.heap.objs.size f (.ref c') [] = env
  have ek : env.scope.kind = .function := by subst hEnv; exact S.k
  have eg : env.globals = mainGlobals := by subst hEnv; rfl
  have eb : env.builtins = builtinsNs := by subst hEnv; rfl
  have el : env.kindOf "len" = some .globalImplicit := by subst hEnv; exact S.len
  have ea : env.kindOf a = some .local := by subst hEnv; exact S.loc
  have en : h₁.Ns env.locals fun x => ([(a, v)] : List (Str × Value)).reverse.lookup x := by subst hEnv; exact hns
  have ev : (fun x => ([(a, v)] : List (Str × Value)).reverse.lookup x) a = some v := by simp [List.lookup]
  refine wpAny_Tuple_spliced ?_
  show wpAny _ _ (spliced ((false, eval (.Call (.Name "len" p1) [.Name a p2] [] p3) env) :: backTo p5 (starEach [.Name a p4] env))) _ _ _
  refine Calls.spliced_cons ?_
  refine wpAny_Call_Name_kw (Calls.Name_function_global ek el (Calls.loadGlobal_builtin (by rw [eg]; exact hG.keeps kp) hgl (by rw [eb]; exact hB.keeps kp) hbl ?_) (by decide))
  refine PyProof.Rows.callWith_builtin1 ?_
  show wpAny _ _ (spliced ((false, eval (.Name a p2) env) :: [])) _ _ _
  refine Calls.spliced_cons (wpAny_Name (wpAny_loadName_local ek ea en ev (Calls.spliced_nil ?_)) hda)
  refine item h₁ tk0 kp _ _ _ fun t tk' => ?_
  show wpAny _ _ (spliced ((false, eval (.Name a p4) env) :: [])) _ _ _
  refine Calls.spliced_cons (wpAny_Name (wpAny_loadName_local ek ea en ev (Calls.spliced_nil ?_)) hda)
  refine ⟨by show 2 ≤ sizeLine; decide, ?_⟩
  refine ⟨_, _, rfl, fun b o e => Heap.get?_push_of_some _ (kp b o e), ?_⟩
  have h2 : (h₁.push { cls := .type "tuple", data := .seq [Value.int n t, v].toArray }).get? h₁.objs.size = some { cls := .type "tuple", data := .seq [Value.int n t, v].toArray } := Heap.get?_push_size _ rfl
  refine .tuple h2 rfl rfl ?_
  show ReadsAll _ [Value.int n t, v] _ ([] ++ ([] ++ []))
  exact .cons (.int n t) (.cons (hr _ fun b o e => Heap.get?_push_of_some _ (kp b o e)) .nil)
end
theorem bind_any {q a : Str} {p : Pos} {body : Expr} {scope : Scope} {cl : List (Str × Addr)} {pm cv ctv v : Value} : bindArgs (PySem.W.kla_fn "<lambda>" q ⟨[], [⟨a, none, p⟩], none, [], [], none, []⟩ body scope cl pm cv ctv) ⟨[v], []⟩ = pure [(a, v)] := by
  have h : seqItems? Value.none = pure none := rfl
  unfold bindArgs
  simp [PySem.W.kla_fn, h]
theorem clo_none {cells : List (Str × Addr)} : ∀ {names : List (Str × NameKind)} {acc : List (Str × Addr)}, (∀ y ∈ names, y.2 ≠ .free) → cloFrom cells names acc = acc
  | [], _, _ => rfl
  | (n, k) :: r, acc, h => by
    have hk : (k == NameKind.free) = false := by
      have := h (n, k) List.mem_cons_self
      cases k <;> first | rfl | exact absurd rfl this
    unfold cloFrom
    rw [hk]
    exact clo_none fun y hy => h y (List.mem_cons_of_mem _ hy)
section
variable {m : Md} {E : XK} {X : Cx} {ρ : List Addr} {H : Hp} {st : Store} {pins : List (Addr × Obj)} {σ : L2.St} {s : Shared}
/-- a lambda without captured names is made -/
theorem lam_make3 {c P : Addr} {ps : Array Value} {params : Arguments} {body : Expr} {scope : Scope} {pos : Pos} {E : Value → Shared → Prop} {Q : Value → Shared → Prop} (I : Inv X pins σ H s) (TB : LamX.TabB X.base X.mg c P) (hcode : X.env.code = .ref c)
    (hP : H P = some (.tbl ps)) (ht : TriplesOk ps.toList) (ha : ∀ (pos : Pos) (cv : Value), codeAmong pos ps.toList = some cv → ∃ c, cv = .ref c ∧ H c = some (LamX.CodeO c (X.env.qual ++ "<lambda>")))
    (hdef : defaultsOf params X.env = ([], [])) (hfree : ∀ y ∈ scope.names, y.2 ≠ .free)
    (h : ∀ (f c' : Addr) (pm ctv : Value) (H1 : Hp) (s' : Shared), Inv X pins σ H1 s' → s'.heap.get? f = some (PySem.W.kla_obj "<lambda>" (X.env.qual ++ "<lambda>") params body scope [] pm c' ctv) → s'.heap.CodeRec (.ref c') (X.env.qual ++ "<lambda>") →
      (H1 = H ∨ (H c' = none ∧ H1 = upd (upd H P (.tbl (ps ++ #[rawInt pos.line, rawInt pos.col, .ref c']))) c' (LamX.CodeO c' (X.env.qual ++ "<lambda>")))) → Q (.ref f) s') :
    wpAny (model X.prog X.w) X.A (eval (.Lambda params body scope pos) X.env) Q E s := by
  refine PySem.W.kla_eval hdef ?_
  have hcl : closureFor scope X.env = pure [] := by
    have := closure_ok (scope := scope) (env := X.env) fun y hy e => absurd e (hfree y hy)
    rw [clo_none hfree] at this
    exact this
  have hP' : s.heap.get? P = some { cls := .none, data := .fields ps } := I.hok P _ hP
  cases hc : codeAmong pos ps.toList with
  | some cv =>
    obtain ⟨c', rfl, hco⟩ := ha pos cv hc
    refine PySem.W.kla_makeFunctionHit (mg := X.mg) (c := c) (P := P) (ps := ps) hcl I.ok.glob (I.mod.glob.keeps I.bk) hcode (TB.code.keeps I.bk) hP' ht hc (TB.bm.keeps I.bk) fun ctv h' tk hx hsz => ?_
    have I1 : Inv X pins σ H { s with heap := h'.push (PySem.W.kla_obj "<lambda>" (X.env.qual ++ "<lambda>") params body scope [] ((X.mg "__name__").getD .none) c' ctv), toks := tk } := I.kept fun b o e => Heap.get?_push_of_some _ (hx b o e)
    obtain ⟨⟨oc, vs, t, hoc, hdc, hvc⟩, _, _⟩ := I1.hok c' _ hco
    exact h h'.objs.size c' _ ctv H _ I1 (Heap.get?_push_size _ rfl) ⟨c', oc, vs, t, rfl, hoc, hdc, hvc⟩ (.inl rfl)
  | none =>
    refine PySem.W.kla_makeFunction (mg := X.mg) (c := c) (P := P) (ps := ps) hcl I.ok.glob (I.mod.glob.keeps I.bk) hcode (TB.code.keeps I.bk) hP' ht hc TB.gP (TB.bm.keeps I.bk) fun c' ctv h' tk hx hge hlt hrec htb => ?_
    obtain ⟨c2, oc, vs, t, e2, hoc, hd, hv⟩ := hrec
    cases e2
    have I1 := LamX.inv_table (t' := tk) (q := X.env.qual ++ "<lambda>") (more := #[rawInt pos.line, rawInt pos.col, .ref c']) (h' := h'.push (PySem.W.kla_obj "<lambda>" (X.env.qual ++ "<lambda>") params body scope [] ((X.mg "__name__").getD .none) c' ctv)) I hP
      (fun b o hb e => Heap.get?_push_of_some _ (hx b o hb e)) (Heap.get?_push_of_some _ htb) hge ⟨oc, vs, t, Heap.get?_push_of_some _ hoc, hd, hv⟩
    exact h h'.objs.size c' _ ctv _ _ I1 (Heap.get?_push_size _ rfl) ⟨c', oc, vs, t, rfl, Heap.get?_push_of_some _ hoc, hd, hv⟩ (.inr ⟨I.hok.fresh hge, rfl⟩)
/-- a table of the store has one more -/
theorem SRel.tabset {nm : Nm} {P0 : Program} {w : World} {K : PySem.W.Frag} (S : SRel nm P0 w K ρ H st) {n i : Nat} {P c : Addr} {q : Str} {ps : Array Value} {pos : Pos} (hn : ρ[n]? = some P) (g : st.get n = some (.tab i)) (hq : nm.tA[i]? = some (P, q)) (hP : H P = some (.tbl ps)) (hc : H c = none)
    (ht : TriplesOk ps.toList) (ha : ∀ (pos : Pos) (cv : Value), codeAmong pos ps.toList = some cv → ∃ c, cv = .ref c ∧ H c = some (LamX.CodeO c q) ∧ c ∉ ρ) :
    SRel nm P0 w K ρ (upd (upd H P (.tbl (ps ++ #[rawInt pos.line, rawInt pos.col, .ref c]))) c (LamX.CodeO c q)) st ∧ Step ρ H ρ (upd (upd H P (.tbl (ps ++ #[rawInt pos.line, rawInt pos.col, .ref c]))) c (LamX.CodeO c q)) := by
  have hm : P ∈ ρ := List.mem_of_getElem? hn
  have hcρ : c ∉ ρ := fun z => S.live z hc
  have at_ : ∀ b, b ≠ P → b ≠ c → upd (upd H P (.tbl (ps ++ #[rawInt pos.line, rawInt pos.col, .ref c]))) c (LamX.CodeO c q) b = H b := fun b h1 h2 => by rw [upd_ne h2, upd_ne h1]
  have stp : Step ρ H ρ (upd (upd H P (.tbl (ps ++ #[rawInt pos.line, rawInt pos.col, .ref c]))) c (LamX.CodeO c q)) := by
    refine ⟨fun _ _ h => h, fun a o h hn => ⟨?_, hn⟩, fun a o u h => ?_⟩
    · rw [at_ a (fun z => hn (z ▸ hm)) (ne_of_none h hc)]; exact h
    · rw [at_ a (fun z => by rw [z, hP] at h; cases h) (ne_of_none h hc)]; exact h
  refine ⟨⟨S.nd, S.sz, fun k b hb => ?_, CtOk.mono S stp⟩, stp⟩
  obtain ⟨ob, g', r⟩ := S.ob k b hb
  by_cases hbP : b = P
  · subst hbP
    have hkn : k = n := by
      obtain ⟨z1, e1⟩ := List.getElem?_eq_some_iff.mp hb
      obtain ⟨z2, e2⟩ := List.getElem?_eq_some_iff.mp hn
      exact (List.getElem_inj S.nd).mp (e1.trans e2.symm)
    subst hkn
    refine ⟨.tab i, g, q, ps ++ #[rawInt pos.line, rawInt pos.col, .ref c], hq, ?_, ?_, fun pos' cv hcv => ?_⟩
    · rw [upd_ne (ne_of_none hP hc), upd_same]
    · have eL : (ps ++ #[rawInt pos.line, rawInt pos.col, .ref c]).toList = ps.toList ++ [rawInt pos.line, rawInt pos.col, .ref c] := by simp
      rw [eL]
      exact PySem.TriplesOk_snoc _ _ _ _ ht
    · have eL : (ps ++ #[rawInt pos.line, rawInt pos.col, .ref c]).toList = ps.toList ++ [rawInt pos.line, rawInt pos.col, .ref c] := by simp
      rw [eL] at hcv
      rcases LamX.among_app _ ht hcv with z | z
      · obtain ⟨c0, e1, e2, e3⟩ := ha pos' cv z
        exact ⟨c0, e1, (stp.keep c0 _ e2 e3).1, e3⟩
      · exact ⟨c, z, upd_same, hcρ⟩
  · exact ⟨ob, g', ORep.mono S stp (at_ b hbP fun z => hcρ (z ▸ List.mem_of_getElem? hb)) r⟩
/-- what a def with lambdas has: its code object, its table -/
def LamAt (m : Md) (X : Cx) (i : Nat) : Prop := ∃ c P, LamX.TabB X.base X.mg c P ∧ X.env.code = .ref c ∧ m.nm.tA[i]? = some (P, X.env.qual ++ "<lambda>")
theorem encL_tup (x : D) (h : isStrL x = true ∨ isIntsL x = true) : ∃ n d, encL x = .tuple [.int n, d] ∧ (encL x).depth ≤ 2 := by
  cases x with
  | str x => exact ⟨x.length, .str ⟨x.toArray⟩, by simp only [encL], by simp [encL, PyData.depth, PyData.depthAll]⟩
  | tup xs => exact ⟨xs.length, .tuple (xs.map encA), by simp only [encL], by simp only [encL, PyData.depth, PyData.depthAll, encAs_depth]; decide⟩
  | non => rcases h with h | h <;> cases h
  | bl _ => rcases h with h | h <;> cases h
  | int _ => rcases h with h | h <;> cases h
  | ref _ => rcases h with h | h <;> cases h
  | fn _ => rcases h with h | h <;> cases h
theorem alike_intsD : ∀ xs ys : List D, xs.all isIntD = true → ys.all isIntD = true → PySem.W.alikeAll (xs.map encA) (ys.map encA) = true
  | [], _, _, _ => by simp [PySem.W.alikeAll]
  | _ :: _, [], _, _ => by simp [PySem.W.alikeAll]
  | x :: xs, y :: ys, h1, h2 => by
    rw [List.all_cons, Bool.and_eq_true] at h1 h2
    show PySem.W.alikeAll (encA x :: xs.map encA) (encA y :: ys.map encA) = true
    rw [PySem.W.alikeAll, alike_intsD xs ys h1.2 h2.2]
    cases x <;> first | (cases h1.1; done) | skip
    cases y <;> first | (cases h2.1; done) | skip
    simp [PySem.W.alike, encA]
theorem alike_L {xs : List D} (h : (xs.all isStrL || xs.all isIntsL) = true) : PySem.W.AllAlike (xs.map encL) := by
  intro d hd d' hd'
  obtain ⟨a, ha, rfl⟩ := List.mem_map.mp hd
  obtain ⟨b, hb, rfl⟩ := List.mem_map.mp hd'
  rcases Bool.or_eq_true_iff.mp h with h | h
  · have h1 := List.all_eq_true.mp h a ha
    have h2 := List.all_eq_true.mp h b hb
    cases a <;> first | (cases h1; done) | skip
    cases b <;> first | (cases h2; done) | skip
    simp [encL, PySem.W.alike, PySem.W.alikeAll]
  · have h1 := List.all_eq_true.mp h a ha
    have h2 := List.all_eq_true.mp h b hb
    cases a <;> first | (cases h1; done) | skip
    cases b <;> first | (cases h2; done) | skip
    rename_i xs ys
    have := alike_intsD xs ys h1 h2
    simp [encL, PySem.W.alike, PySem.W.alikeAll, this]
theorem ints_atoms {xs : List D} (h : xs.all isIntD = true) : xs.all isAtom = true := by
  rw [List.all_eq_true] at h ⊢
  intro x hx
  have := h x hx
  cases x <;> first | rfl | cases this
/-- sorted(e, key=lambda a: (len(a), a)) -/
theorem pe_sortLen {i : Nat} {e : Expr} {es : Xs} {a : Str} {scope : Scope} {params : Arguments} {x1} {p p1 p2 p3 p4 p5 kpos lpos pos : Pos} (hu : X.A.units + 65 < cLine) (hdp : X.A.depth + 5 < recursionLimit) (L : LamAt m X i) (hg : Gl X "sorted") (hm : X.mg "sorted" = none) (hl : X.mg "len" = none)
    (he : PA X [e] (tEvX m E X es)) (S : LenScope a scope) (hda : (a == ("__debug__" : Str)) = false) (hdef : defaultsOf params X.env = ([], []))
    (hbind : ∀ (q : Str) (c' : Addr) (pm ctv v : Value), bindArgs (PySem.W.kla_fn "<lambda>" q params (.Tuple [.Call (.Name "len" p1) [.Name a p2] [] p3, .Name a p4] x1 p5) scope [] pm (.ref c') ctv) ⟨[v], []⟩ = pure [(a, v)])
    (hs : starEach [e] X.env = [(false, eval e X.env)]) :
    PE X (.Call (.Name "sorted" p) [e] [⟨some "key", .Lambda params (.Tuple [.Call (.Name "len" p1) [.Name a p2] [] p3, .Name a p4] x1 p5) scope lpos, kpos⟩] pos) (tEv m E X (.blt (.sortLen i) es)) := by
  refine ⟨fun pins s σ H Q I h => ?_⟩
  obtain ⟨ρ, env, st, hev, S0, hf⟩ := h
  refine wpAny_Call_Name_kw (ld_blt (u := .builtin "sorted") I hg hm rfl ?_ (by decide) (by decide))
  refine PyProof.Rows.callWith_kw ?_ (by rw [hs]; rfl) (by rw [hs]; rfl) (by rfl) (by rfl)
  refine thn (he.run pos pins s σ H (fun vs H1 => ∃ ρ1 st1 ds, Rel m X ρ1 H1 st1 ∧ Reps X.K ρ1 H1 ds vs ∧ Fin m E X ρ1 H1 (sortLenV i ds st1) (rD X) Q) I ⟨ρ, env, st, hev, S0, ?_⟩) fun us s1 ⟨vs, H1, I1, rv, ρ1, st1, ds, S1, rs, hf1⟩ => ?_
  · simp only [evE] at hf
    exact hf.bind fun ds st1 ρ1 H1 vs s1 S1 r1 hf1 => ⟨ρ1, st1, ds, S1, r1, hf1⟩
  show wpAny _ _ (evalAll ((do let v ← eval (.Lambda params (.Tuple [.Call (.Name "len" p1) [.Name a p2] [] p3, .Name a p4] x1 p5) scope lpos) X.env; standAt pos; pure v) :: [])) _ _ s1
  unfold sortLenV at hf1
  split at hf1
  rotate_left
  · exact hf1.elim
  rename_i j n gT
  split at hf1
  rotate_left
  · exact hf1.elim
  rename_i hij
  subst hij
  split at hf1
  rotate_left
  · exact hf1.elim
  rename_i xs g
  split at hf1
  rotate_left
  · exact hf1.elim
  rename_i hok
  obtain ⟨c, P, TB, hcode, hT⟩ := L
  have hlt : i + 1 < ρ1.length := by rw [← S1.sz]; exact Store.get_lt gT
  obtain ⟨o, gT', r⟩ := S1.ob (i + 1) ρ1[i + 1] (List.getElem?_eq_getElem hlt)
  rw [gT] at gT'
  cases gT'
  obtain ⟨q, ps, hq, hP, htr, hco⟩ := r
  rw [hT] at hq
  obtain ⟨rfl, rfl⟩ : P = ρ1[i + 1] ∧ X.env.qual ++ "<lambda>" = q := by
    have := Option.some.inj hq
    exact ⟨congrArg Prod.fst this, congrArg Prod.snd this⟩
  obtain ⟨v, rfl, rv1⟩ := reps_one rs
  cases rv1 with
  | @ref _ al hal =>
  obtain ⟨u, rfl, ru⟩ := rv.one
  cases ru
  refine wpAny_evalAll_cons (wpAny_bind (lam_make3 I1 TB hcode hP htr (fun pos cv hc => let ⟨c0, e1, e2, _⟩ := hco pos cv hc; ⟨c0, e1, e2⟩) hdef (fun y hy => (S.cell y hy).2) fun f c' pm ctv H2 s2 I2 hobj hcr hH => wpAny_bind (wpAny_standAt (wpAny_pure ?_))))
  refine wpAny_evalAll_nil ?_
  obtain ⟨S2, stp2⟩ : Rel m X ρ1 H2 st1 ∧ Step ρ1 H1 ρ1 H2 := by
    rcases hH with rfl | ⟨hn, rfl⟩
    · exact ⟨S1, Step.refl _ _⟩
    · exact SRel.tabset S1 (List.getElem?_eq_getElem hlt) gT hT hP hn htr hco
  obtain ⟨vs0, e2, rs2⟩ := S2.lst_at hal g
  obtain ⟨its, rv', p', hz⟩ := I2.list (SqL.of e2)
  obtain ⟨mb, hb1, hb2⟩ := I2.mod.blt
  show wpAny _ _ (call (.builtin "sorted") [.ref al] [(Str.ofString "key", .ref f)]) _ _ _
  have each : ∀ (xs : List D) (vs : List V) (its : List Value), Reps X.K ρ1 H2 xs vs → Vals vs its → PySem.W.EachIs (fun v d => ∃ vv, RelV vv v ∧ Rep X.K ρ1 H2 d vv) its xs := by
    intro xs
    induction xs with
    | nil => intro vs its r v; cases r; cases v; exact .nil
    | cons x xs ih =>
      intro vs its r v
      cases r with
      | cons r rs =>
        cases v with
        | cons v vs => exact .cons ⟨_, v, r⟩ (ih _ _ rs vs)
  have okx : ∀ d ∈ xs, isStrL d = true ∨ isIntsL d = true := fun d hd => by
    rcases Bool.or_eq_true_iff.mp hok with h | h
    · exact .inl (List.all_eq_true.mp h d hd)
    · exact .inr (List.all_eq_true.mp h d hd)
  refine PySem.W.sorted_key_data (vs := its) (bs := xs) (b := false) (R := fun v d => ∃ vv, RelV vv v ∧ Rep X.K ρ1 H2 d vv) encL p'.isList (each xs vs0 its rs2 rv') (alike_L hok) ?_ ?_ ?_ (PyProof.Rows.ksk_s1 _ _) (fun x => PyProof.Rows.ksk_l1 _ _) (fun x => PyProof.Rows.ksk_t1 f x) ?_ ?_
  · refine .inl fun d hd => ?_
    obtain ⟨y, hy, rfl⟩ := List.mem_map.mp hd
    obtain ⟨n, d', e, _⟩ := encL_tup y (okx y hy)
    exact ⟨_, _, e⟩
  · rw [rs2.length]; exact hz
  · intro d hd
    obtain ⟨n, d', e, h2⟩ := encL_tup d (okx d hd)
    omega
  · rintro v d ⟨vv, rvv, rd⟩ hd h tk kp
    have hA : X.A.in1.in1.depth < recursionLimit := by show X.A.depth < _; omega
    have run := fun (n : Int) (kd : PyData) => lam_run (prog := X.prog) (w := X.w) (A := X.A.in1.in1) (s := { s2 with heap := h, toks := tk }) (v := v) (n := n) (kd := kd) hA (kp _ _ hobj) (hcr.keeps kp) (I2.nolimit.keeps kp) (hbind _ c' pm ctv v) S ((I2.mod.glob.keeps I2.bk).keeps kp) hl ((hb1.keeps I2.bk).keeps kp) ((hb2 "len" (by decide)).trans rfl) hda
    have hline := line63
    rcases okx d hd with hx | hx
    · cases d <;> first | (cases hx; done) | skip
      rename_i x
      cases rd
      obtain ⟨t, rfl⟩ := rvv
      have hxl : x.length ≤ line := of_decide_eq_true hx
      rw [line_eq] at hxl
      refine run x.length (.str (toS x)) (fun h' tk' kp' A' E' Q' hQ => ?_) fun h' kp' => .str _ _
      refine len_str (by rw [toS_len]; omega) ?_
      rw [toS_len]
      exact hQ _ _
    · cases d <;> first | (cases hx; done) | skip
      rename_i ys
      cases rd with
      | @tup _ ta tvs qt rst =>
        cases rvv
        obtain ⟨its2, rv2, ⟨ot, h1, h2, nt, h3⟩, hz2⟩ := I2.tuple qt
        have hsz : its2.toArray.size = ys.length := by rw [List.size_toArray, ← rv2.length, ← rst.length]
        have hls : ys.length ≤ sizeLine := by rw [rst.length]; exact hz2
        refine run ys.length (.tuple (ys.map encA)) (fun h' tk' kp' A' E' Q' hQ => ?_) fun h' kp' => ?_
        · refine len_tuple (items := its2.toArray) ⟨ot, kp' _ _ (kp _ _ h1), h2, nt, h3⟩ (by rw [hsz]; omega) ?_
          rw [hsz]
          exact hQ _ _
        · exact .tuple (kp' _ _ (kp _ _ h1)) h2 h3 (by rw [List.toList_toArray]; exact reads_atoms ys _ _ (ints_atoms hx) rst rv2)
  · intro out cc h' tk kp hfresh hnew hlen ho
    have ho : PySem.W.EachIs (fun v d => ∃ vv, RelV vv v ∧ Rep X.K ρ1 H2 d vv) out (isortD (PySem.W.dataLe false encL) xs) := by rw [isortD_eq (show PySem.W.TotalLe (PySem.W.dataLe false encL) from PySem.W.sortLe_total _ _ _)]; exact ho
    have back : ∀ (us : List Value) (ds : List D), PySem.W.EachIs (fun v d => ∃ vv, RelV vv v ∧ Rep X.K ρ1 H2 d vv) us ds → ∃ ws, Vals ws us ∧ Reps X.K ρ1 H2 ds ws := by
      intro us ds e
      induction e with
      | nil => exact ⟨[], .nil, .nil⟩
      | cons h _ ih =>
        obtain ⟨vv, q1, q2⟩ := h
        obtain ⟨ws, q3, q4⟩ := ih
        exact ⟨vv :: ws, .cons q1 q3, .cons q2 q4⟩
    obtain ⟨ws, q1, q2⟩ := back _ _ ho
    have hz2 : ws.length ≤ sizeLine := by rw [q1.length, hlen, rs2.length]; exact hz
    exact ⟨.ref (s2.heap.objs.size + 1), upd H2 (s2.heap.objs.size + 1) (.lst ws), I2.laid (fun b u q => kp b u q) (Nat.le_succ _) (show ObjOk X.prog X.w _ _ _ (.lst ws) from ⟨hz2, out, cc, q1, hnew⟩), rfl, (hf1.step stp2).lst S2 q2 (I2.hok.fresh (Nat.le_succ _))⟩
end
end VI
/-! VIlm: lambdas as values. -/
namespace VI
open PySem PySem.Spec PyProof.Rows L2
variable [LL]
theorem fnO_ok {P : Program} {w : World} {H : Hp} {h : Heap} {L : LamT} {cl : List (Str × Addr)} {c f : Addr} {pm ctv : Value} (e : h.get? f = some (PySem.W.kla_obj "<lambda>" L.q L.ps L.body L.scope cl pm c ctv)) : ObjOk P w H h f (FnO L cl c f) :=
  ⟨⟨pm, ctv, e⟩, ⟨_, e⟩, fun h1 h2 ⟨pm, ctv, z⟩ k => ⟨pm, ctv, k _ z⟩⟩
section
variable {m : Md} {E : XK} {X : Cx} {ρ : List Addr} {H : Hp} {st : Store} {pins : List (Addr × Obj)} {σ : L2.St} {s : Shared}
/-- a lambda -/
theorem se_lam {k i : Nat} {L : LamT} {pos : Pos} (A : LamAt m X i) (hL : LL.ls k = some L) (hq : L.q = X.env.qual ++ "<lambda>") (hdef : defaultsOf L.ps X.env = ([], [])) (hfree : ∀ y ∈ L.scope.names, y.2 = .free → ∃ c, X.env.cells.lookup y.1 = some c)
    (hfc : ∀ y ∈ L.scope.names, y.2 = .free → y.1 ∈ L.caps) (hcaps : ∀ x ∈ L.caps, ∃ c, (cloFrom X.env.cells L.scope.names []).lookup x = some c ∧ LL.own.lookup x = some c) : PE X (.Lambda L.ps L.body L.scope pos) (tEv m E X (.lam k i)) := by
  refine ⟨fun pins s σ H Q I h => ?_⟩
  obtain ⟨ρ, env, st, hev, S, hf⟩ := h
  simp only [evE] at hf
  split at hf
  rotate_left
  · exact hf.elim
  rename_i j gT
  split at hf
  rotate_left
  · exact hf.elim
  rename_i hij
  subst hij
  obtain ⟨c, P, TB, hcode, hT⟩ := A
  have hlt : j + 1 < ρ.length := by rw [← S.sz]; exact Store.get_lt gT
  obtain ⟨o, gT', r⟩ := S.ob (j + 1) ρ[j + 1] (List.getElem?_eq_getElem hlt)
  rw [gT] at gT'
  cases gT'
  obtain ⟨q, ps, hq2, hP, htr, hco⟩ := r
  rw [hT] at hq2
  obtain ⟨rfl, rfl⟩ : P = ρ[j + 1] ∧ X.env.qual ++ "<lambda>" = q := by
    have := Option.some.inj hq2
    exact ⟨congrArg Prod.fst this, congrArg Prod.snd this⟩
  refine PySem.W.kla_eval hdef ?_
  have hcl : closureFor L.scope X.env = pure (cloFrom X.env.cells L.scope.names []) := closure_ok hfree
  have hP' : s.heap.get? ρ[j + 1] = some { cls := .none, data := .fields ps } := I.hok _ _ hP
  have fin : ∀ (f c' : Addr) (H1 : Hp) (s' : Shared), Inv X pins σ (upd H1 f (FnO L (cloFrom X.env.cells L.scope.names []) c' f)) s' → H1 f = none → Rel m X ρ H1 st → Step ρ H ρ H1 → H1 c' = some (LamX.CodeO c' L.q) → c' ∉ ρ → EP X pins σ Q (.ref f) s' := fun f c' H1 s' I1 hfn S1 stp hc' hcρ => by
    obtain ⟨S2, stp2⟩ := SRel.other (o := FnO L (cloFrom X.env.cells L.scope.names []) c' f) S1 hfn
    refine ⟨.ref f, _, I1, rfl, (hf.step (stp.trans stp2)).now S2 (.fn hL upd_same (fun z => S1.live z hfn) ?_ hcρ (fun p hp => ?_) fun x c h => ?_)⟩
    · rw [upd_ne (ne_of_none hc' hfn)]; exact hc'
    · obtain ⟨c, h1, h2⟩ := hcaps p hp
      exact ⟨c, h1, h2⟩
    · rcases cloFrom_mem (PySem.mem_of_lookup h) with hm | ⟨h1, _⟩
      · cases hm
      · exact hfc _ h1 rfl
  rw [← hq] at hco
  cases hc : codeAmong pos ps.toList with
  | some cv =>
    obtain ⟨c', rfl, hcd, hcn⟩ := hco pos cv hc
    refine PySem.W.kla_makeFunctionHit (mg := X.mg) (c := c) (P := ρ[j + 1]) (ps := ps) hcl I.ok.glob (I.mod.glob.keeps I.bk) hcode (TB.code.keeps I.bk) hP' htr hc (TB.bm.keeps I.bk) fun ctv h' tk hx hsz => ?_
    rw [← hq]
    have hget : (h'.push (PySem.W.kla_obj "<lambda>" L.q L.ps L.body L.scope (cloFrom X.env.cells L.scope.names []) ((X.mg "__name__").getD .none) c' ctv)).get? h'.objs.size = some (PySem.W.kla_obj "<lambda>" L.q L.ps L.body L.scope (cloFrom X.env.cells L.scope.names []) ((X.mg "__name__").getD .none) c' ctv) := Heap.get?_push_size _ rfl
    exact fin h'.objs.size c' H _ (I.laid (t' := tk) (fun b o e => Heap.get?_push_of_some _ (hx b o e)) hsz (fnO_ok hget)) (I.hok.fresh hsz) S (Step.refl _ _) hcd hcn
  | none =>
    refine PySem.W.kla_makeFunction (mg := X.mg) (c := c) (P := ρ[j + 1]) (ps := ps) hcl I.ok.glob (I.mod.glob.keeps I.bk) hcode (TB.code.keeps I.bk) hP' htr hc TB.gP (TB.bm.keeps I.bk) fun c' ctv h' tk hx hge hlt' hrec htb => ?_
    obtain ⟨c2, oc, vs, t, e2, hoc, hd, hv⟩ := hrec
    cases e2
    rw [← hq] at hv ⊢
    have hnc : H c' = none := I.hok.fresh hge
    have I1 := LamX.inv_table (t' := tk) (q := L.q) (more := #[rawInt pos.line, rawInt pos.col, .ref c']) (h' := h') I hP hx htb hge ⟨oc, vs, t, hoc, hd, hv⟩
    have hget : (h'.push (PySem.W.kla_obj "<lambda>" L.q L.ps L.body L.scope (cloFrom X.env.cells L.scope.names []) ((X.mg "__name__").getD .none) c' ctv)).get? h'.objs.size = some (PySem.W.kla_obj "<lambda>" L.q L.ps L.body L.scope (cloFrom X.env.cells L.scope.names []) ((X.mg "__name__").getD .none) c' ctv) := Heap.get?_push_size _ rfl
    obtain ⟨S1, stp1⟩ := SRel.tabset S (List.getElem?_eq_getElem hlt) gT (by rw [hq]; exact hT) hP hnc htr hco
    refine fin h'.objs.size c' _ _ (I1.laid (t' := tk) (fun b o e => Heap.get?_push_of_some _ e) (Nat.le_refl _) (fnO_ok hget)) (I1.hok.fresh (Nat.le_refl _)) S1 stp1 upd_same (fun z => S.live z hnc)
end
/-- a lambda's names: its parameters, what it captures -/
structure LmScope (L : LamT) (ps : List Str) : Prop where
  kind : L.scope.kind = .function
  co : L.scope.isCoroutine = false
  gen : L.scope.isGenerator = false
  ncell : ∀ y ∈ L.scope.names, y.2 ≠ .cell
  par : ∀ x ∈ ps, L.scope.names.lookup x = some .local
  fre : ∀ y ∈ L.scope.names, y.2 = .free → y.1 ∈ L.caps
  cap : ∀ x ∈ L.caps, L.scope.names.lookup x = some .free
  nd : ps.Nodup
  bind : ∀ (cl : List (Str × Addr)) (pm cv ctv : Value) (us : List Value), us.length = ps.length → bindArgs (PySem.W.kla_fn "<lambda>" L.q L.ps L.body L.scope cl pm cv ctv) ⟨us, []⟩ = pure (ps.zip us)
/-- the captured names' cells stand in the base -/
structure OwnW (base : Heap) : Prop where
  at_ : ∀ x c, LL.own.lookup x = some c → ∃ v, base.IsCell c v
  inj : ∀ x y c, LL.own.lookup x = some c → LL.own.lookup y = some c → x = y
  cb : ∀ c v, LL.cb.IsCell c v → base.IsCell c v
def lmEnv (L : LamT) (La f c : Addr) (cl : List (Str × Addr)) : PySem.Env := PySem.W.envX L.q L.scope La f (.ref c) cl
def lmCx (P : Program) (w : World) (K : PySem.W.Frag) (mg : Str → Option Value) (base : Heap) (N : List Str) (L : LamT) (f c : Addr) (cl : List (Str × Addr)) (A : Around) (outer : List PySem.Env) (s : Shared) (H : Hp) (E : XK) : Cx where
  prog := P
  w := w
  K := K
  mg := mg
  base := base
  A := A.deeper (lmEnv L s.heap.objs.size f c cl)
  N := N
  s_0 := s
  H_0 := H
  env := lmEnv L s.heap.objs.size f c cl
  outer := outer
  stack := lmEnv L s.heap.objs.size f c cl :: outer
  ex := []
  calm := true
  fn := fun _ => false
  pn := []
  xe := fun e s' => wpAny (model P w) (A.deeper (lmEnv L s.heap.objs.size f c cl)) (leaving (lmEnv L s.heap.objs.size f c cl) e) (fun _ s'' => L2.CX P w outer H s E e s'') (fun e' s'' => L2.CX P w outer H s E e' s'') s'
section
variable {P : Program} {w : World} {K : PySem.W.Frag} {mg : Str → Option Value} {base : Heap} {L : LamT} {ps : List Str}
theorem look_nodupV {x : Str} {u : Value} : ∀ {l : List (Str × Value)}, (l.map (·.1)).Nodup → (x, u) ∈ l → l.lookup x = some u
  | [], _, h => by cases h
  | (y, v) :: r, nd, h => by
    rw [List.map_cons, List.nodup_cons] at nd
    rcases List.mem_cons.mp h with e | h
    · cases e
      simp [List.lookup]
    · have hne : (x == y) = false := beq_eq_false_iff_ne.mpr fun e => nd.1 (by rw [← e]; exact List.mem_map.mpr ⟨_, h, rfl⟩)
      rw [List.lookup_cons, hne]
      exact look_nodupV nd.2 h
theorem zip_look {x : Str} {u : Value} : ∀ {ps : List Str} {us : List Value} {i : Nat}, ps.Nodup → ps[i]? = some x → us[i]? = some u → us.length = ps.length → (ps.zip us).reverse.lookup x = some u := fun {ps us i} nd h1 h2 hl => by
  have hm : (x, u) ∈ (ps.zip us).reverse := by
    rw [List.mem_reverse]
    refine List.mem_of_getElem? (i := i) ?_
    rw [List.getElem?_zip_eq_some]
    exact ⟨h1, h2⟩
  refine look_nodupV ?_ hm
  have e : (ps.zip us).map (·.1) = ps := by
    rw [List.map_fst_zip]
    omega
  rw [List.map_reverse, e]
  exact List.pairwise_reverse.mpr (List.Pairwise.imp (fun h => Ne.symm h) nd)
theorem lm_start {A : Around} {outer : List PySem.Env} {s : Shared} {H : Hp} {E : XK} {h₁ : Heap} {tk : Nat} {f c : Addr} {cl : List (Str × Addr)} {us : List Value} {vs : List V} (S : LmScope L ps) (e0 : Env0 P w K mg base A outer s H) (hd : A.handled = none) (r : Vals vs us) (hl : us.length = ps.length)
    (hks : ∀ x c, cl.lookup x = some c → x ∈ L.caps) (hcap : ∀ x ∈ L.caps, CapOk cl x) (hW : L.caps ≠ [] → OwnW base)
    (hns : h₁.Ns s.heap.objs.size fun x => (ps.zip us).reverse.lookup x) (kp : ∀ b o, s.heap.get? b = some o → h₁.get? b = some o) :
    Inv (lmCx P w K mg base ps L f c cl A outer s H E) [] (vs.map some) H { s with heap := h₁, toks := tk } := by
  have noA : ∀ b : Addr, b ∉ (lmCx P w K mg base ps L f c cl A outer s H E).ex := fun b z => absurd (show b ∈ ([] : List Addr) from z) (by simp)
  have ownAt : ∀ x c, cl.lookup x = some c → LL.own.lookup x = some c ∧ OwnW base := fun x c h => by
    have hx := hks x c h
    obtain ⟨c', h1, h2⟩ := hcap x hx
    rw [h] at h1
    cases h1
    exact ⟨h2, hW fun z => by rw [z] at hx; cases hx⟩
  have cellAt : ∀ x c, cl.lookup x = some c → ∃ u, base.IsCell c u ∧ s.heap.IsCell c u ∧ h₁.IsCell c u ∧ H c = none := fun x c h => by
    obtain ⟨h1, W⟩ := ownAt x c h
    obtain ⟨u, o, h2, h3⟩ := W.at_ x c h1
    obtain ⟨h4, h5⟩ := e0.bs _ _ h2
    exact ⟨u, ⟨o, h2, h3⟩, ⟨o, h4, h3⟩, ⟨o, kp _ _ h4, h3⟩, h5⟩
  have hlv : vs.length = ps.length := by rw [r.length]; exact hl
  refine ⟨⟨e0.mod, S.kind, rfl, rfl, Nat.le_refl _, fun x y c h1 h2 => ?_, fun x hx => ?_, fun x c z _ => (nomatch (show false = true from z)), fun _ => hd, Around.frames_deeper e0.frames, .inr ⟨rfl, rfl⟩, fun b z => absurd z (noA b), e0.bs, e0.bsz, fun b _ _ => noA b, fun b z => absurd z (noA b), e0.funs, e0.frf⟩,
    rfl, e0.bare, Un.kept kp, ⟨_, hns, fun i x v e1 e2 e3 => ?_⟩, fun x c h => ?_, e0.hok.fresh (Nat.le_refl _), fun x c h => ?_, fun p hp => absurd (show p ∈ ([] : List (Addr × Obj)) from hp) (by simp), e0.hok.kept kp, ?_⟩
  · obtain ⟨a1, W⟩ := ownAt x c h1
    exact W.inj x y c a1 (ownAt y c h2).1
  · have hx : L.scope.names.lookup x = some .cell ∨ L.scope.names.lookup x = some .free := hx
    rcases hx with hx | hx
    · exact absurd rfl (S.ncell _ (PySem.mem_of_lookup hx))
    · obtain ⟨c, h1, _⟩ := hcap x (S.fre _ (PySem.mem_of_lookup hx) rfl)
      exact ⟨c, h1⟩
  · have e1 : ps[i]? = some x := e1
    rw [List.getElem?_map] at e2
    obtain ⟨v', hv', e2⟩ := Option.map_eq_some_iff.mp e2
    cases e2
    obtain ⟨u, hu, rv⟩ := r.get hv'
    exact ⟨u, rv, .inl ⟨S.par x (List.mem_of_getElem? e1), zip_look S.nd e1 hu hl⟩⟩
  · obtain ⟨u, _, _, h3, _⟩ := cellAt x c h
    exact ⟨_, h3⟩
  · obtain ⟨u, _, _, _, h4⟩ := cellAt x c h
    exact h4
  · show (vs.map some).length = ps.length
    rw [List.length_map]
    exact hlv
/-- a lambda is called -/
theorem lm_run {k : Nat} {A : Around} {outer : List PySem.Env} {s : Shared} {H : Hp} {E : XK} {f c : Addr} {cl : List (Str × Addr)} {us : List Value} {vs : List V} {Q : VK} (S : LmScope L ps) (hr : Room (k + 1) A) (e0 : Env0 P w K mg base A outer s H) (hf : H f = some (FnO L cl c f)) (hc : H c = some (LamX.CodeO c L.q))
    (hks : ∀ x c, cl.lookup x = some c → x ∈ L.caps) (hcap : ∀ x ∈ L.caps, CapOk cl x) (hW : L.caps ≠ [] → OwnW base) (r : Vals vs us) (hl : us.length = ps.length)
    (hbody : Room k (A.deeper (lmEnv L s.heap.objs.size f c cl)) → ∃ t, PE (lmCx P w K mg base ps L f c cl A outer s H E) L.body t ∧ t (vs.map some) H Q) :
    codeAny (model P w) A (.call (.ref f) ⟨us, []⟩) (CR (L2.CX P w) outer P w H s Q E) s := by
  obtain ⟨⟨pm, ctv, hget⟩, _, _⟩ := (show ObjOk P w H s.heap f (.ext fun h => ∃ pm ctv, h.get? f = some (PySem.W.kla_obj "<lambda>" L.q L.ps L.body L.scope cl pm c ctv)) from e0.hok f _ hf)
  obtain ⟨⟨oc, vs0, t, hoc, hdc, hvc⟩, _, _⟩ := (show ObjOk P w H s.heap c (.ext fun h => ∃ (oc : Obj) (vs : Array Value) (t : Tok), h.get? c = some oc ∧ oc.data = .fields vs ∧ vs[1]? = some (.str L.q t)) from e0.hok c _ hc)
  have lim : s.heap.NoLimit := e0.mod.nolimit.keeps fun b o e => (e0.bs b o e).1
  refine PySem.W.kla_callFunE hr.depth hget rfl S.co S.gen rfl ⟨c, oc, vs0, t, rfl, hoc, hdc, hvc⟩ ?_
  rw [S.bind cl pm (.ref c) ctv us hl]
  refine wpAny_pure (wpAny_newFunctionEnv S.ncell (fun y hy => S.par _ (List.of_mem_zip hy).1) (fun h₁ hns hsb => ⟨lim.fresh _ hsb, ?_⟩) S.kind)
  show codeAny _ _ (.expr L.body (lmEnv L s.heap.objs.size f c cl)) _ _
  have kp : ∀ b o, s.heap.get? b = some o → h₁.get? b = some o := fun b o e => hsb.extBut b o (Nat.ne_of_lt (Heap.lt_size e)) (Heap.get?_push_of_some _ e)
  have I := lm_start (f := f) (c := c) (tk := s.toks + (ps.zip us).length) (E := E) S e0 hr.hd r hl hks hcap hW hns kp
  obtain ⟨te, ht, hq⟩ := hbody (hr.deeper _)
  refine PySem.W.kla_codeExpr (wpAny_mono (ht.run [] _ _ H Q I hq) (fun v s' hq => ?_) fun e s' hq => hq)
  obtain ⟨w', H', J', rv, q⟩ := hq
  exact ⟨w', H', J'.os, J'.bare, J'.base, J'.hok, rv, q⟩
/-- a captured name is read -/
theorem se_cap {m : Md} {E : XK} {X : Cx} {x : Str} {p : Pos} {j : Nat} {c : Addr} (hW : OwnW X.base) (hT : m.T.γ = LL.ct) (hj : LL.gn[j]? = some x ∧ LL.own.lookup x = some c) (hk : X.env.kindOf x = some .free) (hcl : X.env.cells.lookup x = some c)
    (hd : (x == ("__debug__" : Str)) = false) (hcd : (x == ("__classdict__" : Str)) = false) : PE X (.Name x p) (tEv m E X (.cap j)) := by
  refine ⟨fun pins s σ H Q I h => ?_⟩
  obtain ⟨ρ, env, st, hev, S, hf⟩ := h
  simp only [evE, hT] at hf
  cases hct : LL.ct with
  | none => rw [hct] at hf; exact hf.elim
  | some g =>
  rw [hct] at hf
  simp only at hf
  cases hg : g[j]? with
  | none => rw [hg] at hf; exact hf.elim
  | some o =>
    cases o with
    | none => rw [hg] at hf; exact hf.elim
    | some d =>
      rw [hg] at hf
      obtain ⟨u, v, hc, rv, rd⟩ := S.ct g hct j x c d hj hg
      obtain ⟨o, h1, h2⟩ := hW.cb _ _ hc
      obtain ⟨h3, _⟩ := I.bs _ _ h1
      exact wpAny_Name (wpAny_loadName_free I.ok.kind hk hcl (show s.heap.IsCell c (some u) from ⟨o, h3, h2⟩) ⟨v, H, I, rv, hf.now S rd⟩ hcd) hd
end
end VI
/-! VIyf: sorted(set(xs)). -/
namespace VI
open PySem PySem.Spec PyProof.Rows L2
variable [LL]
theorem call_set_listI {P : Program} {w : World} {A : Around} {E : Value → Shared → Prop} {s : Shared} {l : Addr} {items : Array Value} (ns : List Int) {Q : Value → Shared → Prop} (hh : A.handled = none) (hl : s.heap.IsList l items) (hit : IntsAre items.toList ns) (hb : ns.length + 1 < scanBound)
    (h : ∀ (h' : Heap) (tk c : Nat), SetR w h' s.heap.objs.size (fun j => decide (j ∈ ns)) c → c ≤ ns.length → (∀ b o, s.heap.get? b = some o → h'.get? b = some o) → Q (.ref s.heap.objs.size) { heap := h', gens := s.gens, drawn := s.drawn, toks := tk, os := s.os }) :
    wpAny (model P w) A (call (.type "set") [.ref l]) Q E s := by
  have hisz : items.size = ns.length := by have q := hit.length; rwa [Array.length_toList] at q
  obtain ⟨c, tl, hmro⟩ := F.called_set.mro
  have hmade := F.called_set.made
  have hsub := F.called_set.sub
  refine wpAny_call (codeAny_of_tree ?_)
  refine wpAny_pure ⟨Code.quiet_builtin _ (by decide +kernel), codeAny_builtin F.entry_type_call ?_⟩
  rw [Around.under_plain (weight_type_call_type "set" [.ref l] []) rfl]
  have hct := F.typeCall_set_1 (.ref l)
  unfold PySem.Builtin.«type.__call__»
  dsimp only
  refine wpAny_ite_false ?_ ?_
  · rfl
  refine wpAny_ite_false ?_ ?_
  · rfl
  refine wpAny_bind (wpAny_of_eq hct ?_)
  refine wpAny_bind (wpAny_of_eq hmro ?_)
  refine wpAny_ite_false rfl (wpAny_bind (wpAny_of_eq hmade ?_))
  refine wpAny_bind (wpAny_pure ?_)
  refine wpAny_bind (wpAny_holding (wpAny_call (codeAny_mono (code_set_led1 (E := E) (Q₁ := fun obj s₁ => obj = Value.ref s.heap.objs.size ∧ s₁ = { heap := s.heap.push { cls := .type "set", data := .set #[] 0 (SetTable.fresh 0 0 !w.params.followText "set-order") }, gens := s.gens, drawn := s.drawn, toks := s.toks, os := s.os }) (.ref l) ⟨rfl, rfl⟩) fun r s₁ hr => ?_)))
  rcases r with e | fl
  · exact hr
  cases fl with
  | next => exact hr.elim
  | brk => exact hr.elim
  | cont => exact hr.elim
  | ret obj =>
    obtain ⟨rfl, rfl⟩ := hr
    have hS : (s.heap.push { cls := .type "set", data := .set #[] 0 (SetTable.fresh 0 0 !w.params.followText "set-order") }).get? s.heap.objs.size = some _ := Heap.get?_push_size s.heap rfl
    have hT : Shared.TypeIs { heap := s.heap.push { cls := .type "set", data := .set #[] 0 (SetTable.fresh 0 0 !w.params.followText "set-order") }, gens := s.gens, drawn := s.drawn, toks := s.toks, os := s.os } (.ref s.heap.objs.size) "set" := ⟨_, hS, rfl⟩
    have hli := F.called_set.init.lookup
    have hbi := F.called_set.init.bind (.ref s.heap.objs.size)
    refine wpAny_bind (wpAny_isInstance hT hsub ?_)
    refine wpAny_ite_false rfl (wpAny_bind (wpAny_holding ?_))
    refine wpAny_bind (wpAny_specialOf hT hli (wpAny_holding ?_))
    refine wpAny_bind (wpAny_of_eq hbi ?_)
    refine wpAny_bind (wpAny_call (codeAny_mono (codeAny_call_builtin F.called_set.init.plain F.entry_set_init (R := wants (fun r s₂ => r = Value.none ∧ ∃ h' tk c, s₂ = { heap := h', gens := s.gens, drawn := s.drawn, toks := tk, os := s.os } ∧ SetR w h' s.heap.objs.size (fun j => decide (j ∈ ns)) c ∧ c ≤ ns.length ∧ ∀ b o, s.heap.get? b = some o → h'.get? b = some o) E) (check_set_init_1 hT ?_)) fun r₂ s₂ hr₂ => ?_))
    · obtain ⟨ol, hol, hcl, nl, hdl⟩ := hl
      unfold PySem.Builtin.«set.__init__»
      refine wpAny_bind ?_
      unfold PySem.noKeywords
      refine wpAny_ite_true ?_ ?_
      · rfl
      refine wpAny_pure ?_
      dsimp only
      refine wpAny_bind ?_
      unfold PySem.typeNameOfCut PySem.shownTypeOf
      refine wpAny_bind (wpAny_bind (wpAny_typeOf hT ?_))
      refine wpAny_ite_false ?_ ?_
      · rfl
      refine wpAny_pure ?_
      refine wpAny_pure ?_
      refine wpAny_bind ?_
      unfold PySem.checkCount
      refine wpAny_ite_false ?_ ?_
      · rfl
      refine wpAny_ite_false ?_ ?_
      · rfl
      refine wpAny_ite_false ?_ ?_
      · rfl
      refine wpAny_pure ?_
      refine wpAny_bind (wpAny_pure ?_)
      refine wpAny_bind ?_
      unfold PySem.setUsed PySem.setState
      refine wpAny_bind (wpAny_bind (wpAny_load' hS ?_))
      dsimp only
      refine wpAny_ite_false ?_ ?_
      · rfl
      refine wpAny_pure (wpAny_pure ?_)
      refine wpAny_ite_false ?_ ?_
      · rfl
      dsimp only [List.append]
      refine wpAny_bind ?_
      unfold PySem.Builtin.Frozenset.updateFrom PySem.Builtin.Frozenset.isAnySet
      have hol' : (s.heap.push { cls := .type "set", data := .set #[] 0 (SetTable.fresh 0 0 !w.params.followText "set-order") }).get? l = some ol := Heap.get?_push_of_some _ hol
      have htl : Shared.TypeIs { heap := s.heap.push { cls := .type "set", data := .set #[] 0 (SetTable.fresh 0 0 !w.params.followText "set-order") }, gens := s.gens, drawn := s.drawn, toks := s.toks, os := s.os } (.ref l) "list" := ⟨_, hol', hcl⟩
      have hl1 : (s.heap.push { cls := .type "set", data := .set #[] 0 (SetTable.fresh 0 0 !w.params.followText "set-order") }).IsList l items := ⟨ol, hol', hcl, nl, hdl⟩
      refine wpAny_bind (wpAny_bind (wpAny_isInstance htl F.sub_list_set ?_))
      refine wpAny_isInstance htl F.sub_list_frozenset ?_
      refine wpAny_ite_false ?_ ?_
      · rfl
      refine wpAny_bind (wpAny_typeOf htl ?_)
      refine wpAny_ite_false ?_ ?_
      · rfl
      refine wpAny_bind (wpAny_pyIter_list hl1 ?_)
      refine wpAny_bind (wpAny_runValue ?_)
      have hlS : l < s.heap.objs.size := Heap.lt_size hol
      have hz1 : (s.heap.push { cls := .type "set", data := .set #[] 0 (SetTable.fresh 0 0 !w.params.followText "set-order") }).objs.size = s.heap.objs.size + 1 := Heap.size_push _ _
      have hval : ∀ (i : Nat) (v : Value), items[i]? = some v → ∃ k t, ns[i]? = some k ∧ v = Value.int k t := fun i v hv => by
        obtain ⟨k, t, h1, h2⟩ := hit.at i v (by rw [Array.getElem?_toList]; exact hv)
        exact ⟨k, t, h2, h1⟩
      refine set_update_ints (Walks.toS (Walks.list (show A.in1.in1.in1.handled = none from hh) _ l (fun z => ?_) items)) s.heap.objs.size (fun z => ?_) ns hisz hb hval items.size 0 _ (Nat.sub_zero _) (Nat.zero_le _) ⟨⟨_, Heap.get?_push_size _ rfl, rfl, rfl⟩, Heap.IsList.push hl1 _⟩ ⟨0, Nat.le_refl _, setR_new_at (Heap.get?_push_of_some _ hS)⟩ ?_
      · have z : l = (s.heap.push { cls := .type "set", data := .set #[] 0 (SetTable.fresh 0 0 !w.params.followText "set-order") }).objs.size := z
        rw [hz1] at z
        exact Nat.ne_of_lt (Nat.lt_succ_of_lt hlS) z
      · have z : s.heap.objs.size ∈ [(s.heap.push { cls := .type "set", data := .set #[] 0 (SetTable.fresh 0 0 !w.params.followText "set-order") }).objs.size, l] := z
        rw [hz1] at z
        simp only [List.mem_cons, List.not_mem_nil, or_false] at z
        rcases z with z | z
        · exact Nat.ne_of_lt (Nat.lt_succ_self _) z
        · exact Nat.ne_of_gt hlS z
      · rintro ⟨h', g2, d', tk', os'⟩ c2 hm hc2 hS'
        have eg := hm.gens
        have ed := hm.drawn
        have eo := hm.os
        dsimp only at eg ed eo
        subst eg ed eo
        refine wpAny_pure (wpAny_pure ⟨rfl, h', tk', c2, rfl, hS', by omega, fun b o e => ?_⟩)
        have hbl : b < s.heap.objs.size := Heap.lt_size e
        refine hm.heap b o (fun z => ?_) (Heap.get?_push_of_some _ (Heap.get?_push_of_some _ e))
        have z : b ∈ [s.heap.objs.size, (s.heap.push { cls := .type "set", data := .set #[] 0 (SetTable.fresh 0 0 !w.params.followText "set-order") }).objs.size] := z
        rw [hz1] at z
        simp only [List.mem_cons, List.not_mem_nil, or_false] at z
        rcases z with z | z
        · exact Nat.ne_of_lt hbl z
        · exact Nat.ne_of_lt (Nat.lt_succ_of_lt hbl) z
    · rcases r₂ with e | fl₂
      · exact hr₂
      cases fl₂ with
      | next => exact hr₂.elim
      | brk => exact hr₂.elim
      | cont => exact hr₂.elim
      | ret r =>
        obtain ⟨rfl, h', tk, c2, rfl, hS', g', hk'⟩ := hr₂
        refine wpAny_pure ?_
        dsimp only
        refine wpAny_ite_false ?_ ?_
        · rfl
        refine wpAny_pure ?_
        exact h h' tk c2 hS' g' hk'
theorem mem_insU (x : Int) : ∀ (l : List Int) (k : Int), k ∈ insU x l ↔ k = x ∨ k ∈ l
  | [], k => by simp [insU]
  | y :: l, k => by
    unfold insU
    split
    · simp
    · split
      · rename_i h1 h2
        subst h2
        simp
      · rw [List.mem_cons, mem_insU x l k, List.mem_cons]
        constructor
        · rintro (h | h | h)
          · exact .inr (.inl h)
          · exact .inl h
          · exact .inr (.inr h)
        · rintro (h | h | h)
          · exact .inr (.inl h)
          · exact .inl h
          · exact .inr (.inr h)
theorem mem_sortU : ∀ (l : List Int) (k : Int), k ∈ sortU l ↔ k ∈ l
  | [], k => Iff.rfl
  | x :: l, k => by
    show k ∈ insU x (sortU l) ↔ _
    rw [mem_insU, mem_sortU l k, List.mem_cons]
theorem insU_lt (x : Int) : ∀ l : List Int, l.Pairwise (· < ·) → (insU x l).Pairwise (· < ·)
  | [], _ => List.pairwise_singleton _ _
  | y :: l, h => by
    rw [List.pairwise_cons] at h
    unfold insU
    split
    · rename_i hx
      rw [List.pairwise_cons, List.pairwise_cons]
      refine ⟨fun z hz => ?_, h⟩
      rcases List.mem_cons.mp hz with hz | hz
      · rw [hz]; exact hx
      · have := h.1 z hz; omega
    · split
      · rw [List.pairwise_cons]; exact h
      · rename_i h1 h2
        rw [List.pairwise_cons]
        refine ⟨fun z hz => ?_, insU_lt x l h.2⟩
        rcases (mem_insU x l z).mp hz with hz | hz
        · rw [hz]; omega
        · exact h.1 z hz
theorem sortU_lt : ∀ l : List Int, (sortU l).Pairwise (· < ·)
  | [] => List.Pairwise.nil
  | x :: l => insU_lt x _ (sortU_lt l)
theorem sorted_uniq : ∀ {a b : List Int}, a.Pairwise (· < ·) → b.Pairwise (· < ·) → (∀ k, k ∈ a ↔ k ∈ b) → a = b
  | [], [], _, _, _ => rfl
  | [], y :: b, _, _, h => by have := (h y).mpr List.mem_cons_self; cases this
  | x :: a, [], _, _, h => by have := (h x).mp List.mem_cons_self; cases this
  | x :: a, y :: b, h1, h2, h => by
    rw [List.pairwise_cons] at h1 h2
    have e : x = y := by
      have q1 := (h x).mp List.mem_cons_self
      have q2 := (h y).mpr List.mem_cons_self
      rcases List.mem_cons.mp q1 with q1 | q1
      · exact q1
      · rcases List.mem_cons.mp q2 with q2 | q2
        · exact q2.symm
        · have := h2.1 x q1
          have := h1.1 y q2
          omega
    subst e
    rw [sorted_uniq h1.2 h2.2 fun k => ?_]
    constructor
    · intro hk
      rcases List.mem_cons.mp ((h k).mp (List.mem_cons_of_mem _ hk)) with q | q
      · have := h1.1 k hk; omega
      · exact q
    · intro hk
      rcases List.mem_cons.mp ((h k).mpr (List.mem_cons_of_mem _ hk)) with q | q
      · have := h2.1 k hk; omega
      · exact q
section
variable {m : Md} {E : XK} {X : Cx} {e a b c : Expr} {es : Xs} {pos : Pos}
theorem intsD_reps {ρ : List Addr} {H : Hp} : ∀ ns : List Int, Reps X.K ρ H (ns.map D.int) (ns.map V.int)
  | [] => .nil
  | n :: ns => .cons (.int n) (intsD_reps ns)
theorem pe_sortSet {p p2 q : Pos} (hc : X.calm = true) (hg : Gl X "sorted") (hm : X.mg "sorted" = none) (hg2 : Gl X "set") (hm2 : X.mg "set" = none) (he : PA X [e] (tEvX m E X es)) (hs : starEach [e] X.env = [(false, eval e X.env)])
    (hs2 : starEach [.Call (.Name "set" p2) [e] [] q] X.env = [(false, eval (.Call (.Name "set" p2) [e] [] q) X.env)]) :
    PE X (.Call (.Name "sorted" p) [.Call (.Name "set" p2) [e] [] q] [] pos) (tEv m E X (.blt .sortSet es)) := by
  refine ⟨fun pins s σ H Q I h => ?_⟩
  obtain ⟨ρ, env, st, hev, S0, hf⟩ := h
  refine Call_ (ld_blt (u := .builtin "sorted") I hg hm rfl ?_ (by decide) (by decide))
  refine callWith_builtin1 (args_cons (Call_ (ld_blt I hg2 hm2 boot_set (callWith_type1 ?_ hs rfl) (by decide) (by decide))) hs2) hs2 rfl
  refine thn (he.run q pins s σ H (fun vs H1 => ∃ ρ1 st1 ds, Rel m X ρ1 H1 st1 ∧ Reps X.K ρ1 H1 ds vs ∧ Fin m E X ρ1 H1 (sortSetV ds st1) (rD X) Q) I ⟨ρ, env, st, hev, S0, ?_⟩) fun us s1 ⟨vs, H1, I1, rv, ρ1, st1, ds, S1, rs, hf1⟩ => ?_
  · simp only [evE] at hf
    exact hf.bind fun ds st1 ρ1 H1 vs s1 S1 r1 hf1 => ⟨ρ1, st1, ds, S1, r1, hf1⟩
  unfold sortSetV at hf1
  split at hf1
  rotate_left
  · exact hf1.elim
  rename_i n
  obtain ⟨v, rfl, rv2⟩ := reps_one rs
  obtain ⟨u, rfl, ru⟩ := rv.one
  cases rv2 with
  | @ref _ a ha =>
  cases ru
  split at hf1
  rotate_left
  · exact hf1.elim
  rename_i xs g
  split at hf1
  rotate_left
  · exact hf1.elim
  rename_i ns hns
  split at hf1
  rotate_left
  · exact hf1.elim
  rename_i hlt
  obtain ⟨ws, e1, rs1⟩ := S1.lst_at ha g
  have hws := allOpt_ints hns rs1
  subst hws
  obtain ⟨its, rv', p', hz⟩ := I1.list (SqL.of e1)
  have hhd := I1.ok.hd hc
  refine call_set_listI ns hhd p'.isList rv'.ints (Nat.lt_of_lt_of_le (show ns.length + 1 < 65 by omega) (by decide)) fun h' tk c hS hcn hk => ?_
  refine args_nil ?_
  have hn1 : H1 s1.heap.objs.size = none := I1.hok.fresh (Nat.le_refl _)
  have I2 : Inv X pins σ (upd H1 s1.heap.objs.size (SetO X.w s1.heap.objs.size (fun j => decide (j ∈ ns)) c)) { heap := h', gens := s1.gens, drawn := s1.drawn, toks := tk, os := s1.os } := I1.laid hk (Nat.le_refl _) (setO_new hS)
  obtain ⟨S2, stp⟩ := SRel.other (o := SetO X.w s1.heap.objs.size (fun j => decide (j ∈ ns)) c) S1 hn1
  refine cr_sortedSet hc pins _ σ _ [V.ref s1.heap.objs.size] _ Q I2 (.cons rfl .nil) ⟨s1.heap.objs.size, _, c, rfl, upd_same, by omega, fun ns' p3 k1 k2 k3 hp => ?_⟩
  have hu : ns' = sortU ns := sorted_uniq k1 (sortU_lt ns) fun k => by
    rw [k2, mem_sortU]
    exact decide_eq_true_iff
  subst hu
  exact (hf1.step stp).lst S2 (intsD_reps _) hp
end
end VI
/-! VIlc: are two expressions the same? -/
namespace VI
open PySem PySem.Spec
mutual
def eqE : Nat → Expr → Expr → Bool
  | 0, _, _ => false
  | n + 1, .Name a p, .Name b q => decide (a = b) && decide (p = q)
  | n + 1, .Constant a i p, .Constant b j q => decide (a = b) && (decide (i = j) && decide (p = q))
  | n + 1, .Attribute e a p, .Attribute f b q => eqE n e f && (decide (a = b) && decide (p = q))
  | n + 1, .Subscript e a p, .Subscript f b q => eqE n e f && (eqE n a b && decide (p = q))
  | n + 1, .Call e as ks p, .Call f bs ls q => eqE n e f && (eqEs n as bs && (eqKs n ks ls && decide (p = q)))
  | n + 1, .List as p, .List bs q => eqEs n as bs && decide (p = q)
  | n + 1, .Tuple as i p, .Tuple bs j q => eqEs n as bs && (decide (i = j) && decide (p = q))
  | n + 1, .Dict [] [] p, .Dict [] [] q => decide (p = q)
  | _, _, _ => false
def eqEs : Nat → List Expr → List Expr → Bool
  | 0, _, _ => false
  | n + 1, [], [] => true
  | n + 1, a :: r, b :: t => eqE n a b && eqEs n r t
  | _, _, _ => false
def eqKs : Nat → List Keyword → List Keyword → Bool
  | 0, _, _ => false
  | n + 1, [], [] => true
  | n + 1, ⟨a, e, p⟩ :: r, ⟨b, f, q⟩ :: t => decide (a = b) && (eqE n e f && (decide (p = q) && eqKs n r t))
  | _, _, _ => false
end
theorem eq_ok : ∀ n, (∀ e f, eqE n e f = true → e = f) ∧ (∀ as bs, eqEs n as bs = true → as = bs) ∧ ∀ ks ls, eqKs n ks ls = true → ks = ls
  | 0 => ⟨fun _ _ h => by simp [eqE] at h, fun _ _ h => by simp [eqEs] at h, fun _ _ h => by simp [eqKs] at h⟩
  | n + 1 => by
    obtain ⟨h1, h2, h3⟩ := eq_ok n
    refine ⟨fun e f h => ?_, fun as bs h => ?_, fun ks ls h => ?_⟩
    · cases e <;> cases f <;> (try (simp [eqE] at h; done))
      case Constant.Constant => simp only [eqE, Bool.and_eq_true, decide_eq_true_eq] at h; obtain ⟨rfl, rfl, rfl⟩ := h; rfl
      case Name.Name => simp only [eqE, Bool.and_eq_true, decide_eq_true_eq] at h; obtain ⟨rfl, rfl⟩ := h; rfl
      case Attribute.Attribute => simp only [eqE, Bool.and_eq_true, decide_eq_true_eq] at h; obtain ⟨a, rfl, rfl⟩ := h; rw [h1 _ _ a]
      case Subscript.Subscript => simp only [eqE, Bool.and_eq_true, decide_eq_true_eq] at h; obtain ⟨a, b, rfl⟩ := h; rw [h1 _ _ a, h1 _ _ b]
      case Call.Call => simp only [eqE, Bool.and_eq_true, decide_eq_true_eq] at h; obtain ⟨a, b, c, rfl⟩ := h; rw [h1 _ _ a, h2 _ _ b, h3 _ _ c]
      case List.List => simp only [eqE, Bool.and_eq_true, decide_eq_true_eq] at h; obtain ⟨a, rfl⟩ := h; rw [h2 _ _ a]
      case Tuple.Tuple => simp only [eqE, Bool.and_eq_true, decide_eq_true_eq] at h; obtain ⟨a, rfl, rfl⟩ := h; rw [h2 _ _ a]
      case Dict.Dict k1 v1 p1 k2 v2 p2 =>
        cases k1 <;> cases v1 <;> cases k2 <;> cases v2 <;> first | (simp [eqE] at h; done) | (simp only [eqE, decide_eq_true_eq] at h; rw [h])
    · cases as <;> cases bs <;> first | rfl | (simp [eqEs] at h; done) | (simp only [eqEs, Bool.and_eq_true] at h; rw [h1 _ _ h.1, h2 _ _ h.2])
    · cases ks <;> cases ls <;> first | rfl | (simp [eqKs] at h; done) | skip
      rename_i x r y t
      obtain ⟨a, e, p⟩ := x
      obtain ⟨b, f, q⟩ := y
      simp only [eqKs, Bool.and_eq_true, decide_eq_true_eq] at h
      obtain ⟨rfl, a, rfl, b⟩ := h
      rw [h1 _ _ a, h3 _ _ b]
/-- plain parameters, as many as names are given -/
def parsB : List Arg → List Str → Bool
  | [], [] => true
  | ⟨a, none, _⟩ :: r, x :: t => decide (a = x) && parsB r t
  | _, _ => false
/-- a lambda's parameters are the same -/
def eqArg : List Arg → List Arg → Bool
  | [], [] => true
  | ⟨a, none, p⟩ :: r, ⟨b, none, q⟩ :: t => decide (a = b) && (decide (p = q) && eqArg r t)
  | _, _ => false
theorem eqArg_ok : ∀ as bs, eqArg as bs = true → as = bs
  | [], [], _ => rfl
  | ⟨a, none, p⟩ :: r, ⟨b, none, q⟩ :: t, h => by
    simp only [eqArg, Bool.and_eq_true, decide_eq_true_eq] at h
    obtain ⟨rfl, rfl, c⟩ := h
    rw [eqArg_ok _ _ c]
  | [], _ :: _, h => by simp [eqArg] at h
  | ⟨_, none, _⟩ :: _, [], h => by simp [eqArg] at h
  | ⟨_, some _, _⟩ :: _, _, h => by simp [eqArg] at h
  | ⟨_, none, _⟩ :: _, ⟨_, some _, _⟩ :: _, h => by simp [eqArg] at h
def eqArgs : Arguments → Arguments → Bool
  | ⟨[], as, none, [], [], none, []⟩, ⟨[], bs, none, [], [], none, []⟩ => eqArg as bs
  | _, _ => false
theorem eqArgs_ok {a b : Arguments} (h : eqArgs a b = true) : a = b ∧ ∃ as, a = ⟨[], as, none, [], [], none, []⟩ := by
  unfold eqArgs at h
  split at h
  · rw [eqArg_ok _ _ h]; exact ⟨rfl, _, rfl⟩
  · cases h
end VI
/-! VIlw: lambdas that stand in a variable are called; what isinstance says of errors. -/
namespace VI
open PySem PySem.Spec PyProof.Rows L2
/-- what is known of the errors' classes -/
structure XkOk (m : Md) (X : Cx) (hit : Nat → Nat → Bool) : Prop where
  ins : X.mg "isinstance" = none
  ve : X.mg "ValueError" = none
  kx : ∀ (k : Nat) (C : Addr), m.xA[k]? = some C → ExcC X.K C ∧ PySem.W.kitOne X.K (.ref C) (.type "ValueError") = some true ∧ ∀ (k' : Nat) (C' : Addr), m.xA[k']? = some C' → PySem.W.kitOne X.K (.ref C) (.ref C') = some (hit k k')
variable [LL]
/-- every lambda keeps its promise -/
def LmOk (m : Md) (P : Program) (w : World) (K : PySem.W.Frag) (mg : Str → Option Value) (base : Heap) (n : Nat) : Prop :=
  ∀ (k : Nat) (f : Addr) (A : Around) (outer : List PySem.Env) (s : Shared) (H : Hp) (E : XK) (us : List Value) (vs : List V) (Q : VK) (ρ : List Addr), Room n A → Env0 P w K mg base A outer s H → Rep K ρ H (.fn k) (.ref f) → Vals vs us →
    (∃ ρ st ds, SRel m.nm P w K ρ H st ∧ Reps K ρ H ds vs ∧ FinK m E P w K ρ H (m.call k ds st) (fun ρ H d v => Rep K ρ H d v) Q) → codeAny (model P w) A (.call (.ref f) ⟨us, []⟩) (CR (L2.CX P w) outer P w H s Q E) s
/-- x(e, ..) -/
def tCallV (m : Md) (X : Cx) (i : Nat) (E : L2.St → XK) (t : TA) : TE := fun σ H Q => ∃ f k ρ, σ[i]? = some (some (.ref f)) ∧ Rep X.K ρ H (.fn k) (.ref f) ∧ t σ H fun vs H1 => (∃ ρ1, Rep X.K ρ1 H1 (.fn k) (.ref f)) ∧
  ∃ ρ st ds, SRel m.nm X.prog X.w X.K ρ H1 st ∧ Reps X.K ρ H1 ds vs ∧ FinK m (E σ) X.prog X.w X.K ρ H1 (m.call k ds st) (fun ρ H d v => Rep X.K ρ H d v) Q
section
variable {m : Md} {E : L2.St → XK} {X : Cx} {t : TA} {e : Expr} {es : List Expr} {p pos : Pos} {x : Str} {i n : Nat}
theorem lm_at (her : LL.er = none) {pins : List (Addr × Obj)} {s : Shared} {σ : L2.St} {H : Hp} {ρ : List Addr} {k : Nat} {f : Addr} (I : Inv X pins σ H s) (r : Rep X.K ρ H (.fn k) (.ref f)) : PySem.W.FnAt f s.heap := by
  cases r with
  | err h => rw [her] at h; cases h
  | fn a b c d e g y =>
    obtain ⟨⟨pm, ctv, hget⟩, _, _⟩ := I.hok f _ b
    exact ⟨_, _, _, _, hget⟩
theorem pe_callV (her : LL.er = none) (Lm : LmOk m X.prog X.w X.K X.mg X.base n) (hr : Room n X.A) (hx : ∀ σ, PassesAt (L2.CX X.prog X.w) X σ (E σ)) (hN : X.N[i]? = some x) (hv : Vis X.env.scope x) (hd : (x == ("__debug__" : Str)) = false) (hcd : (x == ("__classdict__" : Str)) = false) (ha : PA X (e :: es) t)
    (he : starEach (e :: es) X.env = (false, eval e X.env) :: starEach es X.env) (hpl : (backTo pos (starEach es X.env)).any (·.1) = false) : PE X (.Call (.Name x p) (e :: es) [] pos) (tCallV m X i E t) := by
  refine ⟨fun pins s σ H Q I h => ?_⟩
  obtain ⟨f, k, ρ, hs, hf, ht⟩ := h
  refine wpAny_Call_Name_kw (thn ((pe_var (pos := p) hN hv hd hcd).run pins s σ H (fun v H1 => v = .ref f ∧ H1 = H) I ⟨.ref f, hs, rfl, rfl⟩) fun u s1 ⟨v, H1, I1, r1, q1⟩ => ?_)
  obtain ⟨ev, eH⟩ := q1
  subst ev
  rw [eH] at I1
  obtain rfl : u = Value.ref f := r1
  refine PySem.W.callWith_F (first := []) (lm_at her I1 hf) (thn (ha.run pos pins s1 σ H _ I1 ht) fun us s2 ⟨vs, H2, I2, r, ⟨ρ1, h1⟩, q⟩ => ⟨lm_at her I2 h1, ?_⟩) he hpl
  show wpAny _ _ (call (.ref f) us) _ _ _
  refine wpAny_call (codeAny_mono (Lm k f X.A X.stack s2 H2 (E σ) us vs Q ρ1 hr I2.env0 h1 r q) fun r s' hq => ?_)
  cases r with
  | error e => exact hx σ pins H2 s2 e s' I2 hq
  | ok fl =>
    cases fl with
    | ret u => exact I2.after hq
    | next => exact False.elim hq
    | brk => exact False.elim hq
    | cont => exact False.elim hq
end
end VI
/-! VIcg: captured names: from one knowledge of lambdas to another; calls out of a def whose names are captured, and of such a def. -/
namespace VI
open PySem PySem.Spec PyProof.Rows L2
/-- the addresses of a heap that are not chosen -/
def outS (h : Heap) (p : Addr → Bool) : List Addr := (List.range h.objs.size).filter fun b => p b == false
theorem outS_mem {h : Heap} {p : Addr → Bool} {b : Addr} : b ∈ outS h p ↔ b < h.objs.size ∧ p b = false := by simp [outS]
/-- a heap of the chosen addresses, as large as it was -/
theorem restrictS (h : Heap) (p : Addr → Bool) : ∃ G : Heap, G.objs.size = h.objs.size ∧ (∀ b, p b = true → G.get? b = h.get? b) ∧ ∀ b, p b = false → G.get? b = none := by
  refine ⟨PySem.W.hideAll h (outS h p), PySem.W.hideAll_size _ _, fun b hb => Option.ext fun o => ⟨PySem.W.of_hideAll _, fun e => PySem.W.hideAll_get _ e fun hm => ?_⟩, fun b hb => Option.eq_none_iff_forall_ne_some.mpr fun o e => ?_⟩
  · exact absurd (outS_mem.mp hm).2 (by rw [hb]; decide)
  · have h1 := PySem.W.hideAll_none (h := h) (outS h p) (outS_mem.mpr ⟨Heap.lt_size (PySem.W.of_hideAll _ e), hb⟩)
    rw [e] at h1
    cases h1
/-- what one instance knows, the other one knows -/
structure Sub (A B : LL) : Prop where
  ls : A.ls = B.ls
  er : A.er = B.er
  own : ∀ x c, A.own.lookup x = some c → B.own.lookup x = some c
section
variable {K : PySem.W.Frag} {ρ ρ' : List Addr} {H : Hp} {nm : Nm} {P : Program} {w : World} {st : Store}
mutual
theorem Rep.sub (A B : LL) (h : Sub A B) : ∀ (d : D) (v : V), @Rep A K ρ H d v → @Rep B K ρ H d v
  | .non, _, r => by cases r; exact @Rep.non B K ρ H
  | .bl b, _, r => by cases r; exact @Rep.bl B K ρ H b
  | .int i, _, r => by cases r; exact @Rep.int B K ρ H i
  | .str x, _, r => by cases r; exact @Rep.str B K ρ H x
  | .tup xs, _, r => by
    cases r with
    | tup q r => exact @Rep.tup B K ρ H _ _ _ q (Reps.sub A B h xs _ r)
  | .ref n, _, r => by
    cases r with
    | ref q => exact @Rep.ref B K ρ H _ _ q
  | .fn k, _, r => by
    cases r with
    | fn a b c d e g y => exact @Rep.fn B K ρ H _ _ _ _ _ (by rw [← h.ls]; exact a) b c d e (fun p hp => let ⟨c, h1, h2⟩ := g p hp; ⟨c, h1, h.own _ _ h2⟩) y
    | err z => exact @Rep.err B K ρ H _ _ (by rw [← h.er]; exact z)
theorem Reps.sub (A B : LL) (h : Sub A B) : ∀ (d : List D) (v : List V), @Reps A K ρ H d v → @Reps B K ρ H d v
  | [], _, r => by cases r; exact @Reps.nil B K ρ H
  | x :: xs, _, r => by
    cases r with
    | cons a b => exact @Reps.cons B K ρ H _ _ _ _ (Rep.sub A B h x _ a) (Reps.sub A B h xs _ b)
end
/-- all data of an object -/
def obAll (g : D → Bool) (gs : List D → Bool) : Ob → Prop
  | .lst xs => gs xs = true
  | .flst _ => True
  | .dct _ kvs => ∀ p ∈ kvs, g p.1 = true ∧ g p.2 = true
  | .ins _ fs => ∀ p ∈ fs, g p.2 = true
  | .tab _ => True
/-- what holds of all data holds of an object -/
theorem ORep.conv (A B : LL) {g : D → Bool} {gs : List D → Bool} (hD : ∀ d v, g d = true → @Rep A K ρ' H d v → @Rep B K ρ H d v) (hDs : ∀ d v, gs d = true → @Reps A K ρ' H d v → @Reps B K ρ H d v) (hint : ∀ ns : List Int, gs (ns.map .int) = true) (hin : ∀ a, a ∈ ρ → a ∈ ρ')
    {o : Ob} (hc : obAll g gs o) {a : Addr} (r : @ORep A nm P w K ρ' H o a) : @ORep B nm P w K ρ H o a := by
  cases o with
  | lst xs => obtain ⟨vs, q, r⟩ := r; exact ⟨vs, q, hDs _ _ hc r⟩
  | flst xs =>
    obtain ⟨vs, q, r, ns, e⟩ := r
    exact ⟨vs, q, hDs _ _ (by rw [e]; exact hint ns) r, ns, e⟩
  | tab i =>
    obtain ⟨q, ps, a1, a2, a3, a4⟩ := r
    refine ⟨q, ps, a1, a2, a3, fun pos cv hc => ?_⟩
    obtain ⟨c, h1, h2, h3⟩ := a4 pos cv hc
    exact ⟨c, h1, h2, fun z => h3 (hin _ z)⟩
  | dct lk kvs =>
    obtain ⟨z, y, r⟩ := r
    refine ⟨z, y, ?_⟩
    have hall : ∀ p ∈ kvs, g p.1 = true ∧ g p.2 = true := hc
    rcases r with ⟨kv, q, r⟩ | ⟨ne, xs, q, r, nn⟩
    · refine .inl ⟨kv, q, ?_⟩
      clear z y q hc
      revert hall
      unfold LPairs at r ⊢
      induction r with
      | nil => exact fun _ => .nil
      | cons a b ih => exact fun hall => .cons ⟨a.1, hD _ _ (hall _ List.mem_cons_self).2 a.2⟩ (ih fun p hp => hall p (List.mem_cons_of_mem _ hp))
    · refine .inr ⟨ne, xs, q, ?_, nn⟩
      clear z y q hc ne nn
      revert hall
      unfold TPairs at r ⊢
      induction r with
      | nil => exact fun _ => .nil
      | cons a b ih => exact fun hall => .cons ⟨a.1, a.2.1, hD _ _ (hall _ List.mem_cons_self).1 a.2.2.1, let ⟨v, h1, h2⟩ := a.2.2.2; ⟨v, h1, hD _ _ (hall _ List.mem_cons_self).2 h2⟩⟩ (ih fun p hp => hall p (List.mem_cons_of_mem _ hp))
  | ins c fs =>
    obtain ⟨C, dx, fv, c1, q, r⟩ := r
    have hall : ∀ p ∈ fs, g p.2 = true := hc
    refine ⟨C, dx, fv, c1, q, ?_⟩
    clear q hc
    revert hall
    unfold FRep at r ⊢
    induction r with
    | nil => exact fun _ => .nil
    | cons a b ih => exact fun hall => .cons ⟨a.1, a.2.1, hD _ _ (hall _ List.mem_cons_self) a.2.2⟩ (ih fun p hp => hall p (List.mem_cons_of_mem _ hp))
theorem SRel.sub (A B : LL) (h : Sub A B) (S : @SRel A nm P w K ρ H st) (hct : @CtOk B K ρ H) : @SRel B nm P w K ρ H st :=
  @SRel.mk B nm P w K ρ H st (@SRel.nd A nm P w K ρ H st S) (@SRel.sz A nm P w K ρ H st S) (fun n a ha => by
    obtain ⟨o, g, r⟩ := @SRel.ob A nm P w K ρ H st S n a ha
    refine ⟨o, g, ORep.conv A B (g := fun _ => true) (gs := fun _ => true) (fun d v _ => Rep.sub A B h d v) (fun d v _ => Reps.sub A B h d v) (fun _ => rfl) (fun _ z => z) ?_ r⟩
    cases o with
    | lst xs => rfl
    | flst xs => exact True.intro
    | dct lk kvs => exact fun _ _ => ⟨rfl, rfl⟩
    | ins c fs => exact fun _ _ => rfl
    | tab i => exact True.intro) hct
theorem CtOk.none {B : LL} (h : B.ct = none) : @CtOk B K ρ H := fun g hg => by rw [h] at hg; cases hg
mutual
theorem Rep.cut (A B : LL) (hx : ∀ (n : Nat) (a : Addr), n < ρ.length → ρ'[n]? = some a → ρ[n]? = some a) : ∀ (d : D) (v : V), cleanD ρ.length d = true → @Rep A K ρ' H d v → @Rep B K ρ H d v
  | .non, _, _, r => by cases r; exact @Rep.non B K ρ H
  | .bl b, _, _, r => by cases r; exact @Rep.bl B K ρ H b
  | .int i, _, _, r => by cases r; exact @Rep.int B K ρ H i
  | .str x, _, _, r => by cases r; exact @Rep.str B K ρ H x
  | .tup xs, _, h, r => by
    cases r with
    | tup q r => exact @Rep.tup B K ρ H _ _ _ q (Reps.cut A B hx xs _ h r)
  | .ref n, _, h, r => by
    cases r with
    | ref q => exact @Rep.ref B K ρ H _ _ (hx _ _ (of_decide_eq_true h) q)
  | .fn k, _, h, _ => nomatch h
theorem Reps.cut (A B : LL) (hx : ∀ (n : Nat) (a : Addr), n < ρ.length → ρ'[n]? = some a → ρ[n]? = some a) : ∀ (d : List D) (v : List V), cleanDs ρ.length d = true → @Reps A K ρ' H d v → @Reps B K ρ H d v
  | [], _, _, r => by cases r; exact @Reps.nil B K ρ H
  | x :: xs, _, h, r => by
    have h := Bool.and_eq_true_iff.mp h
    cases r with
    | cons a b => exact @Reps.cons B K ρ H _ _ _ _ (Rep.cut A B hx x _ h.1 a) (Reps.cut A B hx xs _ h.2 b)
end
theorem clean_ints (n : Nat) : ∀ ns : List Int, cleanDs n (ns.map .int) = true
  | [] => rfl
  | i :: r => by simpa [cleanDs, cleanD] using clean_ints n r
theorem Store.get_cut {s : Store} {n i : Nat} (h : i < n) (hn : n ≤ s.sz) : (s.cut n).get i = s.get i := by
  unfold Store.get Store.cut
  rw [if_pos h, if_pos (by omega)]
/-- what was made in between is gone -/
theorem SRel.cut (A B : LL) (hB : B.ct = none) {H0 : Hp} {st0 : Store} (S0 : @SRel B nm P w K ρ H0 st0) (s : Step ρ H0 ρ' H) (S : @SRel A nm P w K ρ' H st) (hc : cleanS ρ.length st = true) (hn : ρ.length ≤ st.sz) : @SRel B nm P w K ρ H (st.cut ρ.length) ∧ Step ρ H0 ρ H := by
  have hx : ∀ (n : Nat) (a : Addr), n < ρ.length → ρ'[n]? = some a → ρ[n]? = some a := fun n a hn h => by
    have h1 := s.ext n _ (List.getElem?_eq_getElem hn)
    rw [h] at h1
    rw [List.getElem?_eq_getElem hn, h1]
  have hin : ∀ a, a ∈ ρ → a ∈ ρ' := fun a h => by
    obtain ⟨i, hi⟩ := List.getElem?_of_mem h
    exact List.mem_of_getElem? (s.ext i a hi)
  refine ⟨@SRel.mk B nm P w K ρ H _ (@SRel.nd B nm P w K ρ H0 st0 S0) rfl (fun n a ha => ?_) (CtOk.none hB), fun _ _ h => h, fun a o h hn => ⟨(s.keep a o h hn).1, hn⟩, s.frz⟩
  have hlt := (List.getElem?_eq_some_iff.mp ha).1
  obtain ⟨o, g, r⟩ := @SRel.ob A nm P w K ρ' H st S n a (s.ext n a ha)
  refine ⟨o, by rw [Store.get_cut hlt hn]; exact g, ORep.conv A B (g := cleanD ρ.length) (gs := cleanDs ρ.length) (Rep.cut A B hx) (Reps.cut A B hx) (clean_ints _) hin ?_ r⟩
  have h := List.all_eq_true.mp hc n (List.mem_range.mpr hlt)
  rw [g] at h
  cases o with
  | lst xs => exact h
  | flst xs => exact True.intro
  | dct lk kvs =>
    intro p hp
    have := List.all_eq_true.mp h p hp
    simpa [Bool.and_eq_true] using this
  | ins c fs => exact fun p hp => List.all_eq_true.mp h p hp
  | tab i => exact True.intro
end
variable [LL]
/-- what a def promises whose names are captured -/
def spM (m : Md) (P : Program) (w : World) (K : PySem.W.Frag) (i np : Nat) : Sp := fun vs H Q E => vs.length = np ∧ m.T.inn = false ∧ ∃ ρ st ds, SRel m.nm P w K ρ H st ∧ Reps K ρ H ds vs ∧ FinK m E P w K ρ H (leave st.sz (m.call (i + 2 * m.T.fns.length) (.non :: ds) st)) (fun ρ H d v => Rep K ρ H d v) Q
section
variable {m : Md} {E : XK} {X : Cx} {pos : Pos}
theorem se_callM {k i : Nat} {g : Addr} {fd : FuncData} {ps : List Str} {w : Str} {es : List Expr} {ys : Xs} {p : Pos} {e : Expr} (F : FnOk X.prog X.w X.K X.mg X.base (L2.CX X.prog X.w) k g fd ps (spM m X.prog X.w X.K i ps.length)) (hr : Room k X.A) (hg : Gl X w) (hm : X.mg w = some (.ref g)) (hk : PySem.W.keepIn X.K (.ref g) = true)
    (hb : Binds X.K fd ps []) (hx : Passes (L2.CX X.prog X.w) X E) {n : Nat} (hl : ys.plain = some n) (hps : ps.length = n) (ha : PA X (e :: es) (tEvX m E X ys)) (hdb : (w == ("__debug__" : Str)) = false)
    (he : starEach (e :: es) X.env = (false, eval e X.env) :: starEach es X.env) (hpl : (backTo pos (starEach es X.env)).any (·.1) = false) : PE X (.Call (.Name w p) (e :: es) [] pos) (tEv m E X (.callM i ys)) :=
  imE (pe_call F hr hg hm hk hb .nil hx ha hdb he hpl) fun σ H Q ⟨ρ, env, st, hen, S, hf⟩ => by
    simp only [evE] at hf
    cases hr' : evX m.T m.F m.call ys env st with
    | ok ds st1 =>
      refine ⟨ρ, env, st, hen, S, ?_⟩
      rw [hr'] at hf ⊢
      intro ρ1 H1 vs s1 S1 r1
      have hf : Fin m E X ρ H (if m.T.inn = true then .stuck else leave st1.sz (m.call (i + 2 * m.T.fns.length) (.non :: ds) st1)) (rD X) Q := hf
      split at hf
      · exact hf.elim
      rename_i hin
      rw [List.append_nil]
      exact ⟨by rw [← r1.length, evX_len _ _ _ _ _ hl hr', hps], by simpa using hin, ρ1, st1, ds, S1, r1, (Fin.step hf s1).k⟩
    | exc c x' s' => rw [hr'] at hf; exact ⟨ρ, env, st, hen, S, by rw [hr']; exact hf⟩
    | stuck => rw [hr'] at hf; exact hf.elim
theorem se_callM0 {k i : Nat} {g : Addr} {fd : FuncData} {ps : List Str} {w : Str} {p : Pos} (F : FnOk X.prog X.w X.K X.mg X.base (L2.CX X.prog X.w) k g fd ps (spM m X.prog X.w X.K i ps.length)) (hr : Room k X.A) (hg : Gl X w) (hm : X.mg w = some (.ref g)) (hk : PySem.W.keepIn X.K (.ref g) = true)
    (hb : Binds X.K fd ps []) (hx : Passes (L2.CX X.prog X.w) X E) (hps : ps.length = 0) (hdb : (w == ("__debug__" : Str)) = false) : PE X (.Call (.Name w p) [] [] pos) (tEv m E X (.callM i .nil)) :=
  imE (pe_call0 F hr hg hm hk hb .nil hx hdb) fun σ H Q ⟨ρ, env, st, hen, S, hf⟩ => by
    simp only [evE, evX] at hf
    have hf : Fin m E X ρ H (if m.T.inn = true then .stuck else leave st.sz (m.call (i + 2 * m.T.fns.length) (.non :: []) st)) (rD X) Q := hf
    split at hf
    · exact hf.elim
    rename_i hin
    exact ⟨hps.symm, by simpa using hin, ρ, st, [], S, .nil, hf.k⟩
/-- what is known of a def whose names are captured, where it runs -/
structure MkOk (X : Cx) (names : List Str) : Prop where
  at_ : ∀ x ∈ names, ∃ c, LL.own.lookup x = some c ∧ X.env.cells.lookup x = some c
  only : ∀ x c, (x, c) ∈ LL.own → X.env.cells.lookup x = some c ∧ X.env.kindOf x = some .cell ∧ X.fn x = true
  ct : LL.ct = none
/-- the lambdas, with what the captured names hold -/
abbrev LL2 (base : Heap) (γ : List (Option D)) : LL := ⟨LL.ls, base, LL.own, some γ, LL.gn, LL.er⟩
def CallG (m : Md) (X : Cx) (i np : Nat) (w : Str) : Prop := ∃ (g : Addr) (fd : FuncData) (ps : List Str) (k : Nat), X.mg w = some (.ref g) ∧ PySem.W.keepIn X.K (.ref g) = true ∧ Binds X.K fd ps [] ∧ ps.length = np ∧ Room k X.A ∧
  ∀ γ : List (Option D), ∃ m2 : Md, m2.nm = m.nm ∧ m2.xA = m.xA ∧ (∀ g ds st, decG g = some γ → m.call (i + 2 * m.T.fns.length) (g :: ds) st = m2.call i ds st) ∧
    ∀ base : Heap, (∀ b o, X.base.get? b = some o → base.get? b = some o) → @OwnW (LL2 base γ) base → FnOk X.prog X.w X.K X.mg base (L2.CX X.prog X.w) k g fd ps (@spI (LL2 base γ) m2 X.prog X.w X.K m2.call i np)
theorem dec_enc (cs : List Nat) (env : Env) : decG (encG cs env) = some (cs.map fun i => (env[i]?).join) := by
  unfold encG decG
  simp only [List.map_map, Option.some.injEq]
  refine List.map_congr_left fun i _ => ?_
  simp only [Function.comp]
  cases h : env[i]? with
  | none => rfl
  | some o => cases o <;> rfl
/-- f(e, ..) from a def whose names are captured -/
theorem se_callG {i np n : Nat} {names : List Str} {cs : List Nat} {w : Str} {es : List Expr} {ys : Xs} {p : Pos} {e : Expr} (C : CallG m X i np w) (M : MkOk X names) (hcs : ∀ (j i' : Nat), cs[j]? = some i' → (∃ x, LL.gn[j]? = some x ∧ X.N[i']? = some x) ∨ X.N.length ≤ i') (hg : Gl X w)
    (hx : Passes (L2.CX X.prog X.w) X E) (hl : ys.plain = some n) (hps : np = n) (ha : PA X (e :: es) (tEvX m E X ys)) (hdb : (w == ("__debug__" : Str)) = false)
    (he : starEach (e :: es) X.env = (false, eval e X.env) :: starEach es X.env) (hpl : (backTo pos (starEach es X.env)).any (·.1) = false) : PE X (.Call (.Name w p) (e :: es) [] pos) (tEv m E X (.callG i ys cs)) := by
  refine ⟨fun pins s σ H Q I h => ?_⟩
  obtain ⟨g, fd, ps, k, hm, hk, hb, hpl', hr, hF⟩ := C
  obtain ⟨ρ, env, st, hen, S, hf⟩ := h
  simp only [evE] at hf
  refine wpAny_Call_Name_kw (ld_glob I hg hm ?_ hdb)
  cases hr' : evX m.T m.F m.call ys env st with
  | stuck => rw [hr'] at hf; exact hf.elim
  | exc c x' s' =>
    refine PySem.W.callWith_K (h₀ := X.base) I.ok.mod.kin hk (thn (ha.run pos pins s σ H (fun _ _ => False) I ⟨ρ, env, st, hen, S, by rw [hr'] at hf ⊢; exact hf⟩) fun us s1 ⟨vs, H1, I1, r, q⟩ => q.elim) he hpl
  | ok ds st1 =>
    rw [hr'] at hf
    refine PySem.W.callWith_K (h₀ := X.base) I.ok.mod.kin hk (thn (ha.run pos pins s σ H (fun vs H1 => ∃ ρ1, Step ρ H ρ1 H1 ∧ Rel m X ρ1 H1 st1 ∧ Reps X.K ρ1 H1 ds vs) I ⟨ρ, env, st, hen, S, by rw [hr']; exact fun ρ1 H1 vs s1 S1 r1 => ⟨ρ1, s1, S1, r1⟩⟩) fun us s1 ⟨vs, H1, I1, r, ρ1, stp, S1, r1⟩ => ⟨I1.kIn, ?_⟩) he hpl
    have hf : Fin m E X ρ H (if m.T.inn && m.T.γ.isNone then m.call (i + 2 * m.T.fns.length) (encG cs env :: ds) st1 else .stuck) (rD X) Q := hf
    split at hf
    rotate_left
    · exact hf.elim
    have hen1 := hen.mono S stp
    have hf1 := Fin.step hf stp
    -- the base, with the cells
    obtain ⟨B, b0, b1, b2⟩ := restrictS s1.heap fun b => (X.base.get? b).isSome || decide (b ∈ LL.own.map (·.2))
    have kp : ∀ b o, X.base.get? b = some o → B.get? b = some o := fun b o e => by
      rw [b1 b (by rw [e]; rfl)]
      exact I1.bk b o e
    have ownc := M.only
    have cellB : ∀ x c v, (x, c) ∈ LL.own → s1.heap.IsCell c v → B.IsCell c v := fun x c v hm ⟨o, h1, h2⟩ => ⟨o, by rw [b1 c (by simp only [Bool.or_eq_true, decide_eq_true_eq]; exact .inr (List.mem_map.mpr ⟨_, hm, rfl⟩))]; exact h1, h2⟩
    have W : @OwnW (LL2 B (cs.map fun i => (env[i]?).join)) B := by
      refine @OwnW.mk (LL2 B _) B (fun x c h => ?_) (fun x y c h1 h2 => ?_) (fun c v h => h)
      · have hm := PySem.mem_of_lookup h
        obtain ⟨v, hv⟩ := I1.cell x c (ownc x c hm).1
        exact ⟨v, cellB x c v hm hv⟩
      · exact I1.ok.inj x y c (ownc x c (PySem.mem_of_lookup h1)).1 (ownc y c (PySem.mem_of_lookup h2)).1
    have hbs : ∀ b o, B.get? b = some o → s1.heap.get? b = some o ∧ H1 b = none := fun b o e => by
      cases hq : (X.base.get? b).isSome || decide (b ∈ LL.own.map (·.2)) with
      | false => rw [b2 b hq] at e; cases e
      | true =>
        rw [b1 b hq] at e
        refine ⟨e, ?_⟩
        rcases Bool.or_eq_true_iff.mp hq with z | z
        · obtain ⟨o', e'⟩ := Option.isSome_iff_exists.mp z
          exact (I1.bs b o' e').2
        · obtain ⟨q, hq1, rfl⟩ := List.mem_map.mp (of_decide_eq_true z)
          exact I1.freeC q.1 q.2 (ownc _ _ hq1).1
    have E0 := I1.env0
    have E1 : Env0 X.prog X.w X.K X.mg B X.A X.stack s1 H1 := by
      refine ⟨E0.frames, ⟨E0.mod.kin.keeps kp, E0.mod.glob.keeps kp, ?_, E0.mod.nolimit.keeps kp⟩, hbs, by rw [b0]; exact Nat.le_refl _, ?_, E0.frf, E0.hok, E0.bare⟩
      · obtain ⟨mb, h1, h2⟩ := E0.mod.blt
        exact ⟨mb, h1.keeps kp, h2⟩
      · refine funFrames_none E0.funs fun L hL => ?_
        cases hq : B.get? L with
        | none => rfl
        | some o =>
          exfalso
          obtain ⟨h1, h2⟩ := hbs L o hq
          have hbn : X.base.get? L = none := (E0.funs.mem hL).1
          cases hz : (X.base.get? L).isSome || decide (L ∈ LL.own.map (·.2)) with
          | false => rw [b2 L hz] at hq; cases hq
          | true =>
            rw [hbn] at hz
            obtain ⟨q, hq1, hq2⟩ := List.mem_map.mp (of_decide_eq_true (by simpa using hz : decide (L ∈ LL.own.map (·.2)) = true))
            obtain ⟨y2, y3, y4⟩ := ownc q.1 q.2 hq1
            rw [hq2] at y2
            rcases List.mem_cons.mp (I1.stkSub L hL) with z | z
            · obtain ⟨v, oc, hc1, hc2⟩ := I1.cell _ _ y2
              obtain ⟨mm, ⟨on, es, ep, hn1, hn2, _⟩, _⟩ := I1.loc
              rw [z, hn1] at hc1
              cases hc1
              rw [hn2] at hc2
              cases hc2
            · obtain ⟨_, oo, ho, _⟩ := I1.ok.funs.mem z
              have := I1.ok.cab _ _ y4 y2
              exact absurd (Nat.lt_of_lt_of_le (Heap.lt_size ho) this) (Nat.lt_irrefl _)
    obtain ⟨m2, e1, e2, e3, e4⟩ := hF (cs.map fun i => (env[i]?).join)
    have F := e4 B kp W
    have hl2 : (us ++ []).length = ps.length := by rw [List.append_nil, ← r.length, ← r1.length, evX_len _ _ _ _ _ hl hr', hpl', hps]
    have hb2 := hb s1 us I1.kIn hl2
    rw [List.append_nil] at hb2
    have SB : @SRel (LL2 B (cs.map fun i => (env[i]?).join)) m.nm X.prog X.w X.K ρ1 H1 st1 := by
      refine SRel.sub ‹LL› (LL2 B _) ⟨rfl, rfl, fun _ _ h => h⟩ S1 fun g' hg' j x c d h1 h2 => ?_
      have hg' : (cs.map fun i => (env[i]?).join) = g' := Option.some.inj hg'
      subst hg'
      rw [List.getElem?_map] at h2
      obtain ⟨i', hi', h2⟩ := Option.map_eq_some_iff.mp h2
      have h2 : env[i']? = some (some d) := by
        cases hz : env[i']? with
        | none => rw [hz] at h2; cases h2
        | some o => rw [hz] at h2; exact congrArg some h2
      obtain ⟨v, hv, rv⟩ := hen1.at_ i' d h2
      obtain ⟨x', hx', hN⟩ := (hcs j i' hi').resolve_right fun z => by
        have := (List.getElem?_eq_some_iff.mp h2).1
        rw [hen1.len, I1.len] at this
        omega
      obtain ⟨h1, h1o⟩ := h1
      have h1 := (show LL.gn[j]? = some x from h1).symm.trans hx'
      cases h1
      have hm : (x, c) ∈ LL.own := PySem.mem_of_lookup h1o
      obtain ⟨y2, y3, y4⟩ := ownc x c hm
      obtain ⟨mm, hns, hloc⟩ := I1.loc
      obtain ⟨u, ru, lk⟩ := hloc i' x v hN hv (.inr (.inl y3))
      rcases lk with ⟨z, _⟩ | ⟨_, c2, z1, z2⟩
      · rw [y3] at z; cases z
      · rw [y2] at z1
        cases z1
        exact ⟨u, v, cellB x c _ hm z2, ru, Rep.sub ‹LL› (LL2 B _) ⟨rfl, rfl, fun _ _ h => h⟩ d v rv⟩
    refine wpAny_call (codeAny_mono (F.run X.A X.stack s1 H1 ⟨us, []⟩ us vs Q E hr E1 hb2 r ?_) fun r s' hq => ?_)
    · refine ⟨by rw [← r1.length, evX_len _ _ _ _ _ hl hr', hps], ρ1, st1, ds, by rw [e1]; exact SB, Reps.sub ‹LL› (LL2 B _) ⟨rfl, rfl, fun _ _ h => h⟩ _ _ r1, ?_⟩
      rw [← e3 (encG cs env) ds st1 (dec_enc cs env)]
      have back : Sub (LL2 B (cs.map fun i => (env[i]?).join)) ‹LL› := ⟨rfl, rfl, fun _ _ h => h⟩
      cases hcall : m.call (i + 2 * m.T.fns.length) (encG cs env :: ds) st1 with
      | stuck => rw [hcall] at hf1; exact hf1.elim
      | ok d st2 =>
        rw [hcall] at hf1
        intro ρ2 H2 v s2 S2 r2
        rw [e1] at S2
        exact hf1 ρ2 H2 v s2 (SRel.sub _ _ back S2 (CtOk.none M.ct)) (Rep.sub _ _ back _ _ r2)
      | exc c x' st2 =>
        rw [hcall] at hf1
        intro ρ2 H2 o C s2 S2 hC hX
        rw [e1] at S2
        rw [e2] at hC
        refine hf1 ρ2 H2 o C s2 (SRel.sub _ _ back S2 (CtOk.none M.ct)) hC ?_
        rcases hX with h | ⟨d, v, h1, h2, h3, h4⟩
        · exact .inl h
        · exact .inr ⟨d, v, h1, h2, h3, Rep.sub _ _ back _ _ h4⟩
    · cases r with
      | error e => exact hx pins σ H1 s1 e s' I1 hq
      | ok fl =>
        cases fl with
        | ret u => exact I1.after hq
        | next => exact False.elim hq
        | brk => exact False.elim hq
        | cont => exact False.elim hq
end
end VI
/-! VIvp: properties; len(..) of what has an own __len__. -/
namespace VI
open PySem PySem.Spec PyProof.Rows L2
variable [LL]
section
variable {m : Md} {E : XK} {X : Cx} {ρ : List Addr} {H : Hp} {st : Store} {o a : Expr} {x : Ex} {pos apos : Pos}
structure PropOk (m : Md) (X : Cx) (w : Str) (n : Nat) : Prop where
  at_ : ∀ (c : Nat) (C : Addr) (k : Cl) (p : Nat × List D), m.nm.cA[c]? = some C → m.T.cls[c]? = some k → k.ms.lookup n = some p → ∃ kk pa g fd ps, PropOf X.K C w pa g ∧ FnOk X.prog X.w X.K X.mg X.base (L2.CX X.prog X.w) kk g fd ps (spI m X.prog X.w X.K m.call p.1 ps.length) ∧ Room (kk + 1) X.A ∧ Binds X.K fd ps [] ∧
    ps.length = 1
structure LenOk (m : Md) (X : Cx) (n : Nat) : Prop where
  at_ : ∀ (c : Nat) (C : Addr) (k : Cl) (p : Nat × List D), m.nm.cA[c]? = some C → m.T.cls[c]? = some k → k.ms.lookup n = some p → p.2 = [] ∧ ∃ kk g fd ps, Meth X.K C "__len__" g ∧ FnOk X.prog X.w X.K X.mg X.base (L2.CX X.prog X.w) kk g fd ps (spI m X.prog X.w X.K m.call p.1 ps.length) ∧ Room (kk + 1) X.A ∧ Binds X.K fd ps [] ∧
    ps.length = 1
/-- e.f, a property -/
theorem se_prop {w : Str} {n : Nat} (hcl : ClsOk m.nm X.K) (po : PropOk m X w n) (he : PE X o (tEv m E X x)) (hbase : attributeBase o w X.env (eval o X.env) = eval o X.env) : PE X (.Attribute o w pos) (tEv m E X (.prop x n)) := by
  refine ⟨fun pins s σ H Q inv ⟨ρ, env, st, hen, S, hf⟩ => ?_⟩
  simp only [evE] at hf
  refine attr_of hbase (thn (he.run pins s σ H (fun v H1 => ∃ ρ1 st1 d c k p, Step ρ H ρ1 H1 ∧ Rel m X ρ1 H1 st1 ∧ Rep X.K ρ1 H1 d v ∧ clsAt st1 d = some c ∧ m.T.cls[c]? = some k ∧ k.ms.lookup n = some p ∧ Fin m E X ρ1 H1 (m.call p.1 [d] st1).noexc (rD X) Q) inv ⟨ρ, env, st, hen, S, hf.bind fun d st1 ρ1 H1 v s1 S1 r1 hf1 => ?_⟩) fun u s1 ⟨v, H1, inv1, rv, ρ1, st1, d, c, k, f, stp1, S1, r1, hc, hk, hms, hf1⟩ => ?_)
  · split at hf1
    · rename_i c hc
      split at hf1
      · rename_i k hk
        split at hf1
        · rename_i f hms
          exact ⟨ρ1, st1, d, c, k, f, s1, S1, r1, hc, hk, hms, hf1⟩
        · exact hf1.elim
      · exact hf1.elim
    · exact hf1.elim
  · obtain ⟨i, a, C, dx, fs, fv, rfl, rfl, hia, hC, hH, fr⟩ := cls_at S1 r1 hc
    obtain ⟨kk, pa, g, fd, ps, hP, F, hr, hb, hps⟩ := po.at_ c C k f hC hk hms
    cases rv
    have hf2 : Fin m noE X ρ1 H1 (m.call f.1 [.ref i] st1) (rD X) Q := by
      cases hcall : m.call f.1 [.ref i] st1 with
      | ok y s' => rw [hcall] at hf1; exact hf1
      | exc c x s' => rw [hcall] at hf1; exact hf1.elim
      | stuck => rw [hcall] at hf1; exact hf1.elim
    refine getprop_ok (dvs := []) (ds := []) (E := noE) inv1 hH (hcl.at_ _ _ hC).1 hP F hr hb .nil passL ?_
    exact ⟨by rw [hps]; rfl, ρ1, st1, [.ref i], S1, .cons (.ref hia) .nil, hf2.k⟩
theorem own_run1 {pins : List (Addr × Obj)} {σ : L2.St} {s : Shared} {ρ : List Addr} {H : Hp} {st : Store} {A : Around} {kk f : Nat} {g : Addr} {fd : FuncData} {ps : List Str} {d : D} {x : V} {u : Value} {Q : VK} {R : Value → Shared → Prop} (I : Inv X pins σ H s)
    (hA : A.frames = X.A.frames) (hr : Room kk A) (F : FnOk X.prog X.w X.K X.mg X.base (L2.CX X.prog X.w) kk g fd ps (spI m X.prog X.w X.K m.call f ps.length)) (hb : Binds X.K fd ps []) (hp : ps.length = 1) (hx : Passes (L2.CX X.prog X.w) X E)
    (S : Rel m X ρ H st) (rd : Rep X.K ρ H d x) (rx : RelV x u) (hf : Fin m E X ρ H (m.call f [d] st) (rD X) Q)
    (fin : ∀ z u' H' s', Inv X pins σ H' s' → RelV z u' → Q z H' → R u' s') : wpAny (model X.prog X.w) A (call (.ref g) [u]) R X.xe s := by
  have hsp : spI m X.prog X.w X.K m.call f ps.length [x] H Q E := ⟨by rw [hp]; rfl, ρ, st, [d], S, .cons rd .nil, hf.k⟩
  have e0 : Env0 X.prog X.w X.K X.mg X.base A X.stack s H := by
    have e := I.env0
    exact ⟨by rw [hA]; exact e.frames, e.mod, e.bs, e.bsz, e.funs, e.frf, e.hok, e.bare⟩
  have r2 : Vals [x] [u] := .cons rx .nil
  refine wpAny_call (codeAny_mono (F.run A X.stack s H ⟨[u], []⟩ [u] [x] _ E hr e0 (by
    have := hb s [u] I.kIn (by rw [hp]; rfl)
    simpa using this) r2 hsp) fun r s' hq => ?_)
  cases r with
  | error e => exact hx pins σ H s e s' I hq
  | ok fl =>
    cases fl with
    | ret w =>
      obtain ⟨v, H', I', rv, q⟩ := I.after hq
      exact fin v w H' s' I' rv q
    | next => exact False.elim hq
    | brk => exact False.elim hq
    | cont => exact False.elim hq
/-- what len(..) asks -/
def RLen (m : Md) (E : XK) (X : Cx) (n : Nat) (vs : List V) (H : Hp) (Q : VK) : Prop := ∃ ρ st d v c k p, vs = [v] ∧ Rel m X ρ H st ∧ Rep X.K ρ H d v ∧ clsAt st d = some c ∧ m.T.cls[c]? = some k ∧ k.ms.lookup n = some p ∧ Fin m E X ρ H ((m.call p.1 [d] st).bind fun y s => sizeV [y] s) (rD X) Q
theorem call_lenO {n : Nat} (hcl : ClsOk m.nm X.K) (hx : Passes (L2.CX X.prog X.w) X E) (lo : LenOk m X n) : CallR X (.builtin "len") (RLen m E X n) := by
  intro pins s σ H vs us Q I rv h
  obtain ⟨ρ, st, d, v, c, k, p, rfl, S, r, hc, hk, hms, hf⟩ := h
  cases rv with
  | cons r1 r0 =>
    cases r0
    obtain ⟨i, a, C, dx, fs, fv, rfl, rfl, hia, hC, hH, fr⟩ := cls_at S r hc
    obtain ⟨_, kk, g, fd, ps, M, F, hr, hb, hps⟩ := lo.at_ c C k p hC hk hms
    obtain ⟨mA, O, _⟩ := ins_get I.hok hH
    obtain ⟨od, J, _⟩ := O.look
    cases r1
    refine Calls.call_function_entry kind_len plain_len entry_len (args_len1 _) ?_
    unfold Builtin.«len»
    refine wpAny_bind (m := oneArg "len" _) (wpAny_pure ?_)
    refine wpAny_bind (m := callSpecial? (.ref a) (Str.ofString "__len__")) (PySem.W.special_fn I.kIn J M.at_ (beq_iff_eq.mp M.fn) (own_run1 (A := X.A.in1) (Q := fun z H' => ∃ j : Int, z = .int j ∧ (0 ≤ j ∧ j < 4611686018427387904) ∧ Q (.int j) H') I rfl hr.in1 F hb hps hx S r rfl (hf.bind fun b st1 ρ1 H1 z s1 S1 rz hf1 => ?_) fun z u' H' s' I' rz q => ?_))
    · unfold sizeV at hf1
      cases rz with
      | int j =>
        simp only at hf1
        split at hf1
        · rename_i hj
          exact ⟨j, rfl, hj, hf1.now S1 (.int _)⟩
        · exact hf1.elim
      | _ => exact hf1.elim
    · obtain ⟨j, rfl, ⟨h0, h1⟩, q⟩ := q
      obtain ⟨t, rfl⟩ := rz
      refine wpAny_bind (wpAny_holding (wpAny_pure ?_))
      refine wpAny_bind (wpAny_letGo ?_)
      show wpAny _ _ (if j < 0 then _ else _) _ _ _
      rw [if_neg (by omega)]
      show wpAny _ _ (if j ≥ 2 ^ 63 then _ else _) _ _ _
      rw [if_neg (by omega)]
      exact wpAny_bind (wpAny_mkInt (wpAny_pure ⟨_, rfl, .int j, H', I'.tok _, ⟨_, rfl⟩, q⟩))
theorem se_lenO {n : Nat} {p : Pos} (hcl : ClsOk m.nm X.K) (hx : Passes (L2.CX X.prog X.w) X E) (lo : LenOk m X n) (hg : Gl X "len") (hm : X.mg "len" = none) (ha : PA X [a] (tEvX m E X (.cons false x .nil)))
    (he : starEach [a] X.env = (false, eval a X.env) :: starEach [] X.env) (hpl : (backTo pos (starEach [] X.env)).any (·.1) = false) : PE X (.Call (.Name "len" p) [a] [] pos) (tEv m E X (.blt .size (.cons false (.meth x n .nil) .nil))) :=
  imE (pe_callB (call_lenO hcl hx lo) hg hm PySem.boot_len ha (by decide) (by decide) he hpl) fun σ H Q ⟨ρ, env, st, he, S, hf⟩ => by
    have hf : Fin m E X ρ H ((evX m.T m.F m.call (.cons false (.meth x n .nil) .nil) env st).bind fun ds s => sizeV ds s) (rD X) Q := hf
    simp only [ev1, bind_assoc] at hf
    have e1 : evX m.T m.F m.call (.cons false x .nil) env st = (evE m.T m.F m.call x env st).bind fun d s => .ok [d] s := ev1
    refine ⟨ρ, env, st, he, S, ?_⟩
    rw [e1]
    simp only [evE, evX, R.bind] at hf
    cases hx : evE m.T m.F m.call x env st with
    | stuck => rw [hx] at hf; exact hf.elim
    | exc c y s' => rw [hx] at hf; exact hf
    | ok d st1 =>
      rw [hx] at hf
      simp only at hf
      intro ρ1 H1 vs stp S1 rs
      cases rs with
      | cons r0 r1 =>
        cases r1
        cases hc : clsAt st1 d with
        | none => rw [hc] at hf; exact hf.elim
        | some c =>
          rw [hc] at hf
          simp only at hf
          cases hk : m.T.cls[c]? with
          | none => rw [hk] at hf; exact hf.elim
          | some k =>
            rw [hk] at hf
            simp only at hf
            cases hms : k.ms.lookup n with
            | none => rw [hms] at hf; exact hf.elim
            | some q =>
              rw [hms] at hf
              simp only at hf
              obtain ⟨i, a', C, dx, fs, fv, rfl, rfl, hia, hC, hH, fr⟩ := cls_at S1 r0 hc
              obtain ⟨hq2, _⟩ := lo.at_ c C k q hC hk hms
              rw [hq2] at hf
              exact ⟨ρ1, st1, _, _, c, k, q, rfl, S1, r0, hc, hk, hms, Fin.step hf stp⟩
end
end VI
/-! VIp: from the text's trees to the form; expressions. -/
namespace VI
open PySem PySem.Spec PyProof.Rows L2
variable [LL]
/-- what a module's name is -/
inductive G where
  /-- a def: how many arguments are written, what lacks behind them (keyword-only, with names) -/
  | fn (i np : Nat) (kw : List (Str × D))
  | con (d : D)
  | cls (c np : Nat)
  | dic (kvs : List (D × D))
  /-- a def whose names are captured -/
  | mkr (i np : Nat)
structure Cc where
  N : List Str
  sc : Scope
  fn : Str → Bool
  gl : Str → Option G
  fr : Str → Bool
  /-- methods, fields -/
  mt : Str → Option Nat
  mw : Str → List (Option Str) → Option Nat
  fd : Str → Option Nat
  /-- the def's table, if it makes lambdas -/
  lam : Option Nat := none
  /-- classes of exceptions; what which of them is caught by -/
  ex : Str → Option Nat := fun _ => none
  hit : Nat → Nat → Bool := fun _ _ => false
  nx : Nat := 0
  /-- properties; __len__ -/
  pr : Str → Option Nat := fun _ => none
  ln : Option Nat := none
  /-- exceptions with an own __init__; are errors' rows read -/
  exo : Str → Option Nat := fun _ => none
  xr : Bool := false
  /-- within an except clause -/
  hot : Bool := false
  /-- the caught error: its name, its place, its class -/
  er : Option (Str × Nat × Nat) := none
  /-- lambdas; the def's own name -/
  lms : List (Nat × LamT) := []
  q : Str := ""
  /-- lambdas are called -/
  cw : Bool := false
  /-- captured names: of a lambda, of a def's own -/
  cps : List Str := []
  ownN : List Str := []
def ixOf (N : List Str) (w : Str) : Option Nat := match N.findIdx? (fun x => x == w) with
  | some i => if N[i]? = some w then some i else none
  | none => none
theorem ixOf_ok {N : List Str} {w : Str} {i : Nat} (h : ixOf N w = some i) : N[i]? = some w := by
  unfold ixOf at h
  split at h
  · split at h
    · cases h; assumption
    · cases h
  · cases h
def Cc.kind (c : Cc) (w : Str) : Option NameKind := c.sc.names.lookup w
def Cc.isGl (c : Cc) (w : Str) : Bool := decide (c.kind w = some .globalImplicit)
def Cc.isVis (c : Cc) (w : Str) : Bool := decide (c.kind w = some .local) || decide (c.kind w = some .cell) || decide (c.kind w = some .free)
def Cc.isLoc (c : Cc) (w : Str) : Bool := decide (c.kind w = some .local) || decide (c.kind w = some .cell)
def Cc.canSet (c : Cc) (w : Str) : Bool := c.isLoc w && (c.fn w || decide (c.kind w = some .local))
def Cc.blt (c : Cc) (w : Str) : Bool := c.isGl w && c.fr w
/-- the context of a comprehension's block -/
def blkC (c : Cc) (scope : Scope) : Cc := { c with sc := relS scope c.sc, fn := fun x => scope.names.lookup x == some .cell, lam := none, er := none, lms := [], cw := false, cps := [], ownN := [] }

def GOk (m : Md) (X : Cx) (w : Str) : G → Prop
  | .fn i np kw => ∃ k g fd ps dvs dus, FnOk X.prog X.w X.K X.mg X.base (L2.CX X.prog X.w) k g fd ps (spI m X.prog X.w X.K m.call i ps.length) ∧ Room k X.A ∧ X.mg w = some (.ref g) ∧ PySem.W.keepIn X.K (.ref g) = true ∧ Binds X.K fd ps dus ∧ Vals dvs dus ∧ (∀ ρ H, Reps X.K ρ H (kw.map (·.2)) dvs) ∧ ps.length = np + kw.length ∧
      (kw ≠ [] → ∀ (s : Shared) (us ws : List Value), us.length = np → ws.length = kw.length → BindsTo s fd ⟨us, (kw.map (·.1)).zip ws⟩ (ps.zip (us ++ ws)))
  | .con d => ∃ v u, X.mg w = some u ∧ RelV v u ∧ ∀ ρ H, Rep X.K ρ H d v
  | .cls c np => ∃ C kc k g fd ps, m.nm.cA[c]? = some C ∧ X.mg w = some (.ref C) ∧ m.T.cls[c]? = some kc ∧ Mk X.K C g ∧ FnOk X.prog X.w X.K X.mg X.base (L2.CX X.prog X.w) k g fd ps (spI m X.prog X.w X.K m.call kc.init ps.length) ∧ Room (k + 1) X.A ∧ Binds X.K fd ps [] ∧ ps.length = np + 1 ∧ IsTab m.nm X.K (.cls c) (.ref C)
  | .dic kvs => DicOk X w kvs
  | .mkr i np => ∃ k g fd ps, FnOk X.prog X.w X.K X.mg X.base (L2.CX X.prog X.w) k g fd ps (spM m X.prog X.w X.K i ps.length) ∧ Room k X.A ∧ X.mg w = some (.ref g) ∧ PySem.W.keepIn X.K (.ref g) = true ∧ Binds X.K fd ps [] ∧ ps.length = np
/-- a class of exceptions of the program -/
def ExOk (m : Md) (X : Cx) (pl : Bool) (w : Str) (k : Nat) : Prop := ∃ C, m.xA[k]? = some C ∧ X.mg w = some (.ref C) ∧ (pl = true → PySem.W.excIn X.K C He.veBase "ValueError.__new__" = true) ∧ PySem.W.keepIn X.K (.ref C) = true ∧ PySem.W.subIn X.K (.ref C) (.type "BaseException") = some true ∧ PySem.W.typeIn X.K (.ref C) = some (.type "type")
/-- .. with an own __init__ -/
def ExoOk (m : Md) (X : Cx) (w : Str) (k : Nat) : Prop := ∃ (C fI : Addr) (fd : FuncData) (sn : Str), m.xA[k]? = some C ∧ X.mg w = some (.ref C) ∧ OexC X.K C ∧ PySem.W.findIn X.K (.ref C) "__init__" = some (some (.ref fI)) ∧ PySem.W.typeIn X.K (.ref fI) = some (.type "function") ∧
  FnOk X.prog X.w X.K X.mg X.base (L2.CX X.prog X.w) 0 fI fd [sn, "row"] (spXi X.K C "row") ∧ Room 1 X.A ∧ Binds X.K fd [sn, "row"] []
/-- what isinstance says of an error of class k -/
def excV (c : Cc) (k : Nat) (w : Str) : Option Bool := match c.ex w with
  | some k' => some (c.hit k k')
  | none => if w = "ValueError" then some true else none
def ErOk (m : Md) (E : XK) (X : Cx) (c : Cc) (n : Str) (j k : Nat) : Prop := ∀ (w : Str) (b : Bool), excV c k w = some b → Gl X "isinstance" → Gl X w → (w == ("__debug__" : Str)) = false → ∀ {p np wp pos : Pos}, PE X (.Call (.Name "isinstance" p) [.Name n np, .Name w wp] [] pos) (tEv m E X (.isx j b))
/-- what is known of captured names -/
structure NewOk (m : Md) (X : Cx) (c : Cc) : Prop where
  gn : c.cps ≠ [] → LL.gn = c.cps
  cps : c.ownN = [] → ∀ x ∈ c.cps, c.kind x = some .free → ∃ cc, LL.own.lookup x = some cc ∧ X.env.cells.lookup x = some cc
  ow : c.ownN = [] → c.cps ≠ [] → OwnW X.base ∧ m.T.γ = LL.ct
  mkr : c.ownN ≠ [] → MkOk X c.ownN
  callG : c.ownN ≠ [] → ∀ w i np, c.gl w = some (.fn i np []) → CallG m X i np w
theorem NewOk.nil {m : Md} {X : Cx} {c : Cc} (h1 : c.cps = []) (h2 : c.ownN = []) : NewOk m X c := ⟨fun h => absurd h1 h, fun _ x h => (by rw [h1] at h; cases h), fun _ h => absurd h1 h, fun h => absurd h2 h, fun h => absurd h2 h⟩
structure CcOk (m : Md) (E : XK) (X : Cx) (c : Cc) : Prop where
  N : X.N = c.N
  sc : X.env.scope = c.sc
  fn : X.fn = c.fn
  nd : X.N.Nodup
  calm : c.hot = false → X.calm = true
  frh : ∀ w, c.fr w = true → c.hot = false
  u : X.A.units + 65 < cLine
  pass : Passes (L2.CX X.prog X.w) X E
  gl : ∀ w g, c.gl w = some g → GOk m X w g
  fr : ∀ w, c.fr w = true → X.mg w = none
  eqo : ∀ (k : Nat) (C : Addr) (kc : Cl) (f : Nat), m.nm.cA[k]? = some C → m.T.cls[k]? = some kc → kc.eq = some f → EqOk m X C f
  cl : ClsOk m.nm X.K
  ty : ∀ p ∈ tyOfName, IsTab m.nm X.K p.2.2 (.type p.2.1)
  mt : ∀ w n, c.mt w = some n → MethOk m X w n
  mw : ∀ w ks n, c.mw w ks = some n → ∃ ls : List Str, ks = ls.map some ∧ MethOkK m X w ls n
  fd : ∀ w n, c.fd w = some n → m.nm.aN[n]? = some w ∧ n < m.nm.nf
  dp : X.A.depth + 5 < recursionLimit
  lam : ∀ i, c.lam = some i → LamAt m X i
  ex : ∀ w k, c.ex w = some k → ExOk m X (!c.hot && (c.exo w).isNone) w k
  nx : m.xA.length ≤ c.nx
  xh : ∀ (k k' : Nat) (C C' : Addr), m.xA[k]? = some C → m.xA[k']? = some C' → PySem.W.exmOne X.K (.ref C) (.ref C') = some (c.hit k k')
  pr : ∀ w n, c.pr w = some n → PropOk m X w n
  ln : ∀ n, c.ln = some n → LenOk m X n
  exo : ∀ w k, c.exo w = some k → ExoOk m X w k
  xf : c.xr = true → ∀ (k : Nat) (C : Addr), m.xA[k]? = some C → XfC X.K C ∧ PySem.W.findIn X.K (.ref C) "row" = some none
  er : ∀ n j k, c.er = some (n, j, k) → ErOk m E X c n j k
  glh : ∀ w g, c.gl w = some g → c.er = none
  qual : c.lms ≠ [] → X.env.qual = c.q
  lms : ∀ p ∈ c.lms, LL.ls p.1 = some p.2
  cw : c.cw = true → (LL.er = none ∧ ∃ n, Room n X.A ∧ LmOk m X.prog X.w X.K X.mg X.base n) ∧ XkOk m X c.hit
  nw : NewOk m X c

def opB : Operator → Option Bop
  | .Add => some .add | .Sub => some .sub | .Mult => some .mul | .FloorDiv => some .fdiv | .Mod => some .mod
  | _ => none
def opC : CmpOp → Option Cop
  | .Eq => some .eq | .NotEq => some .ne | .Lt => some .lt | .LtE => some .le | .Gt => some .gt | .GtE => some .ge
  | .Is => some .is | .IsNot => some .isnot | .In => some .inn | .NotIn => some .notin
def Cop.isEq : Cop → Bool
  | .eq | .ne => true
  | _ => false
def isStar : Expr → Bool
  | .Starred .. => true
  | _ => false
def isSlice : Expr → Bool
  | .Slice .. => true
  | _ => false
def isSet : Expr → Bool
  | .Set .. => true
  | _ => false
/-- f() -/
def isCall0 : Expr → Bool
  | .Call _ [] _ _ => true
  | _ => false
def cXs (f : Expr → Option Ex) : List Expr → Option Xs
  | [] => some .nil
  | e :: r => if isStar e then none else match f e, cXs f r with
    | some x, some y => some (.cons false x y)
    | _, _ => none
/-- one thing of a display: a star or not -/
def cOne (f : Expr → Option Ex) (e : Expr) : Option (Bool × Ex) := match e with
  | .Starred x _ => (f x).map fun y => (true, y)
  | e => (f e).map fun y => (false, y)
/-- c + f, o.replace(y, z) at the end of a display -/
def cRepl (f : Expr → Option Ex) : List Expr → Option Xs
  | [.BinOp (.Constant (.str k) _ _) op g _, .Call (.Attribute o w apos) [.Constant (.str y) _ _, .Constant (.str z) _ _] [] pos] =>
    if w = "replace" && !(y == z) && !isCall0 o && (apos.endLine == pos.line) then match opB op, f g, f o with
      | some b, some gx, some ox => some (.cons false (.bin b (.c (.str k.cps.toList)) gx) (.cons false (.bm .replace ox (.cons false (.c (.str y.cps.toList)) (.cons false (.c (.str z.cps.toList)) .nil))) .nil))
      | _, _, _ => none
    else none
  | _ => none
/-- displays: stars too -/
def cXsS (f : Expr → Option Ex) : List Expr → Option Xs
  | [] => some .nil
  | e :: r => match cRepl f (e :: r) with
    | some y => some y
    | none => match cOne f e, cXsS f r with
    | some p, some y => some (.cons p.1 p.2 y)
    | _, _ => none
def Xs.ofC : List D → Xs
  | [] => .nil
  | d :: ds => .cons false (.c d) (Xs.ofC ds)
/-- constants behind arguments -/
def Xs.app : Xs → List D → Xs
  | .nil, ds => Xs.ofC ds
  | .cons b e r, ds => .cons b e (r.app ds)
/-- o.replace(y, z) of what has a form -/
def cRep1 (f : Expr → Option Ex) : Expr → Option Ex
  | .Call (.Attribute o w apos) [.Constant (.str y) _ _, .Constant (.str z) _ _] [] pos =>
    if w = "replace" && !(y == z) && !isCall0 o && (apos.endLine == pos.line) then (f o).map fun ox => .bm .replace ox (.cons false (.c (.str y.cps.toList)) (.cons false (.c (.str z.cps.toList)) .nil)) else none
  | _ => none
/-- .. once or twice -/
def cRep (f : Expr → Option Ex) (e : Expr) : Option Ex := match cRep1 f e with
  | some x => some x
  | none => cRep1 (cRep1 f) e
def isStrC : Expr → Bool
  | .Constant (.str _) _ _ => true
  | _ => false
def cPairs (f : Expr → Option Ex) : List (Option Expr) → List Expr → Option Xs
  | [], [] => some .nil
  | some k :: ks, v :: vs => match f k, f v, cPairs f ks vs with
    | some x, some y, some z => some (.cons false x (.cons false y z))
    | _, none, some z => (match k, cRep f v with
      | .Constant (.str c) _ _, some y => some (.cons false (.c (.str c.cps.toList)) (.cons false y z))
      | _, _ => none)
    | _, _, _ => none
  | _, _ => none
def cNm (c : Cc) : Expr → Option Nat
  | .Name w _ => if c.canSet w then ixOf c.N w else none
  | _ => none
def cNms (c : Cc) : List Expr → Option (List Nat)
  | [] => some []
  | e :: r => match cNm c e, cNms c r with
    | some i, some is => some (i :: is)
    | _, _ => none
def cTg (c : Cc) : Expr → Option Tg
  | .Name w p => (cNm c (.Name w p)).map .nm
  | .Tuple es _ _ => (cNms c es).map .tp
  | _ => none
def isTup : Expr → Bool
  | .Tuple .. => true
  | _ => false
/-- what is walked -/
def cIv (f : Expr → Option Ex) (e : Expr) : Option (Itk × Xs) := (f e).map fun x => (.val, .cons false x .nil)
def cI (f : Expr → Option Ex) (c : Cc) (tg : Expr) (it : Expr) : Option (Itk × Xs) := match it with
  | .Call (.Name w p) [a] [] pos => if w = "range" then (if c.blt "range" && !isStar a then (f a).map fun x => (.rng, .cons false x .nil) else none) else if w = "enumerate" then (if c.blt "enumerate" && !isStar a && isTup tg then (f a).map fun x => (.enum, .cons false x .nil) else none) else cIv f (.Call (.Name w p) [a] [] pos)
  | .Call (.Attribute o w apos) [] [] pos => if w = "items" && (c.mt w).isNone then (if isTup tg && !isCall0 o && (apos.endLine == pos.line) then (f o).map fun x => (.items, .cons false x .nil) else none) else cIv f (.Call (.Attribute o w apos) [] [] pos)
  | .Call (.Name w p) [a, b] [] pos => if w = "zip" then (if c.blt "zip" && !isStar a && !isStar b && isTup tg then match f a, f b with
      | some x, some y => some (.zip, .cons false x (.cons false y .nil))
      | _, _ => none else none) else cIv f (.Call (.Name w p) [a, b] [] pos)
  | e => if isSet e then none else cIv f e
def ownOf (c : Cc) (scope : Scope) : List (Str × Nat) := scope.names.filterMap fun p => if decide (p.2 = .local) || decide (p.2 = .cell) then (ixOf c.N p.1).map fun i => (p.1, i) else none
def blkOk (c : Cc) (scope : Scope) : Bool := !c.hot && decide (scope.kind = .function) && scope.names.all (fun y => decide (scope.names.lookup y.1 = some y.2)) &&
  scope.names.all (fun y => !decide (y.2 = .free) || decide (c.kind y.1 = some .cell) || decide (c.kind y.1 = some .free)) &&
  scope.names.all (fun y => !(decide (y.2 = .local) || decide (y.2 = .cell)) || decide (y.1 ∈ (ownOf c scope).map (·.1)) || decide (y.1 ∉ c.N))
/-- a list comprehension -/
def cLc (rec : Bool → Cc → Expr → Option Ex) (c : Cc) (elt : Expr) (gs : List Comprehension) (scope : Scope) : Option Ex := match gs with
  | [⟨tg, it, ifs, 0⟩] => match cTg (blkC c scope) tg, cI (rec false c) c tg it, (match ifs with | [] => some (Ex.c (.bl true)) | [t] => rec true (blkC c scope) t | _ => none), rec false (blkC c scope) elt with
    | some t, some (k, es), some cx, some ex => if blkOk c scope && (tgNames t).all (fun i => decide (i ∈ (ownOf c scope).map (·.2))) then some (.lc ((ownOf c scope).map (·.2)) t k es cx ex) else none
    | _, _, _, _ => none
  | _ => none
/-- a comprehension that makes a dict -/
def cDc (rec : Bool → Cc → Expr → Option Ex) (c : Cc) (ky vl : Expr) (gs : List Comprehension) (scope : Scope) : Option Ex := match gs with
  | [⟨tg, it, ifs, 0⟩] => match cTg (blkC c scope) tg, cI (rec false c) c tg it, (match ifs with | [] => some (Ex.c (.bl true)) | [t] => rec true (blkC c scope) t | _ => none), rec false (blkC c scope) ky, rec false (blkC c scope) vl with
    | some t, some (k, es), some cx, some kx, some vx => if blkOk c scope && (tgNames t).all (fun i => decide (i ∈ (ownOf c scope).map (·.2))) then some (.dc ((ownOf c scope).map (·.2)) t k es cx kx vx) else none
    | _, _, _, _, _ => none
  | _ => none
def bltOf (w : Str) : Option Blt :=
  if w = "len" then some .len else if w = "sum" then some .sum else if w = "all" then some .all else if w = "any" then some .any else if w = "int" then some .int else if w = "abs" then some .abs
  else if w = "list" then some .list else if w = "tuple" then some .tuple else if w = "min" then some .min else if w = "max" then some .max else if w = "dict" then some .dict else if w = "sorted" then some .sorted else none
def isiOf (c : Cc) (f : Expr → Option Ex) (a : Expr) (t : Str) : Option Ex := if c.blt "isinstance" && c.blt t && !isStar a then match tyOfName.lookup t, f a with
    | some p, some x => some (.blt (.isi [p.2]) (.cons false x .nil))
    | _, _ => none else if c.blt "isinstance" && c.isGl t && !(t == "__debug__") && !isStar a then match c.gl t, f a with
    | some (.cls k _), some x => some (.blt (.isi [.cls k]) (.cons false x .nil))
    | _, _ => none else none
/-- list(range(a)) -/
def rgOf : List Expr → Option Expr
  | [.Call (.Name w _) [a] [] _] => if w = "range" then some a else none
  | _ => none
def enOf : List Expr → Option Expr
  | [.Call (.Name w _) [a] [] _] => if w = "enumerate" then some a else none
  | _ => none
/-- list(o.values()) -/
def vlOf (c : Cc) : List Expr → Option Expr
  | [.Call (.Attribute o w apos) [] [] cpos] => if w = "values" && (c.mt w).isNone && !isCall0 o && (apos.endLine == cpos.line) then some o else none
  | _ => none
/-- isinstance(a, (S, T)) of built-in types -/
def isi2Of (c : Cc) (f : Expr → Option Ex) (a : Expr) (t1 t2 : Str) : Option Ex := if c.blt "isinstance" && c.blt t1 && c.blt t2 && !isStar a then match tyOfName.lookup t1, tyOfName.lookup t2, f a with
    | some p, some q, some x => some (.blt (.isi [p.2, q.2]) (.cons false x .nil))
    | _, _, _ => none else none
def cCallN (f : Expr → Option Ex) (c : Cc) (w : Str) (args : List Expr) : Option Ex :=
  if c.isGl w && !(w == "__debug__") && decide (w ≠ "__name__") then match c.gl w with
    | some (.fn i np kw) => (match cXs f args with
      | some xs => if args.length = np then some (.call i (xs.app (kw.map (·.2)))) else none
      | none => none)
    | some (.cls k np) => (match cXs f args with
      | some xs => if args.length = np then some (.make k xs) else none
      | none => none)
    | some _ => none
    | none => if !c.fr w then none else
      if w = "isinstance" then (match args with
        | [a, .Name t _] => isiOf c f a t
        | [a, .Tuple [.Name t1 _, .Name t2 _] _ _] => isi2Of c f a t1 t2
        | _ => none)
      else match (if w = "list" then rgOf args else none) with
        | some a => if c.blt "range" && !isStar a then (f a).map fun x => .blt .listRange (.cons false x .nil) else none
        | none => match (if w = "list" then enOf args else none) with
          | some a => if c.blt "enumerate" && !isStar a then (f a).map fun x => .blt .listEnum (.cons false x .nil) else none
          | none => match (if w = "list" then vlOf c args else none) with
            | some a => (f a).map fun x => .blt .listVals (.cons false x .nil)
            | none => match bltOf w, cXs f args with
              | some b, some xs => if args.isEmpty then none else some (.blt b xs)
              | _, _ => none
  else none
def bmOf (w : Str) : Option Bm :=
  if w = "append" then some .append else if w = "pop" then some .pop else if w = "extend" then some .extend else if w = "clear" then some .clear else if w = "reverse" then some .reverse else if w = "join" then some .join else if w = "get" then some .get else if w = "split" then some .split else if w = "count" then some .count else if w = "index" then some .index else none
/-- x.pop(k) with a name: of a dict -/
def isNm1 : List Expr → Bool
  | [.Name _ _] => true
  | _ => false
def bmOfA (w : Str) (args : List Expr) : Option Bm := if w = "pop" ∧ isNm1 args = true then some .dpop else if w = "clear" ∧ args.isEmpty = false then none else bmOf w
def cCallM (f : Expr → Option Ex) (c : Cc) (o : Expr) (w : Str) (apos : Pos) (args : List Expr) (pos : Pos) : Option Ex :=
  if !isCall0 o && (apos.endLine == pos.line) && decide (args.length < 29) then match c.mt w with
    | some n => (match f o, cXs f args with
      | some x, some xs => some (.meth x n xs)
      | _, _ => none)
    | none => (match bmOfA w args, f o, cXs f args with
      | some b, some x, some xs => some (.bm b x xs)
      | _, _, _ => none)
  else none
/-- o.m(.., k=v) -/
def cCallMK (f : Expr → Option Ex) (c : Cc) (o : Expr) (w : Str) (apos : Pos) (args : List Expr) (kws : List Keyword) (pos : Pos) : Option Ex :=
  if !isCall0 o && (apos.endLine == pos.line) && decide (args.length + kws.length < 29) && !args.isEmpty then match c.mw w (kws.map (·.arg)), f o, cXs f args, cXs f (kws.map (·.value)) with
    | some n, some x, some xs, some ys => some (.meth x n (xs.cat ys))
    | _, _, _, _ => none
  else none
/-- f(.., k=v): all keyword-only ones, in order -/
def cCallK (f : Expr → Option Ex) (c : Cc) (w : Str) (args : List Expr) (kws : List Keyword) : Option Ex :=
  if c.isGl w && !(w == "__debug__") then match c.gl w, cXs f args, cXs f (kws.map (·.value)) with
    | some (.fn i np kw), some xs, some ys => if args.length = np ∧ args ≠ [] ∧ kws.map (·.arg) = kw.map (fun p => some p.1) ∧ kw ≠ [] then some (.call i (xs.cat ys)) else none
    | _, _, _ => none
  else none
def cCmp (f : Expr → Option Ex) (a : Expr) (ops : List CmpOp) (bs : List Expr) : Option Ex := match ops, bs with
  | [op], [b] => if behindInMarks op b then none else (match opC op, f a, f b with
    | some o, some x, some y => some (.cmp o x y)
    | _, _, _ => none)
  | [op, op'], [b, d] => if lastMarks [op, op'] [b, d] then none else (match opC op, opC op', f a, f b, f d with
    | some o, some o', some x, some y, some z => if o.isEq || o'.isEq then none else some (.chain o o' x y z)
    | _, _, _, _, _ => none)
  | _, _ => none
/-- a comparison with a written text -/
def cCmpK (f : Expr → Option Ex) : Expr → Option Ex
  | .Compare a [op] [.Constant (.str k) j cp] _ => if behindInMarks op (.Constant (.str k) j cp) then none else (match opC op, f a with
    | some o, some x => some (.cmp o x (.c (.str k.cps.toList)))
    | _, _ => none)
  | _ => none
def cPart (f : Expr → Option Ex) : Option Expr → Option (Bool × Ex)
  | none => some (false, .c .non)
  | some e => (f e).map fun x => (true, x)
/-- a dict of the module -/
def wdOf (c : Cc) : Expr → Option (List (D × D))
  | .Name w _ => if c.isGl w && !(w == "__debug__") then (match c.gl w with
    | some (.dic kvs) => some kvs
    | _ => none) else none
  | _ => none
/-- as a value -/
def compF (rec : Bool → Cc → Expr → Option Ex) (c : Cc) (e : Expr) : Option Ex := match e with
  | .Constant (.int i) _ _ => some (.c (.int i))
  | .Constant (.bool b) _ _ => some (.c (.bl b))
  | .Constant .none _ _ => some (.c .non)
  | .Constant (.str x) _ _ => some (.c (.str x.cps.toList))
  | .Name w _ => if (w == "__debug__") || (w == "__classdict__") then none else
      if c.isVis w then (ixOf c.N w).map .v else if c.isGl w then (match c.gl w with
        | some (.con d) => some (.c d)
        | _ => none) else none
  | .BinOp a op b _ => (match opB op, rec false c a, rec false c b with
    | some o, some x, some y => some (.bin o x y)
    | _, _, _ => none)
  | .UnaryOp .USub a _ => (rec false c a).map .neg
  | .UnaryOp .Not a _ => (rec false c a).map .not
  | .Compare a ops bs _ => cCmp (rec false c) a ops bs
  | .BoolOp .And (a :: b :: r) p => (match rec false c a, rec false c (.BoolOp .And (b :: r) p) with
    | some x, some y => some (.and x y)
    | _, _ => none)
  | .BoolOp .Or (a :: b :: r) p => (match rec false c a, rec false c (.BoolOp .Or (b :: r) p) with
    | some x, some y => some (.or x y)
    | _, _ => none)
  | .BoolOp _ [a] _ => rec false c a
  | .IfExp t a b _ => (match rec true c t, rec false c a, rec false c b with
    | some x, some y, some z => some (.ite x y z)
    | _, some y, none => (match cCmpK (rec false c) t, cRep (rec false c) b with
      | some x, some z => some (.ite x y z)
      | _, _ => none)
    | _, _, _ => none)
  | .Subscript a (.Slice none none (some (.UnaryOp .USub (.Constant (.int 1) _ _) _)) _) _ => (rec false c a).map .rev
  | .Subscript a (.Slice lo hi none _) _ => (match rec false c a, cPart (rec false c) lo, cPart (rec false c) hi with
    | some x, some (hl, l), some (hh, h) => some (.sl x hl l hh h)
    | _, _, _ => none)
  | .Attribute o w _ => if isCall0 o then none else (match c.fd w, rec false c o with
    | some n, some x => some (.fld x n)
    | _, _ => none)
  | .Subscript a b _ => if isSlice b then none else (match wdOf c a with
    | some kvs => (rec false c b).map fun y => .wget kvs y
    | none => (match rec false c a, rec false c b with
      | some x, some y => some (.sub x y)
      | _, _ => none))
  | .Tuple es _ _ => (cXsS (rec false c) es).map .tup
  | .List es _ => (cXsS (rec false c) es).map .lst
  | .Dict ks vs _ => if decide (ks.length ≤ 15) then (cPairs (rec false c) ks vs).map .dct else none
  | .Call (.Name w _) args [] _ => cCallN (rec false c) c w args
  | .Call (.Attribute o w apos) args [] pos => cCallM (rec false c) c o w apos args pos
  | .Call (.Name w _) args (k :: ks) _ => cCallK (rec false c) c w args (k :: ks)
  | .Call (.Attribute o w apos) args (k :: ks) pos => cCallMK (rec false c) c o w apos args (k :: ks) pos
  | .ListComp elt gs scope _ => cLc rec c elt gs scope
  | .DictComp ky vl gs scope _ => cDc rec c ky vl gs scope
  | _ => none
/-- sorted(e, key=lambda a: (len(a), a)) -/
def cLam (f : Expr → Option Ex) (c : Cc) : Expr → Option Ex
  | .Call (.Name w _) [e] [⟨some k, .Lambda ⟨[], [⟨a, none, _⟩], none, [], [], none, []⟩ (.Tuple [.Call (.Name l _) [.Name a2 _] [] _, .Name a3 _] _ _) scope _, _⟩] _ => match c.lam with
    | some i => if decide (w = "sorted") && decide (k = "key") && decide (l = "len") && decide (a2 = a) && decide (a3 = a) && c.blt "sorted" && c.fr "len" && !isStar e && lenScopeB a scope && !(a == "__debug__") then (f e).map fun x => .blt (.sortLen i) (.cons false x .nil) else none
    | none => none
  | _ => none
/-- a lambda that the table knows -/
def lmIs (ps : Arguments) (body : Expr) (scope : Scope) (p : Nat × LamT) : Bool := eqArgs ps p.2.ps && (decide (scope = p.2.scope) && eqE 60 body p.2.body)
def cLm (c : Cc) (ps : Arguments) (body : Expr) (scope : Scope) : Option Ex := match c.lam with
  | some i => (match c.lms.find? (lmIs ps body scope) with
    | some p => if decide (p.2.q = c.q ++ "<lambda>") && (scope.names.all (fun y => !decide (y.2 = .free)) && p.2.caps.isEmpty) then some (.lam p.1 i) else none
    | none => none)
  | none => none
/-- sorted(set(e)); [.. for .. in .. for .. in NAME] -/
def cMore (rec : Bool → Cc → Expr → Option Ex) (c : Cc) : Expr → Option Ex
  | .Call (.Name w _) [.Call (.Name w2 _) [e] [] _] [] _ => if decide (w = "sorted") && decide (w2 = "set") && c.blt "sorted" && c.blt "set" && !isStar e then (rec false c e).map fun x => .blt .sortSet (.cons false x .nil) else none
  | .ListComp elt [⟨tg, it, [], 0⟩, ⟨tg2, .Name w p, [], 0⟩] scope _ => (match cTg (blkC c scope) tg, cI (rec false c) c tg it, cTg (blkC c scope) tg2, cI (rec false (blkC c scope)) (blkC c scope) tg2 (.Name w p), rec false (blkC c scope) elt with
    | some t, some (k, es), some t2, some (k2, es2), some ex => if blkOk c scope && (tgNames t).all (fun i => decide (i ∈ (ownOf c scope).map (·.2))) && (tgNames t2).all (fun i => decide (i ∈ (ownOf c scope).map (·.2))) then some (.lc2 ((ownOf c scope).map (·.2)) t k es t2 k2 es2 ex) else none
    | _, _, _, _, _ => none)
  | .Attribute o w _ => if isCall0 o then none else (match c.pr w, rec false c o with
    | some n, some x => some (.prop x n)
    | _, _ => none)
  | .Lambda ps body scope _ => cLm c ps body scope
  | .BinOp (.Constant (.int a) _ _) .Pow (.Constant (.int b) _ _) _ => if decide (0 ≤ b) && (decide (b ≤ 1000) && decide (a.natAbs < 2 ^ 64)) then some (.c (.int (a ^ b.toNat))) else none
  | .Call (.Name f _) [.Name n _, .Name w _] [] _ => (match c.er with
    | some (n', j, k) => if decide (f = "isinstance") && decide (n = n') && c.isGl f && c.isGl w && !(w == "__debug__") then (excV c k w).map fun b => .isx j b else none
    | none => none)
  | .Call (.Name w _) [.Name v vp] [] _ => if decide (w = "len") && decide (v = "late") && c.blt "len" then (match c.ln, rec false c (.Name v vp) with
    | some n, some x => some (.blt .size (.cons false (.meth x n .nil) .nil))
    | _, _ => none) else none
  | _ => none
/-- captured names: read; calls out of a def whose names are captured, of such a def; lambdas that capture -/
def capL (c : Cc) (scope : Scope) (caps : List Str) : Bool := scope.names.all (fun y => !decide (y.2 = .free) || caps.contains y.1) && caps.all fun x => c.ownN.contains x && scope.names.any fun y => decide (y = (x, NameKind.free))
/-- where the captured names stand -/
def slotsC (c : Cc) : List Nat := c.cps.map fun x => if c.ownN.contains x then (ixOf c.N x).getD c.N.length else c.N.length
def cNew (f : Expr → Option Ex) (c : Cc) : Expr → Option Ex
  | .Name w _ => if !(w == "__debug__") && (!(w == "__classdict__") && (decide (c.kind w = some .free) && c.ownN.isEmpty)) then (ixOf c.cps w).map .cap else none
  | .Call (.Name w _) args [] _ => if c.isGl w && !(w == "__debug__") then (match c.gl w, cXs f args with
    | some (.mkr i np), some xs => if args.length = np then some (.callM i xs) else none
    | some (.fn i np []), some xs => if (args.length = np ∧ args.isEmpty = false) ∧ c.ownN.isEmpty = false then some (.callG i xs (slotsC c)) else none
    | _, _ => none) else none
  | .Lambda ps body scope _ => match c.lam with
    | some i => (match c.lms.find? (lmIs ps body scope) with
      | some p => if decide (p.2.q = c.q ++ "<lambda>") && (!c.ownN.isEmpty && capL c scope p.2.caps) then some (.lam p.1 i) else none
      | none => none)
    | none => none
  | _ => none
/-- what is tested by its value -/
def byValue : Expr → Bool
  | .UnaryOp .Not _ _ | .BoolOp .. | .IfExp .. | .Compare .. => false
  | _ => true
/-- as a test -/
def compT (rec : Bool → Cc → Expr → Option Ex) (c : Cc) (e : Expr) : Option Ex := match e with
  | .UnaryOp .Not a _ => (rec true c a).map .not
  | .Compare a ops bs _ => cCmp (rec false c) a ops bs
  | .BoolOp .And (a :: b :: r) p => (match rec true c a, rec true c (.BoolOp .And (b :: r) p) with
    | some x, some y => some (.and x y)
    | _, _ => none)
  | .BoolOp .Or (a :: b :: r) p => (match rec true c a, rec true c (.BoolOp .Or (b :: r) p) with
    | some x, some y => some (.or x y)
    | _, _ => none)
  | .BoolOp _ [a] _ => rec true c a
  | e => if byValue e then rec false c e else none
def comp : Nat → Bool → Cc → Expr → Option Ex
  | 0, _, _, _ => none
  | n + 1, false, c, e => match cLam (comp n false c) c e with
    | some x => some x
    | none => match cMore (comp n) c e with
    | some x => some x
    | none => match cNew (comp n false c) c e with
    | some x => some x
    | none => compF (comp n) c e
  | n + 1, true, c, e => compT (comp n) c e

/-! ### they mean the same -/
def isBool : Expr → Bool
  | .BoolOp .. => true
  | _ => false
structure RecOk (rec : Bool → Cc → Expr → Option Ex) : Prop where
  val : ∀ {m : Md} {E : XK} {X : Cx} {c : Cc} {e : Expr} {x : Ex}, CcOk m E X c → rec false c e = some x → PE X e (tEv m E X x)
  test : ∀ {m : Md} {E : XK} {X : Cx} {c : Cc} {e : Expr} {x : Ex}, CcOk m E X c → rec true c e = some x → PT X e (tEvT m E X x)
  bool : ∀ {m : Md} {E : XK} {X : Cx} {c : Cc} {e : Expr} {x : Ex}, CcOk m E X c → rec true c e = some x → isBool e = true → PW X e (tEvT m E X x)
theorem star_no {e : Expr} {es : List Expr} {env : PySem.Env} (h : isStar e = false) : starEach (e :: es) env = (false, eval e env) :: starEach es env := by
  cases e <;> first | rfl | cases h
section
variable {m : Md} {E : XK} {X : Cx} {c : Cc} {f : Expr → Option Ex} {e a b d : Expr} {x y : Ex} {pos : Pos}
theorem cXs_ok (hf : ∀ {e x}, f e = some x → PE X e (tEv m E X x)) : ∀ {es : List Expr} {xs : Xs}, cXs f es = some xs → PA X es (tEvX m E X xs) ∧ (starEach es X.env).all (fun p => !p.1) = true ∧ xs.plain = some es.length
  | [], xs, h => by
    cases h
    exact ⟨sa_nil, rfl, rfl⟩
  | e :: r, xs, h => by
    unfold cXs at h
    split at h
    · cases h
    · rename_i hs
      split at h
      · rename_i x y hx hy
        cases h
        obtain ⟨h1, h2, h3⟩ := cXs_ok hf hy
        have e1 := star_no (env := X.env) (es := r) (by simpa using hs)
        refine ⟨sa_cons (hf hx) h1 e1, ?_, ?_⟩
        · rw [e1]; simpa using h2
        · simp only [Xs.plain, h3, Option.map_some, List.length_cons]
      · cases h
theorem evX_app0 {T : Tbl} {F : Nat} {call : Caller} {env : Env} {st : Store} : ∀ ds : List D, evX T F call (Xs.ofC ds) env st = .ok ds st
  | [] => by simp only [Xs.ofC, evX]
  | d :: ds => by
    simp only [Xs.ofC, evX, evE, R.bind, if_false, Bool.false_eq_true, evX_app0 ds]
theorem evX_app {T : Tbl} {F : Nat} {call : Caller} {env : Env} (ds : List D) : ∀ (xs : Xs) (st : Store), evX T F call (xs.app ds) env st = (evX T F call xs env st).bind fun es s => .ok (es ++ ds) s
  | .nil, st => by simp only [Xs.app, evX_app0, evX, R.bind, List.nil_append]
  | .cons b e r, st => by
    simp only [Xs.app, evX]
    cases evE T F call e env st with
    | ok d s =>
      simp only [R.bind, evX_app ds r]
      cases b with
      | false => cases evX T F call r env s <;> rfl
      | true =>
        simp only [if_true]
        cases starOf d s with
        | none => rfl
        | some zs => cases evX T F call r env s <;> simp [R.bind]
    | exc c x s => rfl
    | stuck => rfl
/-- f(e, ..), what lacks filled up -/
theorem se_callD {k i : Nat} {g : Addr} {fd : FuncData} {ps : List Str} {w : Str} {es : List Expr} {ys : Xs} {p : Pos} {dvs : List V} {dus : List Value} {dfl : List D} (F : FnOk X.prog X.w X.K X.mg X.base (L2.CX X.prog X.w) k g fd ps (spI m X.prog X.w X.K m.call i ps.length)) (hr : Room k X.A) (hg : Gl X w) (hm : X.mg w = some (.ref g)) (hk : PySem.W.keepIn X.K (.ref g) = true)
    (hb : Binds X.K fd ps dus) (hv : Vals dvs dus) (hd : ∀ ρ H, Reps X.K ρ H dfl dvs) (hx : Passes (L2.CX X.prog X.w) X E) {n : Nat} (hl : ys.plain = some n) (hps : ps.length = n + dfl.length) (ha : PA X (e :: es) (tEvX m E X ys)) (hdb : (w == ("__debug__" : Str)) = false)
    (he : starEach (e :: es) X.env = (false, eval e X.env) :: starEach es X.env) (hpl : (backTo pos (starEach es X.env)).any (·.1) = false) : PE X (.Call (.Name w p) (e :: es) [] pos) (tEv m E X (.call i (ys.app dfl))) :=
  imE (pe_call F hr hg hm hk hb hv hx ha hdb he hpl) fun σ H Q ⟨ρ, env, st, hen, S, hf⟩ => by
    simp only [evE, evX_app] at hf
    cases hr' : evX m.T m.F m.call ys env st with
    | ok ds st1 =>
      refine ⟨ρ, env, st, hen, S, ?_⟩
      rw [hr'] at hf ⊢
      intro ρ1 H1 vs s1 S1 r1
      have r2 := Reps.append r1 (hd ρ1 H1)
      exact ⟨by rw [← r2.length, List.length_append, evX_len _ _ _ _ _ hl hr', hps], ρ1, st1, ds ++ dfl, S1, r2, (Fin.step hf s1).k⟩
    | exc c x' s' => rw [hr'] at hf; exact ⟨ρ, env, st, hen, S, by rw [hr']; exact hf⟩
    | stuck => rw [hr'] at hf; exact hf.elim
theorem se_callD0 {k i : Nat} {g : Addr} {fd : FuncData} {ps : List Str} {w : Str} {p : Pos} {dvs : List V} {dus : List Value} {dfl : List D} (F : FnOk X.prog X.w X.K X.mg X.base (L2.CX X.prog X.w) k g fd ps (spI m X.prog X.w X.K m.call i ps.length)) (hr : Room k X.A) (hg : Gl X w) (hm : X.mg w = some (.ref g)) (hk : PySem.W.keepIn X.K (.ref g) = true)
    (hb : Binds X.K fd ps dus) (hv : Vals dvs dus) (hd : ∀ ρ H, Reps X.K ρ H dfl dvs) (hx : Passes (L2.CX X.prog X.w) X E) (hps : ps.length = dfl.length) (hdb : (w == ("__debug__" : Str)) = false) : PE X (.Call (.Name w p) [] [] pos) (tEv m E X (.call i (Xs.app .nil dfl))) :=
  imE (pe_call0 F hr hg hm hk hb hv hx hdb) fun σ H Q ⟨ρ, env, st, hen, S, hf⟩ => by
    simp only [evE, Xs.app, evX_app0, R.bind] at hf
    have r2 := hd ρ H
    exact ⟨by rw [List.nil_append, ← r2.length, hps], ρ, st, dfl, S, r2, hf.k⟩
/-- keywords -/
theorem pk_of (hf : ∀ {e x}, f e = some x → PE X e (tEv m E X x)) : ∀ {kws : List Keyword} {ys : Xs}, cXs f (kws.map (·.value)) = some ys → PK X kws (tEvX m E X ys)
  | [], ys, h => by
    cases h
    exact ⟨fun pos pins s σ H Q inv ⟨ρ, env, st, he, S, hr⟩ => pk_nil.run pos pins s σ H Q inv (hr.now S .nil)⟩
  | ⟨nm, e, kp⟩ :: kws, ys, h => by
    simp only [List.map_cons, cXs] at h
    split at h
    · cases h
    · split at h
      · rename_i x y hx hy
        cases h
        refine ⟨fun pos pins s σ H Q inv ⟨ρ, env, st, he, S, hr⟩ => (pk_cons (nm := nm) (kpos := kp) (hf hx) (pk_of hf hy)).run pos pins s σ H Q inv ?_⟩
        simp only [evX, if_false, Bool.false_eq_true] at hr
        refine ⟨ρ, env, st, he, S, hr.bind fun d st1 ρ1 H1 v s1 S1 r1 hf1 => ?_⟩
        refine ⟨ρ1, env, st1, he.mono S s1, S1, hf1.bind fun ds st2 ρ2 H2 vs s2 S2 r2 hf2 => ?_⟩
        exact hf2.now S2 (.cons (Rep.mono S1 s2 _ _ r1) r2)
      · cases h
theorem kw_names {env : PySem.Env} : ∀ kws : List Keyword, (backToKw pos (keywordEach kws env)).map (·.1) = kws.map (·.arg)
  | [] => rfl
  | ⟨nm, e, kp⟩ :: kws => by
    show nm :: (backToKw pos (keywordEach kws env)).map (·.1) = nm :: kws.map (·.arg)
    rw [kw_names kws]
theorem se_callK {k i np : Nat} {g : Addr} {fd : FuncData} {ps : List Str} {w : Str} {es : List Expr} {ys zs : Xs} {p : Pos} {kws : List Keyword} {ks : List Str} (F : FnOk X.prog X.w X.K X.mg X.base (L2.CX X.prog X.w) k g fd ps (spI m X.prog X.w X.K m.call i ps.length)) (hr : Room k X.A) (hg : Gl X w) (hm : X.mg w = some (.ref g)) (hk : PySem.W.keepIn X.K (.ref g) = true)
    (hb : ∀ (s : Shared) (us ws : List Value), us.length = np → ws.length = ks.length → BindsTo s fd ⟨us, ks.zip ws⟩ (ps.zip (us ++ ws))) (hx : Passes (L2.CX X.prog X.w) X E) (hl : ys.plain = some np) (hl2 : zs.plain = some ks.length) (hps : ps.length = np + ks.length) (ha : PA X (e :: es) (tEvX m E X ys)) (hkw : PK X kws (tEvX m E X zs)) (hdb : (w == ("__debug__" : Str)) = false)
    (hks : kws.map (·.arg) = ks.map some) (he : starEach (e :: es) X.env = (false, eval e X.env) :: starEach es X.env) (hpl : (backTo pos (starEach es X.env)).any (·.1) = false) : PE X (.Call (.Name w p) (e :: es) kws pos) (tEv m E X (.call i (ys.cat zs))) := by
  have hn : (backToKw pos (keywordEach kws X.env)).map (·.1) = ks.map some := (kw_names kws).trans hks
  have hkb : KBn X.K fd ps np ks (fun us ws => us ++ ws) (fun vs zs => vs ++ zs) := ⟨fun s us ws _ h1 h2 => hb s us ws h1 h2, fun r1 r2 => r1.append r2⟩
  have hall : (backToKw pos (keywordEach kws X.env)).all (·.1.isSome) = true := by
    have : (backToKw pos (keywordEach kws X.env)).all (·.1.isSome) = ((backToKw pos (keywordEach kws X.env)).map (·.1)).all Option.isSome := by rw [List.all_map]; rfl
    rw [this, hn]
    simp
  have hfm : (backToKw pos (keywordEach kws X.env)).filterMap (·.1) = ks := by
    have : (backToKw pos (keywordEach kws X.env)).filterMap (·.1) = ((backToKw pos (keywordEach kws X.env)).map (·.1)).filterMap id := by rw [List.filterMap_map]; rfl
    rw [this, hn]
    simp
  refine imE (pe_callN F hr hg hm hk hkb hx ha hkw hall hfm hdb he ?_) fun σ H Q ⟨ρ, env, st, hen, S, hf⟩ => ?_
  · rw [he]
    show ((false || (backTo pos (starEach es X.env)).any (·.1)) || _) = false
    rw [hpl, Bool.false_or, Bool.false_or]
    rw [List.any_eq_false]
    intro q hq
    have := List.all_eq_true.mp hall q hq
    cases hq1 : q.1 with
    | none => rw [hq1] at this; cases this
    | some _ => simp
  · simp only [evE, evX_cat, bind_assoc] at hf
    cases hr' : evX m.T m.F m.call ys env st with
    | ok ds st1 =>
      refine ⟨ρ, env, st, hen, S, ?_⟩
      rw [hr'] at hf ⊢
      intro ρ1 H1 vs s1 S1 r1
      have hf1 : Fin m E X ρ1 H1 ((evX m.T m.F m.call zs env st1).bind fun es s => m.call i (ds ++ es) s) (rD X) Q := Fin.step hf s1
      cases hr2 : evX m.T m.F m.call zs env st1 with
      | ok es st2 =>
        refine ⟨ρ1, env, st1, hen.mono S s1, S1, ?_⟩
        rw [hr2] at hf1 ⊢
        intro ρ2 H2 us s2 S2 r2
        have r3 := Reps.append (Reps.mono S1 s2 _ _ r1) r2
        have l1 := evX_len _ _ _ _ _ hl hr'
        have l2 := evX_len _ _ _ _ _ hl2 hr2
        exact ⟨by rw [← Reps.length r1]; exact l1, by rw [← Reps.length r2]; exact l2, by rw [← r3.length, List.length_append, l1, l2, hps], ρ2, st2, ds ++ es, S2, r3, (Fin.step hf1 s2).k⟩
      | exc c x' s' => rw [hr2] at hf1; exact ⟨ρ1, env, st1, hen.mono S s1, S1, by rw [hr2]; exact hf1⟩
      | stuck => rw [hr2] at hf1; exact hf1.elim
    | exc c x' s' => rw [hr'] at hf; exact ⟨ρ, env, st, hen, S, by rw [hr']; exact hf⟩
    | stuck => rw [hr'] at hf; exact hf.elim
theorem plain_back {es : List Expr} {env : PySem.Env} (h : (starEach es env).all (fun p => !p.1) = true) : (backTo pos (starEach es env)).any (·.1) = false := by
  unfold backTo
  rw [List.any_map]
  rw [List.any_eq_false]
  intro p hp
  have := List.all_eq_true.mp h p hp
  simpa using this
theorem xs_tail (hf : ∀ {e x}, f e = some x → PE X e (tEv m E X x)) {es : List Expr} {xs : Xs} (h : cXs f (e :: es) = some xs) : starEach (e :: es) X.env = (false, eval e X.env) :: starEach es X.env ∧ (backTo pos (starEach es X.env)).any (·.1) = false := by
  unfold cXs at h
  split at h
  · cases h
  · rename_i hs
    split at h
    · rename_i x y hx hy
      exact ⟨star_no (by simpa using hs), plain_back (cXs_ok hf hy).2.1⟩
    · cases h
theorem gl_of (ok : CcOk m E X c) {w : Str} (h : c.isGl w = true) : Gl X w := by
  have := of_decide_eq_true h
  unfold Cc.kind at this
  show X.env.scope.names.lookup w = _
  rw [ok.sc]; exact this
theorem blt_of (ok : CcOk m E X c) {w : Str} (h : c.blt w = true) : Gl X w ∧ X.mg w = none := by
  unfold Cc.blt at h
  rw [Bool.and_eq_true] at h
  exact ⟨gl_of ok h.1, ok.fr w h.2⟩
theorem cCmp_ok (ok : CcOk m E X c) (hf : ∀ {e x}, f e = some x → PE X e (tEv m E X x)) {ops : List CmpOp} {bs : List Expr} (h : cCmp f a ops bs = some x) : PE X (.Compare a ops bs pos) (tEv m E X x) ∧ PT X (.Compare a ops bs pos) (tEvT m E X x) := by
  have key : ∀ (op : CmpOp) (o : Cop), opC op = some o → OpR X (compareOp op) (R2D m E X (cmpV o)) := fun op o ho => by
    cases op <;> (cases ho)
    · exact cmp_eq ok.u
    · exact cmp_ne ok.u
    · exact cmp_lt
    · exact cmp_le
    · exact cmp_gt
    · exact cmp_ge
    · exact cmp_is
    · exact cmp_isnot
    · exact cmp_in ok.u
    · exact cmp_notin ok.u
  have keyC : ∀ (op : CmpOp) (o : Cop), opC op = some o → OpR X (compareOp op) (R2D m E X (cmpC m.T m.call o)) := fun op o ho => by
    have hk := key op o ho
    cases op <;> (cases ho)
    · exact opr_eqO ok.u ok.pass ok.cl ok.eqo
    · exact opr_neO ok.u ok.pass ok.cl ok.eqo
    all_goals exact opr_plain ⟨(fun z => nomatch z), (fun z => nomatch z)⟩ hk
  unfold cCmp at h
  split at h
  · split at h
    · cases h
    · rename_i hb
      have hb := Bool.eq_false_iff.mpr hb
      split at h
      · rename_i o x y ho hx hy
        cases h
        exact ⟨se_eq (keyC _ _ ho) hb (hf hx) (hf hy), st_cmp (keyC _ _ ho) hb (hf hx) (hf hy)⟩
      · cases h
  · split at h
    · cases h
    · rename_i hb
      have hb := Bool.eq_false_iff.mpr hb
      split at h
      · rename_i o o' x y z ho ho' hx hy hz
        split at h
        · cases h
        · cases h
          exact ⟨se_chain (key _ _ ho) (key _ _ ho') hb (hf hx) (hf hy) (hf hz), st_chain (key _ _ ho) (key _ _ ho') hb (hf hx) (hf hy) (hf hz)⟩
      · cases h
  · cases h

theorem isVis_of (ok : CcOk m E X c) {w : Str} (h : c.isVis w = true) : Vis X.env.scope w := by
  unfold Cc.isVis at h
  simp only [Bool.or_eq_true, decide_eq_true_eq, Cc.kind, ← ok.sc] at h
  rcases h with (h | h) | h
  · exact .inl h
  · exact .inr (.inl h)
  · exact .inr (.inr h)
theorem canSet_of (ok : CcOk m E X c) {w : Str} (h : c.canSet w = true) : Loc X.env.scope w ∧ (X.fn w = true ∨ X.env.scope.names.lookup w = some .local) := by
  unfold Cc.canSet Cc.isLoc at h
  simp only [Bool.and_eq_true, Bool.or_eq_true, decide_eq_true_eq, Cc.kind, ← ok.sc, ← ok.fn] at h
  exact h
theorem cNm_ok (ok : CcOk m E X c) {i : Nat} (h : cNm c e = some i) : ∃ w p, e = .Name w p ∧ X.N[i]? = some w ∧ Loc X.env.scope w ∧ (X.fn w = true ∨ X.env.scope.names.lookup w = some .local) := by
  unfold cNm at h
  split at h
  · split at h
    · rename_i w p hc
      obtain ⟨h1, h2⟩ := canSet_of ok hc
      exact ⟨w, p, rfl, by rw [ok.N]; exact ixOf_ok h, h1, h2⟩
    · cases h
  · cases h
theorem cNms_ok (ok : CcOk m E X c) : ∀ {es : List Expr} {is : List Nat}, cNms c es = some is → Paired (fun e i => ∃ w p, e = Expr.Name w p ∧ X.N[i]? = some w ∧ Loc X.env.scope w ∧ (X.fn w = true ∨ X.env.scope.names.lookup w = some .local)) es is
  | [], is, h => by cases h; exact .nil
  | e :: r, is, h => by
    unfold cNms at h
    split at h
    · rename_i i is hi hr
      cases h
      exact .cons (cNm_ok ok hi) (cNms_ok ok hr)
    · cases h
theorem cTg_ok (ok : CcOk m E X c) {tg : Expr} {t : Tg} (h : cTg c tg = some t) : TgOk X tg t := by
  unfold cTg at h
  split at h
  · obtain ⟨i, hi, rfl⟩ := Option.map_eq_some_iff.mp h
    exact cNm_ok ok hi
  · obtain ⟨is, hi, rfl⟩ := Option.map_eq_some_iff.mp h
    exact ⟨_, _, _, rfl, cNms_ok ok hi⟩
  · cases h
theorem folded_no {env : PySem.Env} (h : isSet e = false) : ∀ x, foldedSetIterable e env x = pure x := fun x => by
  cases e <;> first | rfl | cases h
theorem cIv_ok (hf : ∀ {e x}, f e = some x → PE X e (tEv m E X x)) {tg : Expr} {k : Itk} {es : Xs} (h : cIv f e = some (k, es)) (hs : isSet e = false) : PI X tg e (iEv m E X k es) ∧ ∀ x, foldedSetIterable e X.env x = pure x := by
  unfold cIv at h
  obtain ⟨x, hx, h⟩ := Option.map_eq_some_iff.mp h
  cases h
  exact ⟨it_val (hf hx), folded_no hs⟩
theorem base_no {o : Expr} {w : Str} {env : PySem.Env} (h : isCall0 o = false) : attributeBase o w env (eval o env) = eval o env := by
  cases o <;> try rfl
  rename_i fn args kw p
  cases args with
  | nil => cases h
  | cons a r => cases fn <;> rfl
theorem opC_ok (ok : CcOk m E X c) : ∀ (op : CmpOp) (o : Cop), opC op = some o → OpR X (compareOp op) (R2D m E X (cmpC m.T m.call o)) := by
  have key : ∀ (op : CmpOp) (o : Cop), opC op = some o → OpR X (compareOp op) (R2D m E X (cmpV o)) := fun op o ho => by
    cases op <;> (cases ho)
    · exact cmp_eq ok.u
    · exact cmp_ne ok.u
    · exact cmp_lt
    · exact cmp_le
    · exact cmp_gt
    · exact cmp_ge
    · exact cmp_is
    · exact cmp_isnot
    · exact cmp_in ok.u
    · exact cmp_notin ok.u
  intro op o ho
  have hk := key op o ho
  cases op <;> (cases ho)
  · exact opr_eqO ok.u ok.pass ok.cl ok.eqo
  · exact opr_neO ok.u ok.pass ok.cl ok.eqo
  all_goals exact opr_plain ⟨(fun z => nomatch z), (fun z => nomatch z)⟩ hk
theorem cCmpK_ok (ok : CcOk m E X c) (hf : ∀ {e x}, f e = some x → PE X e (tEv m E X x)) {e : Expr} {x : Ex} (h : cCmpK f e = some x) : PTk X e (tEvT m E X x) := by
  unfold cCmpK at h
  split at h
  · split at h
    · cases h
    · rename_i hb
      have hb := Bool.eq_false_iff.mpr hb
      split at h
      · rename_i o x ho hx
        cases h
        exact stk_cmp (opC_ok ok _ _ ho) hb (hf hx) pek_c
      · cases h
  · cases h
theorem cRep1_ok1 (hf : ∀ {e x}, f e = some x → PE X e (tEv m E X x)) {e : Expr} {x : Ex} (h : cRep1 f e = some x) : PET X e (tEv m E X x) := by
  unfold cRep1 at h
  split at h
  · split at h
    · rename_i hc
      simp only [Bool.and_eq_true, decide_eq_true_eq] at hc
      obtain ⟨⟨⟨rfl, h2⟩, h3⟩, h4⟩ := hc
      obtain ⟨ox, ho, rfl⟩ := Option.map_eq_some_iff.mp h
      exact set_rep1 (hf ho) (by simpa using h2) (base_no (by simpa using h3)) h4
    · cases h
  · cases h
theorem cRep1_ok2 {f : Expr → Option Ex} (hf : ∀ {e x}, f e = some x → PET X e (tEv m E X x)) {e : Expr} {x : Ex} (h : cRep1 f e = some x) : PET X e (tEv m E X x) := by
  unfold cRep1 at h
  split at h
  · split at h
    · rename_i hc
      simp only [Bool.and_eq_true, decide_eq_true_eq] at hc
      obtain ⟨⟨⟨rfl, h2⟩, h3⟩, h4⟩ := hc
      obtain ⟨ox, ho, rfl⟩ := Option.map_eq_some_iff.mp h
      exact set_rep2 (hf ho) (by simpa using h2) (base_no (by simpa using h3)) h4
    · cases h
  · cases h
theorem cRep_ok (hf : ∀ {e x}, f e = some x → PE X e (tEv m E X x)) {e : Expr} {x : Ex} (h : cRep f e = some x) : PET X e (tEv m E X x) := by
  unfold cRep at h
  split at h
  · rename_i y hy
    cases h
    exact cRep1_ok1 hf hy
  · exact cRep1_ok2 (cRep1_ok1 hf) h
theorem cPairs_ok (hf : ∀ {e x}, f e = some x → PE X e (tEv m E X x)) : ∀ {ks : List (Option Expr)} {vs : List Expr} {xs : Xs}, cPairs f ks vs = some xs → PPd m E X pos ks vs xs ∧ ks.all (·.isSome) = true ∧ ks.length = vs.length
  | [], [], xs, h => by
    cases h
    exact ⟨ppd_nil, rfl, rfl⟩
  | some k :: ks, v :: vs, xs, h => by
    unfold cPairs at h
    split at h
    · rename_i x y z hx hy hz
      cases h
      obtain ⟨h1, h2, h3⟩ := cPairs_ok hf hz
      exact ⟨ppd_cons (hf hx) (hf hy) h1, by simpa using h2, by simp [h3]⟩
    · rename_i hy hz
      split at h
      · rename_i hr
        cases h
        obtain ⟨h1, h2, h3⟩ := cPairs_ok hf hz
        exact ⟨ppd_consT (cRep_ok hf hr) h1, by simpa using h2, by simp [h3]⟩
      · cases h
    · cases h
  | none :: _, _, _, h => by simp [cPairs] at h
  | [], _ :: _, _, h => by simp [cPairs] at h
  | some _ :: _, [], _, h => by simp [cPairs] at h
theorem cI_ok (ok : CcOk m E X c) (hf : ∀ {e x}, f e = some x → PE X e (tEv m E X x)) {tg : Expr} {k : Itk} {es : Xs} (h : cI f c tg e = some (k, es)) : PI X tg e (iEv m E X k es) ∧ ∀ x, foldedSetIterable e X.env x = pure x := by
  unfold cI at h
  split at h
  · rename_i w p a pos
    split at h
    · rename_i hw
      subst hw
      split at h
      · rename_i hc
        rw [Bool.and_eq_true] at hc
        obtain ⟨x, hx, h⟩ := Option.map_eq_some_iff.mp h
        cases h
        obtain ⟨h1, h2⟩ := blt_of ok hc.1
        have hs : starEach [a] X.env = [(false, eval a X.env)] := star_no (by simpa using hc.2)
        exact ⟨it_rng h1 h2 (sa_cons (hf hx) sa_nil hs) hs, folded_no rfl⟩
      · cases h
    · split at h
      · rename_i hw
        subst hw
        split at h
        · rename_i hc
          simp only [Bool.and_eq_true] at hc
          obtain ⟨⟨hc1, hc2⟩, hc3⟩ := hc
          obtain ⟨x, hx, h⟩ := Option.map_eq_some_iff.mp h
          cases h
          obtain ⟨h1, h2⟩ := blt_of ok hc1
          have hs : starEach [a] X.env = [(false, eval a X.env)] := star_no (by simpa using hc2)
          cases tg <;> first | cases hc3 | skip
          exact ⟨it_enum h1 h2 (sa_cons (hf hx) sa_nil hs) hs, folded_no rfl⟩
        · cases h
      · exact cIv_ok hf h rfl
  · rename_i o w apos pos
    split at h
    · rename_i hw
      simp only [Bool.and_eq_true, decide_eq_true_eq] at hw
      obtain ⟨rfl, _⟩ := hw
      split at h
      · rename_i hc
        simp only [Bool.and_eq_true] at hc
        obtain ⟨⟨hc1, hc2⟩, hc3⟩ := hc
        obtain ⟨x, hx, h⟩ := Option.map_eq_some_iff.mp h
        cases h
        cases tg <;> first | cases hc1 | skip
        exact ⟨it_items (hf hx) (base_no (by simpa using hc2)) hc3, folded_no rfl⟩
      · cases h
    · exact cIv_ok hf h rfl
  · rename_i w p a b pos
    split at h
    · rename_i hw
      subst hw
      split at h
      · rename_i hc
        simp only [Bool.and_eq_true] at hc
        obtain ⟨⟨⟨hc1, hc2⟩, hc3⟩, hc4⟩ := hc
        split at h
        · rename_i x y hx hy
          cases h
          obtain ⟨h1, h2⟩ := blt_of ok hc1
          have s2 : starEach [b] X.env = (false, eval b X.env) :: starEach [] X.env := star_no (by simpa using hc3)
          have s1 : starEach [a, b] X.env = (false, eval a X.env) :: starEach [b] X.env := star_no (by simpa using hc2)
          cases tg <;> first | cases hc4 | skip
          exact ⟨it_zip h1 h2 (sa_cons (hf hx) (sa_cons (hf hy) sa_nil s2) s1) s1 (by rw [s2]; rfl), folded_no rfl⟩
        · cases h
      · cases h
    · exact cIv_ok hf h rfl
  · split at h
    · cases h
    · rename_i hs
      exact cIv_ok hf h (by simpa using hs)
theorem blkOk_ok (ok : CcOk m E X c) {scope : Scope} (h : blkOk c scope = true) : BlkOk X.N X.env.scope scope (ownOf c scope) := by
  unfold blkOk at h
  simp only [Bool.and_eq_true, decide_eq_true_eq, List.all_eq_true] at h
  obtain ⟨⟨⟨⟨h0, h1⟩, h2⟩, h3⟩, h4⟩ := h
  refine ⟨h1, h2, fun p hp => ?_, fun y hy e => ?_, fun y hy e => ?_⟩
  · unfold ownOf at hp
    obtain ⟨q, _, hq⟩ := List.mem_filterMap.mp hp
    split at hq
    · obtain ⟨i, hi, rfl⟩ := Option.map_eq_some_iff.mp hq
      rw [ok.N]; exact ixOf_ok hi
    · cases hq
  · have := h3 y hy
    rw [e] at this
    simp only [Bool.or_eq_true, decide_eq_true_eq, Cc.kind, ← ok.sc] at this
    rcases this with (z | z) | z
    · simp at z
    · exact .inl z
    · exact .inr z
  · have := h4 y hy
    simp only [Bool.or_eq_true, decide_eq_true_eq] at this
    rw [ok.N]
    rcases this with (z | z) | z
    · rcases e with e | e <;> simp [e] at z
    · exact .inl z
    · exact .inr z
theorem tyName_boot {t : Str} {q : String × Ty} (h : tyOfName.lookup t = some q) : bootBuiltins t = some (.type q.1) ∧ t ≠ "__name__" ∧ (t == ("__debug__" : Str)) = false := by
  have hmem := PySem.mem_of_lookup h
  simp only [tyOfName, List.mem_cons, List.not_mem_nil, or_false, Prod.mk.injEq] at hmem
  rcases hmem with ⟨rfl, rfl⟩ | ⟨rfl, rfl⟩ | ⟨rfl, rfl⟩ | ⟨rfl, rfl⟩ | ⟨rfl, rfl⟩ | ⟨rfl, rfl⟩ <;> exact ⟨rfl, by decide, by decide⟩
theorem blk_ok (ok : CcOk m E X c) (scope : Scope) (s : Shared) (H : Hp) (C : Addr) (cl : List (Str × Addr)) (fp : List Addr) : CcOk m noE (X.blk s H scope (compEnvC scope cl C X.env) fp) (blkC c scope) where
  N := ok.N
  sc := by
    show (compEnvC scope cl C X.env).scope = relS scope c.sc
    rw [← ok.sc]; rfl
  fn := rfl
  nd := ok.nd
  calm := ok.calm
  u := ok.u
  pass := passL
  gl := fun w g h => by
    have := ok.gl w g h
    cases g with
    | dic kvs => exact ⟨this.ex⟩
    | _ => exact this
  fr := ok.fr
  eqo := fun k C kc f h1 h2 h3 => ok.eqo k C kc f h1 h2 h3
  cl := ok.cl
  ty := ok.ty
  mt := fun w n h => let z := ok.mt w n h; ⟨z.nm, z.ge, z.at_⟩
  mw := fun w ks n h => let ⟨ls, e, z⟩ := ok.mw w ks n h; ⟨ls, e, z.nm, z.at_⟩
  fd := ok.fd
  dp := ok.dp
  lam := fun i h => by cases h
  ex := fun w k h => ok.ex w k h
  nx := ok.nx
  xh := fun k k' C C' h1 h2 => ok.xh k k' C C' h1 h2
  pr := fun w n h => ⟨(ok.pr w n h).at_⟩
  ln := fun n h => ⟨(ok.ln n h).at_⟩
  exo := fun w k h => ok.exo w k h
  xf := ok.xf
  frh := ok.frh
  er := fun _ _ _ h => by cases h
  glh := fun _ _ _ => rfl
  qual := fun h => absurd rfl h
  lms := fun _ h => by cases h
  cw := fun h => by cases h
  nw := .nil rfl rfl
theorem blkOk_hot {c : Cc} {scope : Scope} (h : blkOk c scope = true) : c.hot = false := by
  unfold blkOk at h
  simp only [Bool.and_eq_true] at h
  have := h.1.1.1.1
  simpa using this
theorem cLc_ok {rec : Bool → Cc → Expr → Option Ex} (R : RecOk rec) (ok : CcOk m E X c) {elt : Expr} {gs : List Comprehension} {scope : Scope} (h : cLc rec c elt gs scope = some x) :
    ∃ tg it ifs own t k es cx ex, gs = [⟨tg, it, ifs, 0⟩] ∧ x = .lc (own.map (·.2)) t k es cx ex ∧ (∀ i ∈ tgNames t, i ∈ (own : List (Str × Nat)).map (·.2)) ∧ PI X tg it (iEv m E X k es) ∧ BlkOk X.N X.env.scope scope own ∧
      (∀ (s : Shared) (H : Hp) (C : Addr) (cl : List (Str × Addr)) (fp : List Addr), TgOk (X.blk s H scope (compEnvC scope cl C X.env) fp) tg t ∧ LcT (X.blk s H scope (compEnvC scope cl C X.env) fp) m ifs cx ∧ PE (X.blk s H scope (compEnvC scope cl C X.env) fp) elt (tEv m noE (X.blk s H scope (compEnvC scope cl C X.env) fp) ex)) ∧
      (∀ z, foldedSetIterable it X.env z = pure z) ∧ X.calm = true := by
  unfold cLc at h
  split at h
  · rename_i tg it ifs
    split at h
    · rename_i t k es cx ex ht hi hcx hex
      split at h
      · rename_i hb
        cases h
        rw [Bool.and_eq_true, List.all_eq_true] at hb
        obtain ⟨i1, i3⟩ := cI_ok ok (fun {e x} h => R.val ok h) hi
        refine ⟨tg, it, ifs, ownOf c scope, t, k, es, cx, ex, rfl, rfl, fun i hi => of_decide_eq_true (hb.2 i hi), i1, blkOk_ok ok hb.1, fun s H C cl fp => ?_, i3, ok.calm (blkOk_hot hb.1)⟩
        have okB := blk_ok ok scope s H C cl fp
        refine ⟨cTg_ok okB ht, ?_, R.val okB hex⟩
        split at hcx
        · cases hcx; exact .inl ⟨rfl, rfl⟩
        · exact .inr ⟨_, rfl, R.test okB hcx⟩
        · cases hcx
      · cases h
    · cases h
  · cases h
theorem cDc_ok {rec : Bool → Cc → Expr → Option Ex} (R : RecOk rec) (ok : CcOk m E X c) {ky vl : Expr} {gs : List Comprehension} {scope : Scope} (h : cDc rec c ky vl gs scope = some x) :
    ∃ tg it ifs own t k es cx kx vx, gs = [⟨tg, it, ifs, 0⟩] ∧ x = .dc (own.map (·.2)) t k es cx kx vx ∧ (∀ i ∈ tgNames t, i ∈ (own : List (Str × Nat)).map (·.2)) ∧ PI X tg it (iEv m E X k es) ∧ BlkOk X.N X.env.scope scope own ∧
      (∀ (s : Shared) (H : Hp) (C : Addr) (cl : List (Str × Addr)) (fp : List Addr), TgOk (X.blk s H scope (compEnvC scope cl C X.env) fp) tg t ∧ LcT (X.blk s H scope (compEnvC scope cl C X.env) fp) m ifs cx ∧ PE (X.blk s H scope (compEnvC scope cl C X.env) fp) ky (tEv m noE (X.blk s H scope (compEnvC scope cl C X.env) fp) kx) ∧ PE (X.blk s H scope (compEnvC scope cl C X.env) fp) vl (tEv m noE (X.blk s H scope (compEnvC scope cl C X.env) fp) vx)) ∧
      (∀ z, foldedSetIterable it X.env z = pure z) ∧ X.calm = true := by
  unfold cDc at h
  split at h
  · rename_i tg it ifs
    split at h
    · rename_i t k es cx kx vx ht hi hcx hkx hvx
      split at h
      · rename_i hb
        cases h
        rw [Bool.and_eq_true, List.all_eq_true] at hb
        obtain ⟨i1, i3⟩ := cI_ok ok (fun {e x} h => R.val ok h) hi
        refine ⟨tg, it, ifs, ownOf c scope, t, k, es, cx, kx, vx, rfl, rfl, fun i hi => of_decide_eq_true (hb.2 i hi), i1, blkOk_ok ok hb.1, fun s H C cl fp => ?_, i3, ok.calm (blkOk_hot hb.1)⟩
        have okB := blk_ok ok scope s H C cl fp
        refine ⟨cTg_ok okB ht, ?_, R.val okB hkx, R.val okB hvx⟩
        split at hcx
        · cases hcx; exact .inl ⟨rfl, rfl⟩
        · exact .inr ⟨_, rfl, R.test okB hcx⟩
        · cases hcx
      · cases h
    · cases h
  · cases h
theorem boot_all : ∀ (w : Str) (b : Blt), bltOf w = some b → w ≠ "__name__" ∧ (w == ("__debug__" : Str)) = false := fun w b h => by
  unfold bltOf at h
  repeat (split at h; · (rename_i e; subst e; exact ⟨by decide, by decide⟩))
  cases h
theorem cCallN_ok (ok : CcOk m E X c) (hf : ∀ {e x}, f e = some x → PE X e (tEv m E X x)) {w : Str} {args : List Expr} {p : Pos} (h : cCallN f c w args = some x) : PE X (.Call (.Name w p) args [] pos) (tEv m E X x) := by
  unfold cCallN at h
  split at h
  · rename_i hw
    simp only [Bool.and_eq_true, decide_eq_true_eq] at hw
    obtain ⟨⟨hw1, hw2⟩, hw3⟩ := hw
    have hdb : (w == ("__debug__" : Str)) = false := by simpa using hw2
    have hg := gl_of ok hw1
    split at h
    · rename_i i np kw hgl
      split at h
      · rename_i xs hxs
        split at h
        · rename_i hl
          cases h
          obtain ⟨k, g, fd, ps, dvs, dus, F, hr, hm, hk, hb, hv, hd, hps, _⟩ := ok.gl w _ hgl
          obtain ⟨h1, h2, h3⟩ := cXs_ok hf hxs
          cases args with
          | nil =>
            cases hxs
            exact se_callD0 F hr hg hm hk hb hv hd ok.pass (by rw [hps, ← hl, List.length_map]; simp) hdb
          | cons e es =>
            obtain ⟨t1, t2⟩ := xs_tail (pos := pos) hf hxs
            exact se_callD F hr hg hm hk hb hv hd ok.pass h3 (by rw [hps, ← hl, List.length_map]) h1 hdb t1 t2
        · cases h
      · cases h
    · rename_i ci np hgl
      split at h
      · rename_i xs hxs
        split at h
        · rename_i hl
          cases h
          obtain ⟨C, kc, k, g, fd, ps, hC, hm, hkc, M, F, hr, hb, hps, _⟩ := ok.gl w _ hgl
          obtain ⟨h1, h2, h3⟩ := cXs_ok hf hxs
          cases args with
          | nil =>
            cases hxs
            exact se_make0 M F hr hC hkc hg hm hb ok.pass (by rw [hps, ← hl]; rfl) hdb
          | cons e es =>
            obtain ⟨t1, t2⟩ := xs_tail (pos := pos) hf hxs
            exact se_make M F hr hC hkc hg hm hb ok.pass h3 (by rw [hps, ← hl]) h1 hdb t1 t2
        · cases h
      · cases h
    · cases h
    · rename_i hgl
      split at h
      · cases h
      · rename_i hfr
        have hmg := ok.fr w (by simpa using hfr)
        have hcalm := ok.calm (ok.frh w (by simpa using hfr))
        split at h
        · rename_i hisi
          subst hisi
          split at h
          · rename_i a t p'
            unfold isiOf at h
            split at h
            · rename_i hc
              simp only [Bool.and_eq_true] at hc
              obtain ⟨⟨hc1, hc2⟩, hc3⟩ := hc
              split at h
              · rename_i q x hq hx
                cases h
                have hmem := PySem.mem_of_lookup hq
                obtain ⟨g1, g2⟩ := blt_of ok hc1
                obtain ⟨g3, g4⟩ := blt_of ok hc2
                have s1 : starEach [a, .Name t p'] X.env = (false, eval a X.env) :: starEach [.Name t p'] X.env := star_no (by simpa using hc3)
                have hboot : bootBuiltins t = some (.type q.1) ∧ t ≠ "__name__" ∧ (t == ("__debug__" : Str)) = false := by
                  simp only [tyOfName, List.mem_cons, List.not_mem_nil, or_false, Prod.mk.injEq] at hmem
                  rcases hmem with ⟨rfl, rfl⟩ | ⟨rfl, rfl⟩ | ⟨rfl, rfl⟩ | ⟨rfl, rfl⟩ | ⟨rfl, rfl⟩ | ⟨rfl, rfl⟩ <;> exact ⟨rfl, by decide, by decide⟩
                exact se_isi ok.cl (.ty q.1) (ok.ty _ hmem) g1 g2 (hf hx) (pe_tyName g3 g4 hboot.1 hboot.2.1 hboot.2.2) s1 rfl rfl
              · cases h
            · split at h
              · rename_i hc
                simp only [Bool.and_eq_true] at hc
                obtain ⟨⟨⟨hc1, hc2⟩, hc3⟩, hc4⟩ := hc
                split at h
                · rename_i k np x hgl2 hx
                  cases h
                  obtain ⟨C, kc, _, _, _, _, hC, hm2, _, _, _, _, _, _, hit⟩ := ok.gl t _ hgl2
                  obtain ⟨g1, g2⟩ := blt_of ok hc1
                  have s1 : starEach [a, .Name t p'] X.env = (false, eval a X.env) :: starEach [.Name t p'] X.env := star_no (by simpa using hc4)
                  exact se_isi ok.cl (.own C) hit g1 g2 (hf hx) (pe_clsName (gl_of ok hc2) hm2 (by simpa using hc3)) s1 rfl rfl
                · cases h
              · cases h
          · rename_i a t1 p1' t2 p2' k' p3'
            unfold isi2Of at h
            split at h
            · rename_i hc
              simp only [Bool.and_eq_true] at hc
              obtain ⟨⟨⟨hc1, hc2⟩, hc3⟩, hc4⟩ := hc
              split at h
              · rename_i q1 q2 x hq1 hq2 hx
                cases h
                obtain ⟨g1, g2⟩ := blt_of ok hc1
                obtain ⟨g3, g4⟩ := blt_of ok hc2
                obtain ⟨g5, g6⟩ := blt_of ok hc3
                have s1 : starEach [a, .Tuple [.Name t1 p1', .Name t2 p2'] k' p3'] X.env = (false, eval a X.env) :: starEach [.Tuple [.Name t1 p1', .Name t2 p2'] k' p3'] X.env := star_no (by simpa using hc4)
                obtain ⟨b1, b2, b3⟩ := tyName_boot hq1
                obtain ⟨d1, d2, d3⟩ := tyName_boot hq2
                exact se_isi2 ok.cl (ok.ty _ (PySem.mem_of_lookup hq1)) (ok.ty _ (PySem.mem_of_lookup hq2)) g1 g2 (hf hx) (pe_tyName g3 g4 b1 b2 b3) (pe_tyName g5 g6 d1 d2 d3) s1 rfl rfl
              · cases h
            · cases h
          · cases h
        · split at h
          · rename_i a hrg
            split at hrg
            · rename_i hl
              subst hl
              unfold rgOf at hrg
              split at hrg
              · rename_i w2 p2 a2 p3
                split at hrg
                · rename_i hw2
                  subst hw2
                  cases hrg
                  split at h
                  · rename_i hc
                    rw [Bool.and_eq_true] at hc
                    obtain ⟨x, hx, rfl⟩ := Option.map_eq_some_iff.mp h
                    obtain ⟨g1, g2⟩ := blt_of ok hc.1
                    exact se_listRg hcalm hg hmg g1 g2 (hf hx) (star_no (by simpa using hc.2)) rfl
                  · cases h
                · cases hrg
              · cases hrg
            · cases hrg
          · split at h
            · rename_i a hen
              split at hen
              · rename_i hl
                subst hl
                unfold enOf at hen
                split at hen
                · rename_i w2 p2 a2 p3
                  split at hen
                  · rename_i hw2
                    subst hw2
                    cases hen
                    split at h
                    · rename_i hc
                      rw [Bool.and_eq_true] at hc
                      obtain ⟨x, hx, rfl⟩ := Option.map_eq_some_iff.mp h
                      obtain ⟨g1, g2⟩ := blt_of ok hc.1
                      have hs := star_no (es := []) (env := X.env) (show isStar _ = false by simpa using hc.2)
                      exact se_listEnum hcalm hg hmg g1 g2 (sa_cons (hf hx) sa_nil hs) hs
                    · cases h
                  · cases hen
                · cases hen
              · cases hen
            split at h
            · rename_i a hvl
              split at hvl
              · rename_i hl
                subst hl
                unfold vlOf at hvl
                split at hvl
                · rename_i o w2 ap cp
                  split at hvl
                  · rename_i hc
                    simp only [Bool.and_eq_true, decide_eq_true_eq] at hc
                    obtain ⟨⟨⟨rfl, _⟩, hc2⟩, hc3⟩ := hc
                    cases hvl
                    obtain ⟨x, hx, rfl⟩ := Option.map_eq_some_iff.mp h
                    exact se_listVals hcalm hg hmg (hf hx) (base_no (by simpa using hc2)) hc3
                  · cases hvl
                · cases hvl
              · cases hvl
            split at h
            · rename_i b xs hb hxs
              split at h
              · cases h
              · rename_i hne
                cases h
                obtain ⟨h1, h2, h3⟩ := cXs_ok hf hxs
                cases args with
                | nil => simp at hne
                | cons e es =>
                  obtain ⟨t1, t2⟩ := xs_tail (pos := pos) hf hxs
                  unfold bltOf at hb
                  repeat (split at hb; · (rename_i ew; subst ew; cases hb; first
                    | exact se_blt rfl blt_len hg hmg rfl h1 (by decide) hdb t1 t2
                    | exact se_blt rfl (blt_sum hcalm) hg hmg rfl h1 (by decide) hdb t1 t2
                    | exact se_blt rfl (blt_all hcalm) hg hmg rfl h1 (by decide) hdb t1 t2
                    | exact se_blt rfl (blt_any hcalm) hg hmg rfl h1 (by decide) hdb t1 t2
                    | exact se_bltT rfl blt_int hg hmg rfl h1 (by decide) hdb t1 t2
                    | exact se_blt rfl blt_abs hg hmg rfl h1 (by decide) hdb t1 t2
                    | exact se_bltT rfl (blt_list hcalm) hg hmg rfl h1 (by decide) hdb t1 t2
                    | exact se_bltT rfl blt_tuple hg hmg rfl h1 (by decide) hdb t1 t2
                    | exact se_blt rfl (blt_min hcalm) hg hmg rfl h1 (by decide) hdb t1 t2
                    | exact se_blt rfl (blt_max hcalm) hg hmg rfl h1 (by decide) hdb t1 t2
                    | exact se_bltT rfl (blt_dict hcalm ok.u) hg hmg rfl h1 (by decide) hdb t1 t2
                    | exact se_blt rfl (blt_sorted ok.u) hg hmg rfl h1 (by decide) hdb t1 t2))
                  cases hb
            · cases h
  · cases h
theorem cCallM_ok (ok : CcOk m E X c) (hf : ∀ {e x}, f e = some x → PE X e (tEv m E X x)) {o : Expr} {w : Str} {apos : Pos} {args : List Expr} (h : cCallM f c o w apos args pos = some x) : PE X (.Call (.Attribute o w apos) args [] pos) (tEv m E X x) := by
  unfold cCallM at h
  split at h
  · rename_i hc
    simp only [Bool.and_eq_true, decide_eq_true_eq] at hc
    obtain ⟨⟨hc1, hc2⟩, hc3⟩ := hc
    have hb := base_no (w := w) (env := X.env) (o := o) (by simpa using hc1)
    have hform : ∀ xs, cXs f args = some xs → methodCallForm (args.length + ([] : List Keyword).length) (backTo pos (starEach args X.env)) (backToKw pos (keywordEach [] X.env)) = true := fun xs hxs => by
      unfold methodCallForm
      simp only [Bool.and_eq_true, decide_eq_true_eq]
      refine ⟨⟨?_, rfl⟩, ?_⟩
      · unfold backTo
        rw [List.all_map]
        exact (cXs_ok hf hxs).2.1
      · show args.length + 0 + 0 < 30
        omega
    split at h
    · rename_i n hmt
      split at h
      · rename_i x xs hx hxs
        cases h
        obtain ⟨h1, h2, h3⟩ := cXs_ok hf hxs
        refine se_meth ok.cl ok.pass (ok.mt w n hmt) (hf hx) h1 hb (hform xs hxs) hc2 ?_
        cases args with
        | nil => cases hxs; exact .inl ⟨rfl, rfl⟩
        | cons e es =>
          obtain ⟨t1, t2⟩ := xs_tail (pos := pos) hf hxs
          exact .inr ⟨e, es, rfl, t1, t2⟩
      · cases h
    split at h
    · rename_i mt x xs hmt hx hxs
      cases h
      obtain ⟨h1, h2, h3⟩ := cXs_ok hf hxs
      by_cases hclr : w = "clear"
      · subst hclr
        unfold bmOfA at hmt
        rw [if_neg (fun z => absurd z.1 (by decide))] at hmt
        cases args with
        | cons e es => rw [if_pos ⟨rfl, rfl⟩] at hmt; cases hmt
        | nil =>
          rw [if_neg (by simp)] at hmt
          have : mt = .clear := by
            have e : bmOf ("clear" : Str) = some .clear := by unfold bmOf; rw [if_neg (by decide), if_neg (by decide), if_neg (by decide), if_pos rfl]
            rw [e] at hmt
            cases hmt; rfl
          subst this
          cases hxs
          exact se_clr PySem.F.plainAttrs_list PySem.F.slot_list_clear PySem.F.type_list_clear mt_clear PySem.F.plainAttrs_dict PySem.F.slot_dict_clear PySem.F.type_dict_clear mt_dclear (hf hx) hb hc2
      have facts : ∃ id g, mt ≠ .clear ∧ bmV mt = g ∧ PlainAttrs (recvT mt) ∧ Slot (recvT mt) w id ∧ typeOf (.builtin id) = pure (.type "method_descriptor") ∧ MtR X id (RMt m E X g) := by
        unfold bmOfA at hmt
        split at hmt
        · rename_i ew
          obtain ⟨ew, _⟩ := ew
          subst ew
          cases hmt
          exact ⟨_, _, (fun z => nomatch z), rfl, PySem.F.plainAttrs_dict, PySem.F.slot_dict_pop, PySem.F.type_dict_pop, mt_dpop ok.u⟩
        rw [if_neg (fun z => hclr z.1)] at hmt
        unfold bmOf at hmt
        repeat (split at hmt; · (rename_i ew; first | exact absurd ew hclr | (subst ew; cases hmt; first
          | exact ⟨_, _, (fun z => nomatch z), rfl, PySem.F.plainAttrs_list, PySem.F.slot_list_append, PySem.F.type_list_append, mt_append⟩
          | exact ⟨_, _, (fun z => nomatch z), rfl, PySem.F.plainAttrs_list, PySem.F.slot_list_pop, PySem.F.type_list_pop, mt_pop⟩
          | exact ⟨_, _, (fun z => nomatch z), rfl, PySem.F.plainAttrs_list, PySem.F.slot_list_extend, PySem.F.type_list_extend, mt_extend⟩
          | exact ⟨_, _, (fun z => nomatch z), rfl, PySem.F.plainAttrs_list, PySem.F.slot_list_reverse, PySem.F.type_list_reverse, mt_reverse⟩
          | exact ⟨_, _, (fun z => nomatch z), rfl, PySem.F.plainAttrs_str, PySem.F.slot_str_join, PySem.F.type_str_join, mt_join⟩
          | exact ⟨_, _, (fun z => nomatch z), rfl, PySem.F.plainAttrs_str, PySem.F.slot_str_split, PySem.F.type_str_split, mt_split⟩
          | exact ⟨_, _, (fun z => nomatch z), rfl, PySem.F.plainAttrs_list, PySem.F.slot_list_count, PySem.F.type_list_count, mt_count⟩
          | exact ⟨_, _, (fun z => nomatch z), rfl, PySem.F.plainAttrs_list, PySem.F.slot_list_index, PySem.F.type_list_index, VI.mt_index⟩
          | exact ⟨_, _, (fun z => nomatch z), rfl, PySem.F.plainAttrs_dict, PySem.F.slot_dict_get, PySem.F.type_dict_get, mt_get ok.u⟩)))
        cases hmt
      obtain ⟨id, g, hcl, e1, e2, e3, e4, e5⟩ := facts
      cases args with
      | nil =>
        cases hxs
        exact se_bm0 hcl e1 e2 e3 e4 e5 (hf hx) hb hc2
      | cons e es =>
        obtain ⟨t1, t2⟩ := xs_tail (pos := pos) hf hxs
        refine se_bm hcl e1 e2 e3 e4 e5 (hf hx) h1 hb ?_ hc2 t1 t2
        simp only [Bool.and_eq_true, decide_eq_true_eq]
        refine ⟨⟨?_, rfl⟩, by simp only [List.length_cons] at hc3 ⊢; show es.length + 1 + 0 + 0 < 30; omega⟩
        unfold backTo
        rw [List.all_map]
        exact h2
    · cases h
  · cases h
theorem cCallK_ok (ok : CcOk m E X c) (hf : ∀ {e x}, f e = some x → PE X e (tEv m E X x)) {w : Str} {args : List Expr} {kws : List Keyword} {p : Pos} (h : cCallK f c w args kws = some x) : PE X (.Call (.Name w p) args kws pos) (tEv m E X x) := by
  unfold cCallK at h
  split at h
  · rename_i hw
    simp only [Bool.and_eq_true] at hw
    split at h
    · rename_i i np kw xs ys hgl hxs hys
      split at h
      · rename_i hc
        obtain ⟨hc1, hc2, hc3, hc4⟩ := hc
        cases h
        obtain ⟨k, g, fd, ps, dvs, dus, F, hr, hm, hk, hb, hv, hd, hps, hkb⟩ := ok.gl w _ hgl
        obtain ⟨h1, h2, h3⟩ := cXs_ok hf hxs
        obtain ⟨g1, g2, g3⟩ := cXs_ok hf hys
        have hlen : kws.length = kw.length := by have := congrArg List.length hc3; simpa using this
        cases args with
        | nil => exact absurd rfl hc2
        | cons e es =>
          obtain ⟨t1, t2⟩ := xs_tail (pos := pos) hf hxs
          refine se_callK (ks := kw.map (·.1)) F hr (gl_of ok hw.1) hm hk (fun s us ws l1 l2 => hkb hc4 s us ws l1 (by rw [l2, List.length_map])) ok.pass (by rw [h3, hc1]) (by rw [g3, List.length_map, List.length_map, hlen]) (by rw [hps, List.length_map]) h1 (pk_of hf hys) (by simpa using hw.2) (by rw [hc3, List.map_map]; rfl) t1 t2
      · cases h
    · cases h
  · cases h
theorem cCallMK_ok (ok : CcOk m E X c) (hf : ∀ {e x}, f e = some x → PE X e (tEv m E X x)) {o : Expr} {w : Str} {apos : Pos} {args : List Expr} {kws : List Keyword} (h : cCallMK f c o w apos args kws pos = some x) : PE X (.Call (.Attribute o w apos) args kws pos) (tEv m E X x) := by
  unfold cCallMK at h
  split at h
  · rename_i hc
    simp only [Bool.and_eq_true, decide_eq_true_eq] at hc
    obtain ⟨⟨⟨hc1, hc2⟩, hc3⟩, hc4⟩ := hc
    split at h
    · rename_i n x xs ys hn hx hxs hys
      cases h
      obtain ⟨ls, e1, mo⟩ := ok.mw _ _ _ hn
      obtain ⟨h1, h2, h3⟩ := cXs_ok hf hxs
      obtain ⟨g1, g2, g3⟩ := cXs_ok hf hys
      have hkl : kws.length = ls.length := by have := congrArg List.length e1; simpa using this
      have hnm : (backToKw pos (keywordEach kws X.env)).map (·.1) = ls.map some := (kw_names kws).trans e1
      cases args with
      | nil => simp at hc4
      | cons e es =>
        obtain ⟨t1, t2⟩ := xs_tail (pos := pos) hf hxs
        refine se_methK ok.cl ok.pass mo (hf hx) h1 (pk_of hf hys) (by rw [g3, List.length_map, hkl]) hnm (base_no (by simpa using hc1)) ?_ hc2 t1 t2
        unfold methodCallForm
        simp only [Bool.and_eq_true, decide_eq_true_eq]
        refine ⟨⟨?_, ?_⟩, ?_⟩
        · unfold backTo
          rw [List.all_map]
          exact h2
        · have : (backToKw pos (keywordEach kws X.env)).all (·.1.isSome) = ((backToKw pos (keywordEach kws X.env)).map (·.1)).all Option.isSome := by rw [List.all_map]; rfl
          rw [this, hnm]
          simp
        · split <;> omega
    · cases h
  · cases h
theorem wdOf_ok (ok : CcOk m E X c) {kvs : List (D × D)} (h : wdOf c a = some kvs) : ∃ w p, a = .Name w p ∧ DicOk X w kvs ∧ Gl X w ∧ (w == ("__debug__" : Str)) = false := by
  unfold wdOf at h
  split at h
  · split at h
    · rename_i w p hw
      simp only [Bool.and_eq_true] at hw
      split at h
      · rename_i kvs' hgl
        cases h
        exact ⟨w, p, rfl, ok.gl w _ hgl, gl_of ok hw.1, by simpa using hw.2⟩
      · cases h
    · cases h
  · cases h
theorem cPart_ok (hf : ∀ {e x}, f e = some x → PE X e (tEv m E X x)) {o : Option Expr} {hl : Bool} {l : Ex} (h : cPart f o = some (hl, l)) : PO X o (tPt m E X hl l) := by
  cases o with
  | none => cases h; exact so_none
  | some e =>
    obtain ⟨x, hx, h⟩ := Option.map_eq_some_iff.mp h
    cases h
    exact so_some (hf hx)
theorem plainIx_of (h : isSlice b = false) : PlainIx b := fun o i => by
  cases b <;> first | rfl | cases h
theorem opB_ok {op : Operator} {o : Bop} (h : opB op = some o) : OpR X (binaryOp op) (R2D m E X (binV o)) := by
  cases op <;> cases h <;> first | exact bin_add | exact bin_sub | exact bin_mul | exact bin_mod | exact bin_fdiv
theorem cRepl_ok (hf : ∀ {e x}, f e = some x → PE X e (tEv m E X x)) {es : List Expr} {xs : Xs} (h : cRepl f es = some xs) : PA X es (tEvX m E X xs) := by
  unfold cRepl at h
  split at h
  · split at h
    · rename_i hc
      simp only [Bool.and_eq_true, decide_eq_true_eq] at hc
      obtain ⟨⟨⟨rfl, h2⟩, h3⟩, h4⟩ := hc
      split at h
      · rename_i hb hg ho
        cases h
        exact sa_repl (opB_ok hb) (hf hg) (hf ho) (by simpa using h2) (base_no (by simpa using h3)) h4
      · cases h
    · cases h
  · cases h
theorem cXsS_ok (hf : ∀ {e x}, f e = some x → PE X e (tEv m E X x)) : ∀ {es : List Expr} {xs : Xs}, cXsS f es = some xs → PA X es (tEvX m E X xs)
  | [], xs, h => by
    cases h
    exact sa_nil
  | e :: r, xs, h => by
    unfold cXsS at h
    split at h
    · rename_i y0 hy0
      cases h
      exact cRepl_ok hf hy0
    split at h
    · rename_i p y hx hy
      cases h
      unfold cOne at hx
      split at hx
      · obtain ⟨z, hz, e⟩ := Option.map_eq_some_iff.mp hx
        cases e
        exact sa_star (hf hz) (cXsS_ok hf hy) rfl
      · rename_i hns
        obtain ⟨z, hz, e1⟩ := Option.map_eq_some_iff.mp hx
        cases e1
        have hs : isStar e = false := by cases e <;> first | rfl | exact (hns _ _ rfl).elim
        exact sa_cons (hf hz) (cXsS_ok hf hy) (star_no hs)
    · cases h
theorem compF_ok {rec : Bool → Cc → Expr → Option Ex} (R : RecOk rec) (ok : CcOk m E X c) (h : compF rec c e = some x) : PE X e (tEv m E X x) := by
  have hf : ∀ {e x}, rec false c e = some x → PE X e (tEv m E X x) := fun h => R.val ok h
  unfold compF at h
  split at h
  · cases h; exact se_int
  · cases h; exact se_bl
  · cases h; exact se_non
  · cases h; exact se_str
  · rename_i w p
    split at h
    · cases h
    · rename_i hd
      simp only [Bool.or_eq_true, not_or, Bool.not_eq_true] at hd
      split at h
      · rename_i hv
        obtain ⟨i, hi, rfl⟩ := Option.map_eq_some_iff.mp h
        exact se_var (by rw [ok.N]; exact ixOf_ok hi) (isVis_of ok hv) hd.1 hd.2
      · split at h
        · rename_i hg
          split at h
          · rename_i d hgl
            cases h
            obtain ⟨v, u, h1, h2, h3⟩ := ok.gl w _ hgl
            exact se_glob (gl_of ok hg) h1 h2 h3 hd.1
          · cases h
        · cases h
  · split at h
    · rename_i o x y ho hx hy
      cases h
      exact se_op (opB_ok ho) (hf hx) (hf hy)
    · cases h
  · obtain ⟨y, hy, rfl⟩ := Option.map_eq_some_iff.mp h
    exact se_neg (hf hy)
  · obtain ⟨y, hy, rfl⟩ := Option.map_eq_some_iff.mp h
    exact se_not (hf hy)
  · exact (cCmp_ok ok hf h).1
  · split at h
    · rename_i x y hx hy
      cases h
      exact se_and (hf hx) (hf hy)
    · cases h
  · split at h
    · rename_i x y hx hy
      cases h
      exact se_or (hf hx) (hf hy)
    · cases h
  · exact pe_one (hf h)
  · split at h
    · rename_i x y z hx hy hz
      cases h
      exact se_ite (R.test ok hx) (hf hy) (hf hz)
    · rename_i ha hb
      split at h
      · rename_i hx hz
        cases h
        exact se_iteT (cCmpK_ok ok hf hx) (hf ha) (cRep_ok hf hz)
      · cases h
    · cases h
  · obtain ⟨y, hy, rfl⟩ := Option.map_eq_some_iff.mp h
    exact se_rev (hf hy)
  · split at h
    · rename_i x hl l hh hi hx hy hz
      cases h
      exact se_sl (hf hx) (cPart_ok hf hy) (cPart_ok hf hz)
    · cases h
  · split at h
    · cases h
    · rename_i hs
      split at h
      · rename_i n x hn hx
        cases h
        obtain ⟨f1, f2⟩ := ok.fd _ _ hn
        exact se_fld ok.cl f1 f2 (hf hx) (base_no (by simpa using hs))
      · cases h
  · split at h
    · cases h
    · rename_i hs
      split at h
      · rename_i kvs hwd
        obtain ⟨y, hy, rfl⟩ := Option.map_eq_some_iff.mp h
        obtain ⟨w, p, rfl, d1, d2, d3⟩ := wdOf_ok ok hwd
        exact se_wget d1 d2 d3 (plainIx_of (by simpa using hs)) (hf hy)
      · split at h
        · rename_i x y hx hy
          cases h
          exact se_sub ok.u (plainIx_of (by simpa using hs)) (hf hx) (hf hy)
        · cases h
  · obtain ⟨y, hy, rfl⟩ := Option.map_eq_some_iff.mp h
    exact se_tup (cXsS_ok hf hy)
  · obtain ⟨y, hy, rfl⟩ := Option.map_eq_some_iff.mp h
    exact se_lst (cXsS_ok hf hy)
  · split at h
    · rename_i hl
      obtain ⟨y, hy, rfl⟩ := Option.map_eq_some_iff.mp h
      rename_i ks vs p
      obtain ⟨h1, h2, h3⟩ := cPairs_ok (pos := p) hf hy
      cases ks with
      | nil =>
        cases vs with
        | nil => cases hy; exact se_dct0
        | cons _ _ => cases hy
      | cons k ks => exact se_dct ok.u h1 h2 h3 (by simp) (of_decide_eq_true hl)
    · cases h
  · exact cCallN_ok ok hf h
  · exact cCallM_ok ok hf h
  · exact cCallK_ok ok hf h
  · exact cCallMK_ok ok hf h
  · obtain ⟨tg, it, ifs, own, t, k, es, cx, ex, rfl, rfl, h2, h3, h4, h5, h6, hcm⟩ := cLc_ok R ok h
    exact se_lc h2 hcm ok.nd h3 h4 h5 h6
  · obtain ⟨tg, it, ifs, own, t, k, es, cx, kx, vx, rfl, rfl, h2, h3, h4, h5, h6, hcm⟩ := cDc_ok R ok h
    exact se_dc h2 ok.u hcm ok.nd h3 h4 h5 h6
  · cases h
theorem isTrue_val {env : PySem.Env} (h : byValue e = true) : ∀ whole, isTrue e env whole = (do let v ← whole; standAt e.pos; holding [v] (truthy v)) := fun whole => by
  cases e <;> first | rfl | cases h | skip
  rename_i op _ _
  cases op <;> first | rfl | cases h
theorem compT_ok {rec : Bool → Cc → Expr → Option Ex} (R : RecOk rec) (ok : CcOk m E X c) (h : compT rec c e = some x) : PT X e (tEvT m E X x) ∧ (isBool e = true → PW X e (tEvT m E X x)) := by
  unfold compT at h
  split at h
  · obtain ⟨y, hy, rfl⟩ := Option.map_eq_some_iff.mp h
    exact ⟨st_not (R.test ok hy), fun z => nomatch z⟩
  · exact ⟨(cCmp_ok ok (fun h => R.val ok h) h).2, fun z => nomatch z⟩
  · split at h
    · rename_i x y hx hy
      cases h
      have := sw_and (R.test ok hx) (R.bool ok hy rfl)
      exact ⟨this.pt, fun _ => this⟩
    · cases h
  · split at h
    · rename_i x y hx hy
      cases h
      have := sw_or (R.test ok hx) (R.bool ok hy rfl)
      exact ⟨this.pt, fun _ => this⟩
    · cases h
  · rename_i op _ _
    cases op with
    | And => have := pw_and1 (pos := ‹Pos›) (R.test ok h); exact ⟨this.pt, fun _ => this⟩
    | Or => have := pw_or1 (pos := ‹Pos›) (R.test ok h); exact ⟨this.pt, fun _ => this⟩
  · split at h
    · rename_i hb
      refine ⟨st_val (R.val ok h) (isTrue_val hb), fun z => ?_⟩
      cases e <;> first | (simp [isBool] at z; done) | (simp [byValue] at hb; done)
    · cases h
theorem cLam_ok (ok : CcOk m E X c) (hf : ∀ {e x}, f e = some x → PE X e (tEv m E X x)) (h : cLam f c e = some x) : PE X e (tEv m E X x) := by
  unfold cLam at h
  split at h
  · split at h
    · rename_i i hi
      split at h
      · rename_i hc
        simp only [Bool.and_eq_true, decide_eq_true_eq, Bool.not_eq_true'] at hc
        obtain ⟨⟨⟨⟨⟨⟨⟨⟨⟨rfl, rfl⟩, rfl⟩, rfl⟩, rfl⟩, h1⟩, h2⟩, h3⟩, h4⟩, h5⟩ := hc
        obtain ⟨y, hy, rfl⟩ := Option.map_eq_some_iff.mp h
        have hb := Bool.and_eq_true_iff.mp h1
        have e1 := star_no (env := X.env) (es := []) h3
        exact pe_sortLen ok.u ok.dp (ok.lam i hi) (gl_of ok hb.1) (ok.fr _ hb.2) (ok.fr _ h2) (sa_cons (hf hy) sa_nil e1) (lenScope_by h4) h5 rfl (fun _ _ _ _ _ => bind_any) (by rw [e1]; rfl)
      · cases h
    · cases h
  · cases h
theorem cMore_ok {rec : Bool → Cc → Expr → Option Ex} (R : RecOk rec) (ok : CcOk m E X c) (h : cMore rec c e = some x) : PE X e (tEv m E X x) := by
  unfold cMore at h
  split at h
  · split at h
    · rename_i hc
      simp only [Bool.and_eq_true, decide_eq_true_eq, Bool.not_eq_true'] at hc
      obtain ⟨⟨⟨⟨rfl, rfl⟩, h1⟩, h2⟩, h3⟩ := hc
      obtain ⟨y, hy, rfl⟩ := Option.map_eq_some_iff.mp h
      have hb := Bool.and_eq_true_iff.mp h1
      have hb2 := Bool.and_eq_true_iff.mp h2
      have e1 := star_no (env := X.env) (es := []) h3
      exact pe_sortSet (ok.calm (ok.frh _ hb.2)) (gl_of ok hb.1) (ok.fr _ hb.2) (gl_of ok hb2.1) (ok.fr _ hb2.2) (sa_cons (R.val ok hy) sa_nil e1) (by rw [e1]; rfl) rfl
    · cases h
  · rename_i elt tg it tg2 w p scope pos
    split at h
    · rename_i t k es t2 k2 es2 ex ht hi ht2 hi2 hex
      split at h
      · rename_i hb
        cases h
        rw [Bool.and_eq_true, Bool.and_eq_true, List.all_eq_true, List.all_eq_true] at hb
        obtain ⟨i1, i3⟩ := cI_ok ok (fun {e x} h => R.val ok h) hi
        refine se_lc2 (own := ownOf c scope) (fun i hi => of_decide_eq_true (hb.1.2 i hi)) (fun i hi => of_decide_eq_true (hb.2 i hi)) (ok.calm (blkOk_hot hb.1.1)) ok.nd i1 (blkOk_ok ok hb.1.1) (fun s H C cl fp => ?_) i3 (fun _ _ => rfl)
        have okB := blk_ok ok scope s H C cl fp
        exact ⟨cTg_ok okB ht, cTg_ok okB ht2, (cI_ok okB (fun {e x} h => R.val okB h) hi2).1, R.val okB hex⟩
      · cases h
    · cases h
  · split at h
    · cases h
    · rename_i hs
      split at h
      · rename_i n y hn hy
        cases h
        exact se_prop ok.cl (ok.pr _ _ hn) (R.val ok hy) (base_no (by simpa using hs))
      · cases h
  case h_5 =>
    split at h
    · rename_i hc
      cases h
      simp only [Bool.and_eq_true, decide_eq_true_eq] at hc
      obtain ⟨c1, c2, c3⟩ := hc
      exact imE (pe_op op_pow pe_int pe_int) fun σ H Q ⟨ρ, env, st, he, S, hf⟩ => ⟨_, _, rfl, rfl, ⟨c1, by omega, c3⟩, hf.now S (.int _)⟩
    · cases h
  · rename_i ps body scope pos
    unfold cLm at h
    split at h
    · rename_i i hi
      split at h
      · rename_i p hp
        split at h
        · rename_i hc
          cases h
          obtain ⟨k, L⟩ := p
          obtain ⟨lq, lps, lbody, lscope, lcaps⟩ := L
          have hm := List.mem_of_find?_eq_some hp
          have he := List.find?_some hp
          unfold lmIs at he
          simp only [Bool.and_eq_true, decide_eq_true_eq, List.all_eq_true, Bool.not_eq_true', decide_eq_false_iff_not, List.isEmpty_iff] at hc he
          obtain ⟨e1, rfl, e3⟩ := he
          have e3 := (eq_ok _).1 _ _ e3
          subst e3
          obtain ⟨rfl, as, rfl⟩ := eqArgs_ok e1
          obtain ⟨h1, h2, rfl⟩ := hc
          have hq := ok.qual (fun z => by rw [z] at hm; cases hm)
          exact se_lam (L := ⟨lq, _, _, _, []⟩) (ok.lam i hi) (ok.lms _ hm) (by rw [hq]; exact h1) rfl (fun y hy z => absurd z (h2 y hy)) (fun y hy z => absurd z (h2 y hy)) (fun p hp => by cases hp)
        · cases h
      · cases h
    · cases h
  · split at h
    · rename_i n' j k her
      split at h
      · rename_i hc
        simp only [Bool.and_eq_true, decide_eq_true_eq, Bool.not_eq_true'] at hc
        obtain ⟨⟨⟨⟨rfl, rfl⟩, h1⟩, h2⟩, h3⟩ := hc
        obtain ⟨b, hb, rfl⟩ := Option.map_eq_some_iff.mp h
        exact ok.er _ _ _ her _ _ hb (gl_of ok h1) (gl_of ok h2) h3
      · cases h
    · cases h
  · split at h
    · rename_i hc
      simp only [Bool.and_eq_true, decide_eq_true_eq] at hc
      obtain ⟨⟨rfl, rfl⟩, h1⟩ := hc
      have hb := Bool.and_eq_true_iff.mp h1
      split at h
      · rename_i n y hn hy
        cases h
        have e1 : ∀ vp, starEach [.Name "late" vp] X.env = (false, eval (.Name "late" vp) X.env) :: starEach [] X.env := fun vp => star_no (es := []) rfl
        exact se_lenO ok.cl ok.pass (ok.ln _ hn) (gl_of ok hb.1) (ok.fr _ hb.2) (sa_cons (R.val ok hy) sa_nil (e1 _)) (e1 _) rfl
      · cases h
    · cases h
  · cases h
theorem cNew_ok (ok : CcOk m E X c) (hf : ∀ {e x}, f e = some x → PE X e (tEv m E X x)) (h : cNew f c e = some x) : PE X e (tEv m E X x) := by
  unfold cNew at h
  split at h
  · rename_i w p
    split at h
    · rename_i hc
      simp only [Bool.and_eq_true, Bool.not_eq_true', decide_eq_true_eq] at hc
      obtain ⟨h1, h2, h3, h4⟩ := hc
      have h4 : c.ownN = [] := List.isEmpty_iff.mp h4
      obtain ⟨j, hj, rfl⟩ := Option.map_eq_some_iff.mp h
      have hj := ixOf_ok hj
      have hne : c.cps ≠ [] := fun z => by rw [z] at hj; cases hj
      obtain ⟨cc, e1, e2⟩ := ok.nw.cps h4 w (List.mem_of_getElem? hj) h3
      obtain ⟨W, eT⟩ := ok.nw.ow h4 hne
      exact se_cap W eT ⟨by rw [ok.nw.gn hne]; exact hj, e1⟩ (by show X.env.scope.names.lookup w = _; rw [ok.sc]; exact h3) e2 h1 h2
    · cases h
  · rename_i w p args pos'
    split at h
    · rename_i hc
      simp only [Bool.and_eq_true, Bool.not_eq_true'] at hc
      obtain ⟨hw1, hdb⟩ := hc
      have hg := gl_of ok hw1
      split at h
      · rename_i i np xs hgl hxs
        split at h
        · rename_i hl
          cases h
          obtain ⟨k, g, fd, ps, F, hr, hm, hk, hb, hps⟩ := ok.gl w _ hgl
          obtain ⟨h1, h2, h3⟩ := cXs_ok hf hxs
          cases args with
          | nil =>
            cases hxs
            exact se_callM0 F hr hg hm hk hb ok.pass (by rw [hps, ← hl]; rfl) hdb
          | cons e es =>
            obtain ⟨t1, t2⟩ := xs_tail (pos := pos') hf hxs
            exact se_callM F hr hg hm hk hb ok.pass h3 (by rw [hps, ← hl]) h1 hdb t1 t2
        · cases h
      · rename_i i np xs hgl hxs
        split at h
        · rename_i hl
          obtain ⟨⟨hl, hne⟩, hown⟩ := hl
          cases h
          have hown : c.ownN ≠ [] := fun z => by rw [z] at hown; cases hown
          obtain ⟨h1, h2, h3⟩ := cXs_ok hf hxs
          cases args with
          | nil => cases hne
          | cons e es =>
            obtain ⟨t1, t2⟩ := xs_tail (pos := pos') hf hxs
            refine se_callG (ok.nw.callG hown w i np hgl) (ok.nw.mkr hown) (fun j i' hi' => ?_) hg ok.pass h3 hl.symm h1 hdb t1 t2
            unfold slotsC at hi'
            rw [List.getElem?_map] at hi'
            obtain ⟨x, hx, e⟩ := Option.map_eq_some_iff.mp hi'
            have hne : c.cps ≠ [] := fun z => by rw [z] at hx; cases hx
            split at e
            · cases hix : ixOf c.N x with
              | none => rw [hix] at e; exact .inr (by rw [ok.N, ← e]; exact Nat.le_refl _)
              | some z =>
                rw [hix] at e
                have e : z = i' := e
                subst e
                exact .inl ⟨x, by rw [ok.nw.gn hne]; exact hx, by rw [ok.N]; exact ixOf_ok hix⟩
            · exact .inr (by rw [ok.N, ← e]; exact Nat.le_refl _)
        · cases h
      · cases h
    · cases h
  · rename_i ps body scope pos'
    split at h
    · rename_i i hi
      split at h
      · rename_i p hp
        split at h
        · rename_i hc
          cases h
          obtain ⟨k, L⟩ := p
          obtain ⟨lq, lps, lbody, lscope, lcaps⟩ := L
          have hm := List.mem_of_find?_eq_some hp
          have he := List.find?_some hp
          unfold lmIs at he
          unfold capL at hc
          simp only [Bool.and_eq_true, decide_eq_true_eq, List.all_eq_true, Bool.not_eq_true', Bool.or_eq_true, decide_eq_false_iff_not, List.any_eq_true, List.contains_iff_mem] at hc he
          obtain ⟨e1, rfl, e3⟩ := he
          have e3 := (eq_ok _).1 _ _ e3
          subst e3
          obtain ⟨rfl, as, rfl⟩ := eqArgs_ok e1
          obtain ⟨h1, hne, h2, h3⟩ := hc
          have hq := ok.qual (fun z => by rw [z] at hm; cases hm)
          have hown : c.ownN ≠ [] := fun z => by rw [z] at hne; cases hne
          have M := ok.nw.mkr hown
          have hcell : ∀ x, x ∈ c.ownN → ∃ cc, X.env.cells.lookup x = some cc ∧ LL.own.lookup x = some cc := fun x hx => by
            obtain ⟨cc, a, b⟩ := M.at_ x hx
            exact ⟨cc, b, a⟩
          have hfr : ∀ y ∈ scope.names, y.2 = .free → y.1 ∈ lcaps := fun y hy z => (h2 y hy).resolve_left fun q => q z
          have hfree : ∀ y ∈ scope.names, y.2 = .free → ∃ cc, X.env.cells.lookup y.1 = some cc := fun y hy z => by
            obtain ⟨cc, a, _⟩ := hcell _ (h3 _ (hfr y hy z)).1
            exact ⟨cc, a⟩
          refine se_lam (L := ⟨lq, _, _, _, lcaps⟩) (ok.lam i hi) (ok.lms _ hm) (by rw [hq]; exact h1) rfl hfree hfr (fun x hx => ?_)
          obtain ⟨g1, y, g2, rfl⟩ := h3 x hx
          obtain ⟨cc, a, b⟩ := hcell x g1
          exact ⟨cc, NdefX.clo_has hfree g2 a, b⟩
        · cases h
      · cases h
    · cases h
  · cases h
theorem comp_ok : ∀ n, RecOk (comp n)
  | 0 => ⟨(fun _ h => nomatch h), (fun _ h => nomatch h), (fun _ h => nomatch h)⟩
  | n + 1 => ⟨fun {m E X c e x} ok h => by
      have h : (match cLam (comp n false c) c e with | some x => some x | none => match cMore (comp n) c e with | some x => some x | none => match cNew (comp n false c) c e with | some x => some x | none => compF (comp n) c e) = some x := h
      split at h
      · rename_i y hy
        cases h
        exact cLam_ok ok (fun h => (comp_ok n).val ok h) hy
      split at h
      · rename_i y hy
        cases h
        exact cMore_ok (comp_ok n) ok hy
      split at h
      · rename_i y hy
        cases h
        exact cNew_ok ok (fun h => (comp_ok n).val ok h) hy
      · exact compF_ok (comp_ok n) ok h, fun ok h => (compT_ok (comp_ok n) ok h).1, fun ok h hb => (compT_ok (comp_ok n) ok h).2 hb⟩
end
end VI
/-! VIye: raise, try: f(..) except. -/
namespace VI
open PySem PySem.Spec PyProof.Rows L2
variable [LL]
section
variable {m : Md} {E : XK} {X : Cx} {c : Cc} {e a b d : Expr} {x y : Ex} {pos : Pos}
/-- where statements that try stand -/
structure TryX (X : Cx) (E : XK) : Prop where
  stk : X.stack = X.env :: X.outer
  frm : X.env.frame = some X.env.locals
  tk : Takes X (fun cls d _ H => E cls d H)
/-- raise C("..") -/
theorem ss_rse (ok : CcOk m E X c) (hh : c.hot = false) (t : TryX X E) {w msg : Str} {k j : Nat} {p p2 pos' : Pos} (hx : c.ex w = some k) (hxo : (c.exo w).isNone = true) (hg : Gl X w) (hdb : (w == ("__debug__" : Str)) = false) : PS X (.Raise (some (.Call (.Name w p) [.Constant (.str msg) j p2] [] pos)) none pos') (tSt m E X (.rse k)) := by
  obtain ⟨C, h1, h2, h3, h4, h5, h6⟩ := ok.ex w k hx
  have h3 := h3 (by rw [hh, hxo]; rfl)
  refine imS (ps_raise (ok.calm hh) t.tk (pmk_own PySem.F.excBase_ValueError h3 h2 h4 (raises_own h5 h6) hg hdb)) fun D σ H ⟨ρ, env, st, hen, S, hf⟩ => ?_
  simp only [exS] at hf
  exact hf ρ H none C (Step.refl _ _) S h1 (.inl ⟨rfl, rfl⟩)
/-- C(d), the end: what is new is the error's dict alone -/
theorem xi_upd {H1 : Hp} {a dx : Addr} {u1 u2 u3 u4 : HO} (ha : H1 a = none) (ne : dx ≠ a) : upd (L2.del (upd (upd (upd H1 a u1) dx u2) a u3) a) dx u4 = upd H1 dx u4 := by
  funext b
  by_cases hb : b = dx
  · rw [hb, upd_same, upd_same]
  · rw [upd_ne hb, upd_ne hb]
    by_cases hb2 : b = a
    · rw [hb2, L2.del_same, ha]
    · rw [L2.del_ne hb2, upd_ne hb2, upd_ne hb, upd_ne hb2]
/-- raise C(d), C with an own __init__ -/
theorem ss_rseV (ok : CcOk m E X c) (hcm : X.calm = true) (t : TryX X E) {w : Str} {k : Nat} {p pos' : Pos} (hx : c.exo w = some k) (hg : Gl X w) (hdb : (w == ("__debug__" : Str)) = false) (he : PE X e (tEv m E X x)) (hse : starEach [e] X.env = (false, eval e X.env) :: starEach [] X.env) :
    PS X (.Raise (some (.Call (.Name w p) [e] [] pos)) none pos') (tSt m E X (.rseV k x)) := by
  obtain ⟨C, fI, fd, sn, h1, h2, h3, h4, h5, F, hr, hb⟩ := ok.exo w k hx
  refine imS (ps_raise hcm t.tk (pmk_oex (ds := []) (dvs := []) h3 h4 h5 F hr hb .nil passL hg h2 (pa_cons he pa_nil hse) hdb hse rfl)) fun D σ H ⟨ρ, env, st, hen, S, hf⟩ => ?_
  simp only [exS] at hf
  refine ⟨ρ, env, st, hen, S, hf.bind fun d st1 ρ1 H1 v s1 S1 r1 hf1 => ?_⟩
  have hne : d ≠ .non := fun z => by subst z; exact hf1.elim
  have hf1 : Fin m E X ρ1 H1 (R.exc k d st1 : R Fl) (rFl X) (endsQ D) := by
    cases d <;> first | exact hf1 | exact absurd rfl hne
  refine ⟨by show 1 ≤ 1000; decide, fun a ha => ⟨a, v, rfl, upd_same, fun dx hdx ne => ⟨rfl, dx, [("row", v)], upd_same, by rw [upd_ne ne, upd_same], ?_, ?_⟩⟩⟩
  · rw [upd_ne ne] at hdx; exact hdx
  · rw [upd_ne ne] at hdx
    rw [xi_upd ha ne]
    obtain ⟨S2, stp⟩ := SRel.other (o := .xd [("row", v)]) S1 hdx
    exact hf1 ρ1 _ (some dx) C stp S2 h1 (.inr ⟨dx, v, hne, rfl, upd_same, Rep.mono S1 stp _ _ r1⟩)
/-- behind try: -/
theorem tr_ok (ok : CcOk m E X c) (her : c.er = none) (pn : List (Addr × Obj)) (xe : Value → Shared → Prop) : CcOk m noE (X.tr pn xe) c where
  N := ok.N
  sc := ok.sc
  fn := ok.fn
  nd := ok.nd
  calm := ok.calm
  u := ok.u
  pass := passL
  gl := fun w g h => by
    have := ok.gl w g h
    cases g with
    | dic kvs => exact ⟨this.ex⟩
    | _ => exact this
  fr := ok.fr
  eqo := fun k C kc f h1 h2 h3 => ok.eqo k C kc f h1 h2 h3
  cl := ok.cl
  ty := ok.ty
  mt := fun w n h => let z := ok.mt w n h; ⟨z.nm, z.ge, z.at_⟩
  mw := fun w ks n h => let ⟨ls, e, z⟩ := ok.mw w ks n h; ⟨ls, e, z.nm, z.at_⟩
  fd := ok.fd
  dp := ok.dp
  lam := fun i h => ok.lam i h
  ex := fun w k h => ok.ex w k h
  nx := ok.nx
  xh := fun k k' C C' h1 h2 => ok.xh k k' C C' h1 h2
  pr := fun w n h => ⟨(ok.pr w n h).at_⟩
  ln := fun n h => ⟨(ok.ln n h).at_⟩
  exo := fun w k h => ok.exo w k h
  xf := ok.xf
  frh := ok.frh
  er := fun _ _ _ h => by rw [her] at h; cases h
  glh := ok.glh
  qual := ok.qual
  lms := ok.lms
  nw := ⟨ok.nw.gn, ok.nw.cps, ok.nw.ow, fun h => let z := ok.nw.mkr h; ⟨z.at_, z.only, z.ct⟩, ok.nw.callG⟩
  cw := fun h => let ⟨⟨a, n, b, l⟩, z⟩ := ok.cw h; ⟨⟨a, n, b, l⟩, ⟨z.ins, z.ve, z.kx⟩⟩
/-- what an except clause returns, as an expression -/
def hdE : Hd → Ex
  | .ret d => .c d
  | .some? i => .cmp .isnot (.v i) (.c .non)
  | .row _ => .c .non
/-- an except clause that doesn't look at the error -/
def Hd.plain : Hd → Bool
  | .row _ => false
  | _ => true
theorem hdV_ev {T : Tbl} {F : Nat} {call : Caller} (h : Hd) (hp : h.plain = true) (x : D) (env : Env) (s : Store) : hdV h x env s = (evE T F call (hdE h) env s).bind fun d s => .ok (.rt d) s := by
  cases h with
  | ret d => rfl
  | some? i =>
    simp only [hdV, hdE, evE]
    split
    · rename_i d hd
      simp only [R.bind]
      rw [cmpC_plain (o := .isnot) (.inr ⟨(fun z => nomatch z), (fun z => nomatch z)⟩)]
      have e : cmpV .isnot d .non s = ofOpt ((isV d .non).map fun b => D.bl !b) s := rfl
      rw [e]
      cases isV d .non <;> rfl
    · rfl
  | row j => cases hp
theorem hdE_noexc {T : Tbl} {F : Nat} {call : Caller} (h : Hd) (env : Env) (s : Store) (c : Nat) (x : D) (s' : Store) : evE T F call (hdE h) env s ≠ .exc c x s' := by
  cases h with
  | ret d => simp only [hdE, evE]; exact fun z => nomatch z
  | some? i =>
    simp only [hdE, evE]
    split
    · rename_i d hd
      simp only [R.bind]
      rw [cmpC_plain (o := .isnot) (.inr ⟨(fun z => nomatch z), (fun z => nomatch z)⟩)]
      have e : cmpV .isnot d .non s = ofOpt ((isV d .non).map fun b => D.bl !b) s := rfl
      rw [e]
      cases isV d .non <;> exact fun z => nomatch z
    · exact fun z => nomatch z
  | row j => simp only [hdE, evE]; exact fun z => nomatch z
theorem Fin.noexc {α β : Type} {ρ : List Addr} {H : Hp} {r : R α} {rep : List Addr → Hp → α → β → Prop} {Q : β → Hp → Prop} (h : Fin m E X ρ H r rep Q) (hn : ∀ c x s', r ≠ .exc c x s') : Fin m noE X ρ H r rep Q := by
  cases r with
  | ok a s => exact h
  | exc c x s => exact absurd rfl (hn c x s)
  | stuck => exact h
/-- where what is called goes -/
def ktD (tgt : Tk) (D : Ends) (σ : L2.St) (v : V) (H : Hp) : Prop := match tgt with
  | .set i => D.nx (σ.set i (some v)) H
  | .drop => D.nx σ H
  | .ret => D.rt v H
/-- try: (x =, return) f(..) except: return .. -/
theorem ss_tryC (ok : CcOk m E X c) (t : TryX X E) {body : Stmt} {xc w : Str} {CS g : Addr} {kc i k n : Nat} {cs : List Nat} {tgt : Tk} {hd : Hd} {fd : FuncData} {ps : List Str} {es : List Expr} {ys : Xs} {p cpos np hpos pos' : Pos} {he : Expr}
    (hcls : Names X xc (.ref CS)) (hxa : m.xA[kc]? = some CS) (hcs : ∀ k C, m.xA[k]? = some C → cs.contains k = c.hit k kc)
    (F : FnOk X.prog X.w X.K X.mg X.base (L2.CX X.prog X.w) k g fd ps (spI m X.prog X.w X.K m.call i ps.length)) (hr : Room k X.A) (hg : Gl X w) (hm : X.mg w = some (.ref g)) (hk : PySem.W.keepIn X.K (.ref g) = true) (hb : Binds X.K fd ps [])
    (hl : ys.plain = some n) (hps : ps.length = n) (ha : ∀ pn xe, PA (X.tr pn xe) (e :: es) (tEvX m noE X ys)) (hdb : (w == ("__debug__" : Str)) = false)
    (hse : starEach (e :: es) X.env = (false, eval e X.env) :: starEach es X.env) (hpl : (backTo cpos (starEach es X.env)).any (·.1) = false)
    (hbody : ∀ (pn : List (Addr × Obj)) (xe : Value → Shared → Prop) (te : TE), PE (X.tr pn xe) (.Call (.Name w p) (e :: es) [] cpos) te → PSs (X.tr pn xe) [body] (fun D σ H => te σ H (ktD tgt D σ)))
    (hpd : hd.plain = true) (hhd : ∀ (a : Addr) (pn : List (Addr × Obj)), PE (X.suite a pn) he (tEv m noE X (hdE hd))) :
    PS X (.Try [body] [.ExceptHandler (some (.Name xc np)) none [.Return (some he) hpos] pos'] [] [] pos) (tSt m E X (.tryC tgt i ys [(cs, hd)])) := by
  refine imS (ps_try_only (c := .ref CS) t.stk t.frm hcls t.tk (tb := fun W D σ H => tCallSD (spI m X.prog X.w X.K m.call i ps.length) [] (WE W) (tEvX m noE X ys) σ H (ktD tgt D σ)) (ts := fun a cls d D σ H => tEv m noE X (hdE hd) σ H D.rt)
    (fun W pn xe tkW po => hbody pn xe _ (pe_callSD (X := X.tr pn xe) (E := WE W) F hr hg hm hk hb .nil (fun σ => passAt tkW σ) (ha pn xe) hdb hse hpl)) (fun a oe cls d pn _ _ => pss_one (ps_ret (hhd a _)))) fun D σ H ⟨ρ, env, st, hen, S, hf⟩ => ?_
  simp only [exS] at hf
  refine ⟨ρ, env, st, hen, S, ?_⟩
  cases hev : evX m.T m.F m.call ys env st with
  | stuck => rw [hev] at hf; exact hf.elim
  | exc c x s' => rw [hev] at hf; exact hf.elim
  | ok ds st1 =>
    rw [hev] at hf
    simp only [R.noexc] at hf
    intro ρ1 H1 vs s1 S1 r1
    refine ⟨by rw [List.append_nil, ← r1.length, evX_len _ _ _ _ _ hl hev, hps], ρ1, st1, ds, S1, by rw [List.append_nil]; exact r1, ?_⟩
    cases hc : m.call i ds st1 with
    | stuck => rw [hc] at hf; exact hf.elim
    | ok d st2 =>
      rw [hc] at hf
      intro ρ2 H2 v s2 S2 r2
      cases tgt with
      | ret => exact hf ρ2 H2 (.inr v) (s1.trans s2) S2 r2
      | set j => exact hf ρ2 H2 (.inl (σ.set j (some v))) (s1.trans s2) S2 ((hen.mono S (s1.trans s2)).set r2)
      | drop => exact hf ρ2 H2 (.inl σ) (s1.trans s2) S2 (hen.mono S (s1.trans s2))
    | exc kx x st2 =>
      rw [hc] at hf
      intro ρ2 H2 o C s2 S2 hC hX
      have hst := s1.trans s2
      refine ⟨cs.contains kx, by rw [hcs kx C hC]; exact ok.xh kx kc C CS hC hxa, fun hb a na => ?_, fun hb => ?_⟩
      · simp only [hdsV, hb, if_true] at hf
        rw [hdV_ev (T := m.T) (F := m.F) (call := m.call) hd hpd] at hf
        refine ⟨ρ2, env, st2, hen.mono S hst, S2, Fin.noexc ((Fin.step hf hst).bind fun d st3 ρ3 H3 v s3 S3 r3 hf3 => hf3.rt S3 r3) (hdE_noexc hd env st2)⟩
      · simp only [hdsV, hb, if_false, Bool.false_eq_true] at hf
        exact hf ρ2 H2 o C hst S2 hC hX
/-- .. except .. as n: return n.row -/
theorem ss_tryR (ok : CcOk m E X c) (t : TryX X E) {body : Stmt} {xc w : Str} {CS g : Addr} {kc i k n : Nat} {cs : List Nat} {tgt : Tk} {j : Nat} {n' : Str} {fd : FuncData} {ps : List Str} {es : List Expr} {ys : Xs} {p cpos np hpos pos' np2 apos : Pos} (hxr : c.xr = true) (hN : X.N[j]? = some n') (hln : X.env.kindOf n' = some .local) (hdn : (n' == ("__debug__" : Str)) = false) (hcn : (n' == ("__classdict__" : Str)) = false)
    (hcls : Names X xc (.ref CS)) (hxa : m.xA[kc]? = some CS) (hcs : ∀ k C, m.xA[k]? = some C → cs.contains k = c.hit k kc)
    (F : FnOk X.prog X.w X.K X.mg X.base (L2.CX X.prog X.w) k g fd ps (spI m X.prog X.w X.K m.call i ps.length)) (hr : Room k X.A) (hg : Gl X w) (hm : X.mg w = some (.ref g)) (hk : PySem.W.keepIn X.K (.ref g) = true) (hb : Binds X.K fd ps [])
    (hl : ys.plain = some n) (hps : ps.length = n) (ha : ∀ pn xe, PA (X.tr pn xe) (e :: es) (tEvX m noE X ys)) (hdb : (w == ("__debug__" : Str)) = false)
    (hse : starEach (e :: es) X.env = (false, eval e X.env) :: starEach es X.env) (hpl : (backTo cpos (starEach es X.env)).any (·.1) = false)
    (hbody : ∀ (pn : List (Addr × Obj)) (xe : Value → Shared → Prop) (te : TE), PE (X.tr pn xe) (.Call (.Name w p) (e :: es) [] cpos) te → PSs (X.tr pn xe) [body] (fun D σ H => te σ H (ktD tgt D σ)))
    : PS X (.Try [body] [.ExceptHandler (some (.Name xc np)) (some n') [.Return (some (.Attribute (.Name n' np2) "row" apos)) hpos] pos'] [] [] pos) (tSt m E X (.tryC tgt i ys [(cs, .row j)])) := by
  refine imS (ps_try_as (c := .ref CS) t.stk t.frm ok.nd hN hln hcls t.tk (tb := fun W D σ H => tCallSD (spI m X.prog X.w X.K m.call i ps.length) [] (WE W) (tEvX m noE X ys) σ H (ktD tgt D σ)) (ts := fun a cls d D σ H => ∃ C, (XfC X.K C ∧ PySem.W.findIn X.K (.ref C) "row" = some none) ∧ tXf a cls d C "row" (tVar j) σ H D.rt)
    (fun W pn xe tkW po => hbody pn xe _ (pe_callSD (X := X.tr pn xe) (E := WE W) F hr hg hm hk hb .nil (fun σ => passAt tkW σ) (ha pn xe) hdb hse hpl)) (fun a oe cls d pn hz hof => ⟨fun pins s σ H D I ⟨C, hx, h⟩ => (pss_one (ps_ret (pe_xf hx.1 hx.2 hz hof (pe_var (X := X.suite a ((a, oe) :: pn)) hN (.inl hln) hdn hcn)))).run pins s σ H D I h⟩)) fun D σ H ⟨ρ, env, st, hen, S, hf⟩ => ?_
  simp only [exS] at hf
  refine ⟨ρ, env, st, hen, S, ?_⟩
  cases hev : evX m.T m.F m.call ys env st with
  | stuck => rw [hev] at hf; exact hf.elim
  | exc c x s' => rw [hev] at hf; exact hf.elim
  | ok ds st1 =>
    rw [hev] at hf
    simp only [R.noexc] at hf
    intro ρ1 H1 vs s1 S1 r1
    refine ⟨by rw [List.append_nil, ← r1.length, evX_len _ _ _ _ _ hl hev, hps], ρ1, st1, ds, S1, by rw [List.append_nil]; exact r1, ?_⟩
    cases hc : m.call i ds st1 with
    | stuck => rw [hc] at hf; exact hf.elim
    | ok d st2 =>
      rw [hc] at hf
      intro ρ2 H2 v s2 S2 r2
      cases tgt with
      | ret => exact hf ρ2 H2 (.inr v) (s1.trans s2) S2 r2
      | set j => exact hf ρ2 H2 (.inl (σ.set j (some v))) (s1.trans s2) S2 ((hen.mono S (s1.trans s2)).set r2)
      | drop => exact hf ρ2 H2 (.inl σ) (s1.trans s2) S2 (hen.mono S (s1.trans s2))
    | exc kx x st2 =>
      rw [hc] at hf
      intro ρ2 H2 o C s2 S2 hC hX
      have hst := s1.trans s2
      refine ⟨cs.contains kx, by rw [hcs kx C hC]; exact ok.xh kx kc C CS hC hxa, fun hb a na => ?_, fun hb => ?_⟩
      · simp only [hdsV, hb, if_true, hdV] at hf
        refine ⟨C, ok.xf hxr kx C hC, ?_⟩
        cases x <;> first | exact hf.elim | skip
        rename_i z
        simp only at hf
        split at hf
        · rename_i hj
          rcases hX with ⟨e, _⟩ | ⟨dd, v, _, e, hdd, rv⟩
          · cases e
          · subst e
            exact ⟨.ref a, List.getElem?_set_self (by rw [← hen.len]; exact hj), rfl, rfl, dd, [("row", v)], v, rfl, hdd, by simp [List.lookup], hf ρ2 H2 (.inr v) hst S2 rv⟩
        · exact hf.elim
      · simp only [hdsV, hb, if_false, Bool.false_eq_true] at hf
        exact hf ρ2 H2 o C hst S2 hC hX
end
/-- an except clause's answer -/
def cHd (c : Cc) : Expr → Option Hd
  | .Constant .none _ _ => some (.ret .non)
  | .Constant (.bool b) _ _ => some (.ret (.bl b))
  | .Compare (.Name v _) [.IsNot] [.Constant .none _ _] _ => if c.isVis v && !(v == "__debug__") && !(v == "__classdict__") then (ixOf c.N v).map .some? else none
  | _ => none
/-- the call that is tried -/
def cTryC (f : Expr → Option Ex) (c : Cc) (kc : Nat) (hd : Hd) (tgt : Tk) : Expr → Option St
  | .Call (.Name w _) (e :: es) [] _ => if c.isGl w && !(w == "__debug__") && !isStar e then (match c.gl w, cXs f (e :: es) with
    | some (.fn i np kw), some ys => if kw.isEmpty && decide ((e :: es).length = np) then some (.tryC tgt i ys [((List.range c.nx).filter (c.hit · kc), hd)]) else none
    | _, _ => none) else none
  | _ => none
def cTry (f : Expr → Option Ex) (c : Cc) (s : Stmt) (xc : Str) (he : Expr) : Option St := match c.ex xc, cHd c he with
  | some kc, some hd => if c.isGl xc && !(xc == "__debug__") then (match s with
    | .Return (some e) _ => cTryC f c kc hd .ret e
    | .Expr e _ => cTryC f c kc hd .drop e
    | .Assign [.Name w p] e _ => (match cNm c (.Name w p) with
      | some j => cTryC f c kc hd (.set j) e
      | none => none)
    | _ => none) else none
  | _, _ => none
/-- which name a clause's error has, where that stands -/
def cRow (c : Cc) (n : Str) : Expr → Option Nat
  | .Attribute (.Name n' _) w _ => if c.xr && decide (w = "row") && decide (n' = n) && decide (c.kind n = some .local) && !(n == "__debug__") && !(n == "__classdict__") then ixOf c.N n else none
  | _ => none
def cTryN (f : Expr → Option Ex) (c : Cc) (s : Stmt) (xc n : Str) (he : Expr) : Option St := match c.ex xc, cRow c n he with
  | some kc, some j => if c.isGl xc && !(xc == "__debug__") then (match s with
    | .Return (some e) _ => cTryC f c kc (.row j) .ret e
    | .Expr e _ => cTryC f c kc (.row j) .drop e
    | _ => none) else none
  | _, _ => none
section
variable {m : Md} {E : XK} {X : Cx} {c : Cc} {f : Expr → Option Ex} {e a b d : Expr} {x y : Ex} {pos : Pos}
theorem suite_ev {a : Addr} {pn : List (Addr × Obj)} (h : PE (X.suite a pn) e (tEv m E (X.suite a pn) x)) : PE (X.suite a pn) e (tEv m E X x) :=
  imE h fun σ H Q ⟨ρ, env, st, he, S, hf⟩ => ⟨ρ, env, st, ERel.cx (X := X) (X' := X.suite a pn) rfl he, S, Fin.of_k (X := X.suite a pn) hf.k⟩
theorem tr_ev {es : List Expr} {ys : Xs} {pn : List (Addr × Obj)} {xe : Value → Shared → Prop} (h : PA (X.tr pn xe) es (tEvX m E (X.tr pn xe) ys)) : PA (X.tr pn xe) es (tEvX m E X ys) :=
  imA h fun σ H Q ⟨ρ, env, st, he, S, hf⟩ => ⟨ρ, env, st, ERel.cx (X := X) (X' := X.tr pn xe) rfl he, S, Fin.of_k (X := X.tr pn xe) hf.k⟩
theorem cHd_ok (ok : CcOk m E X c) {hd : Hd} (h : cHd c e = some hd) : ∀ (a : Addr) (pn : List (Addr × Obj)), PE (X.suite a pn) e (tEv m noE X (hdE hd)) := by
  intro a pn
  unfold cHd at h
  split at h
  · cases h; exact suite_ev se_non
  · cases h; exact suite_ev se_bl
  · split at h
    · rename_i hv
      simp only [Bool.and_eq_true, Bool.not_eq_true'] at hv
      obtain ⟨i, hi, rfl⟩ := Option.map_eq_some_iff.mp h
      refine suite_ev ?_
      exact se_eq (X := X.suite a pn) (opr_plain (o := .isnot) (X := X.suite a pn) ⟨(fun z => nomatch z), (fun z => nomatch z)⟩ cmp_isnot) rfl (se_var (X := X.suite a pn) (by show X.N[i]? = _; rw [ok.N]; exact ixOf_ok hi) (isVis_of ok hv.1.1) hv.1.2 hv.2) (se_non (X := X.suite a pn))
    · cases h
  · cases h
theorem cTryC_ok (ok : CcOk m E X c) (t : TryX X E) (hf : ∀ {E : XK} {X : Cx} {e x}, CcOk m E X c → f e = some x → PE X e (tEv m E X x)) {kc : Nat} {hd : Hd} {tgt : Tk} {st : St} {CS : Addr} {xc : Str} {body : Stmt} {he : Expr} {np hpos pos' : Pos} (h : cTryC f c kc hd tgt e = some st)
    (hcls : Names X xc (.ref CS)) (hxa : m.xA[kc]? = some CS) (hnx : m.xA.length ≤ c.nx)
    (hbody : ∀ (pn : List (Addr × Obj)) (xe : Value → Shared → Prop) (te : TE), PE (X.tr pn xe) e te → PSs (X.tr pn xe) [body] (fun D σ H => te σ H (ktD tgt D σ)))
    (hpd : hd.plain = true) (hhd : ∀ (a : Addr) (pn : List (Addr × Obj)), PE (X.suite a pn) he (tEv m noE X (hdE hd))) :
    PS X (.Try [body] [.ExceptHandler (some (.Name xc np)) none [.Return (some he) hpos] pos'] [] [] pos) (tSt m E X st) := by
  unfold cTryC at h
  split at h
  · split at h
    · rename_i hc
      simp only [Bool.and_eq_true, Bool.not_eq_true'] at hc
      split at h
      · rename_i i np kw ys hgl hys
        split at h
        · rename_i hk
          cases h
          simp only [Bool.and_eq_true, List.isEmpty_iff, decide_eq_true_eq] at hk
          obtain ⟨k, g, fd, ps, dvs, dus, F, hr, hm, hkp, hb, hv, hd', hps, _⟩ := ok.gl _ _ hgl
          have e0 : kw = [] := hk.1
          subst e0
          have hdv := hd' [] (fun _ => none)
          cases hdv
          cases hv
          have trk := fun pn xe => cXs_ok (X := X.tr pn xe) (m := m) (E := noE) (fun h => hf (tr_ok ok (ok.glh _ _ hgl) pn xe) h) hys
          have q := cXs_ok (X := X) (m := m) (E := E) (fun h => hf ok h) hys
          rename_i es2 _ _ _ _
          have hse := star_no (env := X.env) (es := es2) hc.2
          refine ss_tryC ok t hcls hxa (fun k C hC => ?_) F hr (gl_of ok hc.1.1) hm hkp hb q.2.2 (by rw [hps, hk.2]; rfl) (fun pn xe => tr_ev (trk pn xe).1) hc.1.2 hse ?_ hbody hpd hhd
          · have hlt : k < c.nx := Nat.lt_of_lt_of_le (List.getElem?_eq_some_iff.mp hC).1 hnx
            rw [Bool.eq_iff_iff]
            simp [hlt]
          · have h2 := q.2.1
            rw [hse] at h2
            exact plain_back h2
        · cases h
      · cases h
    · cases h
  · cases h
theorem cTryC_okR (ok : CcOk m E X c) (t : TryX X E) (hf : ∀ {E : XK} {X : Cx} {e x}, CcOk m E X c → f e = some x → PE X e (tEv m E X x)) {kc : Nat} {j : Nat} {n' : Str} {tgt : Tk} {st : St} {CS : Addr} {xc : Str} {body : Stmt} {np hpos pos' np2 apos : Pos} (hxr : c.xr = true) (hN : X.N[j]? = some n') (hln : X.env.kindOf n' = some .local) (hdn : (n' == ("__debug__" : Str)) = false) (hcn : (n' == ("__classdict__" : Str)) = false) (h : cTryC f c kc (.row j) tgt e = some st)
    (hcls : Names X xc (.ref CS)) (hxa : m.xA[kc]? = some CS) (hnx : m.xA.length ≤ c.nx)
    (hbody : ∀ (pn : List (Addr × Obj)) (xe : Value → Shared → Prop) (te : TE), PE (X.tr pn xe) e te → PSs (X.tr pn xe) [body] (fun D σ H => te σ H (ktD tgt D σ)))
    : PS X (.Try [body] [.ExceptHandler (some (.Name xc np)) (some n') [.Return (some (.Attribute (.Name n' np2) "row" apos)) hpos] pos'] [] [] pos) (tSt m E X st) := by
  unfold cTryC at h
  split at h
  · split at h
    · rename_i hc
      simp only [Bool.and_eq_true, Bool.not_eq_true'] at hc
      split at h
      · rename_i i np kw ys hgl hys
        split at h
        · rename_i hk
          cases h
          simp only [Bool.and_eq_true, List.isEmpty_iff, decide_eq_true_eq] at hk
          obtain ⟨k, g, fd, ps, dvs, dus, F, hr, hm, hkp, hb, hv, hd', hps, _⟩ := ok.gl _ _ hgl
          have e0 : kw = [] := hk.1
          subst e0
          have hdv := hd' [] (fun _ => none)
          cases hdv
          cases hv
          have trk := fun pn xe => cXs_ok (X := X.tr pn xe) (m := m) (E := noE) (fun h => hf (tr_ok ok (ok.glh _ _ hgl) pn xe) h) hys
          have q := cXs_ok (X := X) (m := m) (E := E) (fun h => hf ok h) hys
          rename_i es2 _ _ _ _
          have hse := star_no (env := X.env) (es := es2) hc.2
          refine ss_tryR ok t hxr hN hln hdn hcn hcls hxa (fun k C hC => ?_) F hr (gl_of ok hc.1.1) hm hkp hb q.2.2 (by rw [hps, hk.2]; rfl) (fun pn xe => tr_ev (trk pn xe).1) hc.1.2 hse ?_ hbody
          · have hlt : k < c.nx := Nat.lt_of_lt_of_le (List.getElem?_eq_some_iff.mp hC).1 hnx
            rw [Bool.eq_iff_iff]
            simp [hlt]
          · have h2 := q.2.1
            rw [hse] at h2
            exact plain_back h2
        · cases h
      · cases h
    · cases h
  · cases h
end
end VI
/-! VIwd: try: x(y) except: a word by the error's class. -/
namespace VI
open PySem PySem.Spec PyProof.Rows L2
/-- within an except clause: the error is of class k -/
def hotC (c : Cc) (n : Str) (j k : Nat) : Cc := { c with gl := fun _ => none, fr := fun _ => false, mt := fun _ => none, mw := fun _ _ => none, lam := none, pr := fun _ => none, ln := none, exo := fun _ => none, xr := false, hot := true, er := some (n, j, k), lms := [], cw := false, cps := [], ownN := [] }
/-- no lambdas, one error -/
def erL (cb : Heap) (a : Addr) : LL := ⟨fun _ => none, cb, [], none, [], some a⟩
def hotM (m : Md) : Md := ⟨m.nm, ⟨[], [], false, none⟩, 1, fun _ _ _ => .stuck, m.xA⟩
/-- the word for class k -/
def hotE (N : Nat) (j : Nat) : Env := (List.replicate N none).set j (some (.fn 0))
def hotW (sc : Cc → List Stmt → Option Ss) (c : Cc) (n : Str) (j : Nat) (body : List Stmt) (k : Nat) : Option (List Nat) := match sc (hotC c n j k) body with
  | some hb => (match exSs ⟨[], [], false, none⟩ 1 (fun _ _ _ => .stuck) hb (hotE c.N.length j) Store.nil with
    | .ok (.rt (.str w)) _ => some w
    | _ => none)
  | none => none
section
variable {m : Md} {E : XK} {X : Cx} {c : Cc}
theorem hot_ok0 (cb : Heap) (N : X.N = c.N) (sc : X.env.scope = c.sc) (fn : X.fn = c.fn) (nd : X.N.Nodup) (u : X.A.units + 65 < cLine) (cl : ClsOk m.nm X.K) (ty : ∀ p ∈ tyOfName, IsTab m.nm X.K p.2.2 (.type p.2.1)) (fd : ∀ w n, c.fd w = some n → m.nm.aN[n]? = some w ∧ n < m.nm.nf) (dp : X.A.depth + 5 < recursionLimit)
    (ex : ∀ w k, c.ex w = some k → ExOk m X (!c.hot && (c.exo w).isNone) w k) (nx : m.xA.length ≤ c.nx) (xh : ∀ (k k' : Nat) (C C' : Addr), m.xA[k]? = some C → m.xA[k']? = some C' → PySem.W.exmOne X.K (.ref C) (.ref C') = some (c.hit k k'))
    {n : Str} {j k : Nat} {a C : Addr} {oe : Obj} {pn : List (Addr × Obj)} (hN : X.N[j]? = some n) (hln : X.env.kindOf n = some .local) (hdn : (n == ("__debug__" : Str)) = false) (hcn : (n == ("__classdict__" : Str)) = false)
    (xk : XkOk m X c.hit) (hC : m.xA[k]? = some C) (hz : Zc (.ref C) none oe) (hf : ∃ vs, oe.data = .fields vs) : @CcOk (erL cb a) (hotM m) noE (X.suite a ((a, oe) :: pn)) (hotC c n j k) :=
  letI : LL := erL cb a
  { N := N
    sc := sc
    fn := fn
    nd := nd
    calm := fun h => by cases h
    frh := fun w h => by cases h
    u := u
    pass := passL
    gl := fun w g h => by cases h
    fr := fun w h => by cases h
    eqo := fun k C kc f h1 h2 h3 => by
      have h2 : ([] : List Cl)[k]? = some kc := h2
      simp at h2
    cl := cl
    ty := ty
    mt := fun w n h => by cases h
    mw := fun w ks n h => by cases h
    fd := fd
    dp := dp
    lam := fun i h => by cases h
    ex := fun w k h => by
      obtain ⟨C, h1, h2, h3, h4, h5, h6⟩ := ex w k h
      exact ⟨C, h1, h2, (fun z => by cases z), h4, h5, h6⟩
    nx := nx
    xh := xh
    pr := fun w n h => by cases h
    ln := fun n h => by cases h
    exo := fun w k h => by cases h
    xf := fun h => by cases h
    er := fun n' j' k' h => by
      cases h
      intro w b hb hg hgw hdb p np wp pos
      have key : ∀ {cv : V} {u : Value}, PE (X.suite a ((a, oe) :: pn)) (.Name w wp) (tVal cv) → (∀ u', RelV cv u' → u' = u) → PySem.W.kitOne X.K (.ref C) u = some b → PE (X.suite a ((a, oe) :: pn)) (.Call (.Name "isinstance" p) [.Name n np, .Name w wp] [] pos) (tEv (hotM m) noE (X.suite a ((a, oe) :: pn)) (.isx j b)) := fun {cv u} h1 h2 h3 => by
        refine imE (pe_callB (call_isE (X := X) (pn := pn) (xk.kx k C hC).1 hz hf) hg xk.ins rfl (pa_cons (pe_var (X := X.suite a ((a, oe) :: pn)) hN (.inl hln) hdn hcn) (pa_cons h1 pa_nil rfl) rfl)) fun σ H Q ⟨ρ, env, st, hen, S, hf⟩ => ?_
        simp only [evE] at hf
        split at hf
        · rename_i k0 hk0
          obtain ⟨v, hv, r⟩ := hen.at_ _ _ hk0
          cases r with
          | fn hl => cases hl
          | err ha =>
            cases ha
            exact ⟨_, hv, cv, u, b, rfl, h2, h3, hf.now S (.bl b)⟩
        · exact hf.elim
      unfold excV at hb
      split at hb
      · rename_i k' hk'
        cases hb
        obtain ⟨C', h1, h2, _⟩ := ex w k' hk'
        exact key (pe_clsName hgw h2 hdb) (fun u' h => h) ((xk.kx k C hC).2.2 k' C' h1)
      · split at hb
        · rename_i hw
          subst hw
          cases hb
          exact key (pe_tyName (n := "ValueError") hgw xk.ve rfl (by decide) hdb) (fun u' h => h) (xk.kx k C hC).2.1
        · cases hb
    glh := fun w g h => by cases h
    qual := fun h => absurd rfl h
    lms := fun _ h => by cases h
    cw := fun h => by cases h
    nw := .nil rfl rfl }
theorem hot_ok [LL] (ok : CcOk m E X c) {n : Str} {j k : Nat} {a C : Addr} {oe : Obj} {pn : List (Addr × Obj)} (hN : X.N[j]? = some n) (hln : X.env.kindOf n = some .local) (hdn : (n == ("__debug__" : Str)) = false) (hcn : (n == ("__classdict__" : Str)) = false)
    (xk : XkOk m X c.hit) (hC : m.xA[k]? = some C) (hz : Zc (.ref C) none oe) (hf : ∃ vs, oe.data = .fields vs) : @CcOk (erL LL.cb a) (hotM m) noE (X.suite a ((a, oe) :: pn)) (hotC c n j k) :=
  hot_ok0 LL.cb ok.N ok.sc ok.fn ok.nd ok.u ok.cl ok.ty ok.fd ok.dp ok.ex ok.nx ok.xh hN hln hdn hcn xk hC hz hf

theorem SRel.widen [LL] {nm : Nm} {P : Program} {w : World} {K : PySem.W.Frag} {ρ : List Addr} {H H' : Hp} {st : Store} (S : SRel nm P w K ρ H st) (hx : ∀ b o, H b = some o → H' b = some o) : SRel nm P w K ρ H' st ∧ Step ρ H ρ H' := by
  have stp : Step ρ H ρ H' := ⟨fun _ _ h => h, fun a o h n => ⟨hx a o h, n⟩, fun a o u h => hx a _ h⟩
  refine ⟨⟨S.nd, S.sz, fun n a h => ?_, CtOk.mono S stp⟩, stp⟩
  obtain ⟨o, g, r⟩ := S.ob n a h
  have hl := S.live (List.mem_of_getElem? h)
  obtain ⟨u, hu⟩ := Option.ne_none_iff_exists'.mp hl
  exact ⟨o, g, ORep.mono S stp (by rw [hx a u hu, hu]) r⟩
/-- a compile function is right, whatever lambdas there are -/
def ScOk (sc : Cc → List Stmt → Option Ss) : Prop := ∀ (L : LL) {m : Md} {E : XK} {X : Cx} {c : Cc} {b : List Stmt} {y : Ss}, @CcOk L m E X c → X.env.scope.kind = .function → PassesOwn (model X.prog X.w) X.A X.env X.xe → TryX X E → sc c b = some y → PSs X b (@tSs L m E X y)
/-- the handler does what was worked out -/
theorem hot_run [LL] {sc : Cc → List Stmt → Option Ss} (hsc : ScOk sc) (ok : CcOk m E X c) (t : TryX X E) (hk : X.env.scope.kind = .function) {n : Str} {j k : Nat} {a C : Addr} {oe : Obj} {pn : List (Addr × Obj)} {body : List Stmt} {w : List Nat} (hN : X.N[j]? = some n) (hln : X.env.kindOf n = some .local) (hdn : (n == ("__debug__" : Str)) = false) (hcn : (n == ("__classdict__" : Str)) = false)
    (xk : XkOk m X c.hit) (hC : m.xA[k]? = some C) (hz : Zc (.ref C) none oe) (hf : ∃ vs, oe.data = .fields vs) (hw : hotW sc c n j body k = some w) :
    PSs (X.suite a ((a, oe) :: pn)) body (fun D σ H => (∃ σ0 : L2.St, σ = σ0.set j (some (.ref a))) ∧ ∀ H' : Hp, (∀ b o, H b = some o → H' b = some o) → D.rt (.str (toS w)) H') := by
  unfold hotW at hw
  split at hw
  · rename_i hb hsb
    split at hw
    · rename_i w' st' hev
      cases hw
      have P := hsc (erL LL.cb a) (hot_ok (a := a) (oe := oe) (pn := pn) ok hN hln hdn hcn xk hC hz hf) hk PassesOwn.never ⟨t.stk, t.frm, fun u s' x => by
        obtain ⟨_, _, _, _, _, _, _, _, _, _, _, _, _, _, _, _, w⟩ := x
        exact w.elim⟩ hsb
      refine ⟨fun pins s σ H D I ⟨⟨σ0, hσ⟩, h⟩ => P.run pins s σ H D I ?_⟩
      have hlen : σ.length = c.N.length := by rw [← ok.N]; exact I.len
      letI : LL := erL LL.cb a
      refine ⟨[], hotE c.N.length j, Store.nil, ⟨?_, fun i d hi => ?_⟩, ⟨List.nodup_nil, rfl, fun n a h => by simp at h, fun g h => by cases h⟩, ?_⟩
      · unfold hotE
        rw [List.length_set, List.length_replicate, hlen]
      · unfold hotE at hi
        by_cases hij : i = j
        · subst hij
          by_cases hlt : i < c.N.length
          · rw [List.getElem?_set_self (by rw [List.length_replicate]; exact hlt)] at hi
            cases hi
            refine ⟨.ref a, ?_, .err rfl⟩
            rw [hσ]
            rw [hσ, List.length_set] at hlen
            exact List.getElem?_set_self (by rw [hlen]; exact hlt)
          · rw [List.getElem?_eq_none (by rw [List.length_set, List.length_replicate]; omega)] at hi
            cases hi
        · rw [List.getElem?_set_ne (Ne.symm hij)] at hi
          have := List.mem_of_getElem? hi
          rw [List.mem_replicate] at this
          cases this.2
      · have hev' : exSs (hotM m).T (hotM m).F (hotM m).call hb (hotE c.N.length j) Store.nil = .ok (.rt (.str w)) st' := hev
        rw [hev']
        intro ρ' H' b stp S' r
        cases b with
        | inl σ' => exact r.elim
        | inr v =>
          have r : Rep X.K ρ' H' (.str w) v := r
          cases r
          exact h H' fun b o e => (stp.keep b o e (by simp)).1
    · cases hw
  · cases hw
/-- try: x(y) except: a word -/
theorem ss_word [LL] {sc : Cc → List Stmt → Option Ss} (hsc : ScOk sc) (ok : CcOk m E X c) (t : TryX X E) (hk : X.env.scope.kind = .function) (hcw : c.cw = true) {v y xc n : Str} {iv iy j kc : Nat} {CS : Addr} {hs : List (Nat × List Nat)} {b0 : Stmt} {suite : List Stmt} {vp yp cpos epos np hpos pos : Pos}
    (hcls : Names X xc (.ref CS)) (hxa : m.xA[kc]? = some CS) (hhs : ∀ k w, hs.lookup k = some w → c.hit k kc = true ∧ hotW sc c n j (b0 :: suite) k = some w)
    (hN : X.N[j]? = some n) (hln : X.env.kindOf n = some .local) (hdn : (n == ("__debug__" : Str)) = false) (hcn : (n == ("__classdict__" : Str)) = false)
    (hv : X.N[iv]? = some v) (hvv : Vis X.env.scope v) (hdv : (v == ("__debug__" : Str)) = false) (hcv : (v == ("__classdict__" : Str)) = false)
    (hy : X.N[iy]? = some y) (hvy : Vis X.env.scope y) (hdy : (y == ("__debug__" : Str)) = false) (hcy : (y == ("__classdict__" : Str)) = false) :
    PS X (.Try [.Expr (.Call (.Name v vp) [.Name y yp] [] cpos) epos] [.ExceptHandler (some (.Name xc np)) (some n) (b0 :: suite) hpos] [] [] pos) (tSt m E X (.word iv iy hs)) := by
  obtain ⟨⟨her, nr, hr, Lm⟩, xk⟩ := ok.cw hcw
  refine imS (ps_try_as (X := X) (c := .ref CS) t.stk t.frm ok.nd hN hln hcls t.tk
   (tb := fun W D σ H => tCallV m X iv (WE W) (tCons (tVar iy) tNil) σ H (fun _ H' => D.nx σ H'))
   (ts := fun a cls d D σ H => ∃ k C w, cls = .ref C ∧ d = none ∧ m.xA[k]? = some C ∧ hotW sc c n j (b0 :: suite) k = some w ∧ (∃ σ0 : L2.St, σ = σ0.set j (some (.ref a))) ∧ ∀ H' : Hp, (∀ b o, H b = some o → H' b = some o) → D.rt (.str (toS w)) H')
   (fun W pn xe tkW po => pss_one (ps_expr (pe_callV (X := X.tr pn xe) her Lm hr (fun σ => passAt tkW σ) hv hvv hdv hcv (pa_cons (pe_var (X := X.tr pn xe) hy hvy hdy hcy) pa_nil rfl) rfl rfl) rfl))
   (fun a oe cls d pn hz hof => ⟨fun pins s σ H D I ⟨k, C, w, e1, e2, hC, hw, hσ, h⟩ => by subst e1 e2; exact (hot_run hsc ok t hk hN hln hdn hcn xk hC hz hof hw).run pins s σ H D I ⟨hσ, h⟩⟩)) fun D σ H ⟨ρ, env, st, hen, S, hf⟩ => ?_
  simp only [exS] at hf
  split at hf
  · rename_i kf d hev hei
    obtain ⟨vf, hvf, rvf⟩ := hen.at_ _ _ hev
    obtain ⟨vd, hvd, rvd⟩ := hen.at_ _ _ hei
    obtain ⟨f, rfl⟩ : ∃ f, vf = .ref f := by cases rvf <;> exact ⟨_, rfl⟩
    refine ⟨f, kf, ρ, hvf, rvf, vd, hvd, ?_⟩
    refine ⟨⟨ρ, rvf⟩, ρ, st, [d], S, .cons rvd .nil, ?_⟩
    cases hc : m.call kf [d] st with
    | stuck => rw [hc] at hf; exact hf.elim
    | ok d2 st2 =>
      rw [hc] at hf
      intro ρ2 H2 v s2 S2 r2
      exact hf ρ2 H2 (.inl σ) s2 S2 (hen.mono S s2)
    | exc kx x st2 =>
      rw [hc] at hf
      intro ρ2 H2 o C s2 S2 hC hX
      simp only at hf
      split at hf
      · split at hf
        · rename_i w hw
          obtain ⟨h1, h2⟩ := hhs _ _ hw
          refine ⟨true, by rw [ok.xh kx kc C CS hC hxa, h1], fun _ a na => ⟨kx, C, w, rfl, ?_, hC, h2, ⟨σ, rfl⟩, fun H' hx' => ?_⟩, fun z => by cases z⟩
          · rcases hX with ⟨_, e⟩ | ⟨dd, v, hne, _⟩
            · exact e
            · exact absurd rfl hne
          · obtain ⟨S3, s3⟩ := SRel.widen S2 hx'
            exact hf ρ2 H' (.inr (.str (toS w))) (s2.trans s3) S3 (.str w)
        · exact hf.elim
      · exact hf.elim
  · exact hf.elim
end
end VI
/-! VIq: from the text's trees to the form; statements. -/
namespace VI
open PySem PySem.Spec PyProof.Rows L2
variable [LL]
def isComp : Expr → Bool
  | .ListComp .. | .SetComp .. | .DictComp .. => true
  | _ => false
/-- the stores that are swapped: none if not known -/
def swpT (c : Cc) (ts vs : List Expr) : Option (Option (List Str)) :=
  if (!(ts.length == 2 || ts.length == 3) || vs.length != ts.length) = true then some none
  else if (vs.any fun | .Starred .. => true | _ => false) = true then some none
  else
    let names := ts.filterMap fun
      | .Name id pos => if (c.kind id == some .local && pos.line == (ts.head?.map (·.pos.line)).getD 0) = true then some id else none
      | _ => none
    if (names.length != ts.length || names.eraseDups.length != names.length) = true then some none
    else if vs.all (foldedForSure 8) = true then some none
    else if vs.all (constantsAlone 8) = true then none
    else some (some names)
def cA (f : Expr → Option Ex) (c : Cc) : Expr → Option As
  | .Name w p => (cNm c (.Name w p)).map .nm
  | .Subscript a b _ => if isSlice b then none else (match f a, f b with
    | some x, some y => some (.sub x y)
    | _, _ => none)
  | _ => none
def cAts (f : Expr → Option Ex) (c : Cc) : List Expr → Option Ats
  | [] => some .nil
  | e :: r => match cA f c e, cAts f c r with
    | some x, some y => some (.cons x y)
    | _, _ => none
def cPar (f : Expr → Option Ex) (c : Cc) (ts vs : List Expr) : Option St := if c.hot then none else match swpT c ts vs with
  | some (some names) => (match cNms c ts, cXs f vs with
    | some is, some xs => if decide (is.map (fun i => c.N[i]?) = names.map some) && decide is.Nodup then some (.par is xs) else none
    | _, _ => none)
  | some none => (match cAts f c ts, cXs f vs with
    | some t, some x => some (.asg (.tp t) (.tup x))
    | _, _ => none)
  | none => none
def swl (c : Cc) (w : Str) (p : Pos) (scope : Scope) (pos : Pos) : Bool := c.kind w == some .local && p.line == pos.line && !(scope.names.any fun (n, k) => n == w && (k == .local || k == .cell))
def cAsg (rec : Bool → Cc → Expr → Option Ex) (c : Cc) (tg e : Expr) : Option St := match tg, e with
  | .Name w p, .ListComp elt gs scope _ => (match cNm c (.Name w p), cLc rec c elt gs scope with
    | some i, some x => some (.asg (.nm i) x)
    | _, _ => none)
  | .Name w p, .DictComp ky vl gs scope _ => (match cNm c (.Name w p), cDc rec c ky vl gs scope with
    | some i, some x => some (.asg (.nm i) x)
    | _, _ => none)
  | .Attribute o w p, e => (match c.fd w, rec false c o, rec false c e with
    | some n, some x, some y => some (.asg (.fld x n) y)
    | _, _, _ => none)
  | .Tuple ts _ _, .Tuple vs _ _ => cPar (rec false c) c ts vs
  | .Tuple ts _ _, e => if isComp e || isTup e || c.hot then none else (match cAts (rec false c) c ts, rec false c e with
    | some t, some x => some (.asg (.tp t) x)
    | _, _ => none)
  | .Name w p, e => if isComp e then none else (match cNm c (.Name w p), rec false c e with
    | some i, some x => some (.asg (.nm i) x)
    | _, _ => none)
  | .Subscript a b p, e => (match cA (rec false c) c (.Subscript a b p), rec false c e with
    | some t, some x => some (.asg t x)
    | _, _ => none)
  | _, _ => none
/-- raise C("..") -/
def cRaise (c : Cc) : Option Expr → Option Expr → St
  | some (.Call (.Name w _) [.Constant (.str _) _ _] [] _), none => if c.isGl w && (c.exo w).isNone && !(w == "__debug__") then (match c.ex w with
    | some k => .rse k
    | none => .bad) else .bad
  | _, _ => .bad
/-- raise C(e), C with an own __init__ -/
def cRaiseV (f : Expr → Option Ex) (c : Cc) : Option Expr → Option Expr → Option St
  | some (.Call (.Name w _) [e] [] _), none => if c.isGl w && !(w == "__debug__") && !isStar e then (match c.exo w, f e with
    | some k, some x => some (.rseV k x)
    | _, _ => none) else none
  | _, _ => none
/-- a name that is read -/
def cVn (c : Cc) (w : Str) : Option Nat := if c.isVis w && (!(w == "__debug__") && !(w == "__classdict__")) then ixOf c.N w else none
def allSm {α β : Type} (f : α → Option β) : List α → Option (List (α × β))
  | [] => some []
  | a :: r => match f a, allSm f r with
    | some b, some t => some ((a, b) :: t)
    | _, _ => none
/-- try: v(y) except xc as n: a word -/
def cWord (sc : Cc → List Stmt → Option Ss) (c : Cc) (v y xc n : Str) (body : List Stmt) : Option St :=
  if c.cw && (c.isGl xc && (!(xc == "__debug__") && (decide (c.kind n = some .local) && (!(n == "__debug__") && !(n == "__classdict__"))))) then match c.ex xc, cVn c v, cVn c y, ixOf c.N n with
    | some kc, some iv, some iy, some j => (allSm (hotW sc c n j body) ((List.range c.nx).filter (c.hit · kc))).map (.word iv iy)
    | _, _, _, _ => none
  else none
def stS (rec : Bool → Cc → Expr → Option Ex) (sc : Cc → List Stmt → Option Ss) (ss : List Stmt → Option Ss) (c : Cc) : Stmt → Option St
  | .Expr e _ => if isComp e then none else (rec false c e).map .ex
  | .Return (some e) _ => (rec false c e).map .ret
  | .If t a b _ => (match rec true c t, ss a, ss b with
    | some x, some y, some z => some (.ite x y z)
    | _, _, _ => none)
  | .While t b [] _ => (match rec true c t, ss b with
    | some x, some y => some (.whl x y)
    | _, _ => none)
  | .For tg it b [] _ => if c.hot then none else (match cTg c tg, cI (rec false c) c tg it, ss b with
    | some t, some (k, es), some y => some (.for t k es y)
    | _, _, _ => none)
  | .AugAssign (.Name w p) .Add e _ => (match cNm c (.Name w p), rec false c e with
    | some i, some x => some (.aug i x)
    | _, _ => none)
  | .Raise e b _ => if c.hot then none else (match cRaiseV (rec false c) c e b with
    | some t => some t
    | none => some (cRaise c e b))
  | .Try [s] [.ExceptHandler (some (.Name xc _)) none [.Return (some he) _] _] [] [] _ => cTry (rec false c) c s xc he
  | .Try [s] [.ExceptHandler (some (.Name xc _)) (some n) [.Return (some he) _] _] [] [] _ => cTryN (rec false c) c s xc n he
  | .Try [.Expr (.Call (.Name v _) [.Name y _] [] _) _] [.ExceptHandler (some (.Name xc _)) (some n) (b0 :: b1 :: suite) _] [] [] _ => cWord sc c v y xc n (b0 :: b1 :: suite)
  | .Assign [tg] e _ => cAsg rec c tg e
  | _ => none
def compS : Nat → Cc → List Stmt → Option Ss
  | 0, _, _ => none
  | _ + 1, _, [] => some .nil
  | n + 1, c, s :: r => match stS (comp n) (compS n) (compS n c) c s, compS n c r with
    | some x, some y => some (.cons x y)
    | _, _ => none
section
variable {m : Md} {E : XK} {X : Cx} {c : Cc} {f : Expr → Option Ex} {e a b d : Expr} {x y : Ex} {pos : Pos}
theorem blockKind_of {env : PySem.Env} (h : env.scope.kind = .function) : env.blockKind = .function := by unfold Env.blockKind; rw [h]; rfl
theorem swpT_ok (ok : CcOk m E X c) (hk : X.env.scope.kind = .function) {ts vs : List Expr} {k1 k2 : Nat} {p1 p2 : Pos} {r : Option (List Str)} (h : swpT c ts vs = some r) : swappedStores [.Tuple ts k1 p1] (.Tuple vs k2 p2) X.env = pure r := by
  have hkd : ∀ w, X.env.kindOf w = c.kind w := fun w => by unfold Env.kindOf Cc.kind; rw [ok.sc]
  unfold swpT at h
  unfold swappedStores
  simp only [blockKind_of hk, hkd]
  have hb : (ScopeKind.function != ScopeKind.function) = false := rfl
  simp only [hb, Bool.or_false]
  split at h
  · rename_i h1
    cases h
    exact if_pos h1
  · rename_i h1
    refine (if_neg h1).trans ?_
    split at h
    · rename_i h2
      cases h
      exact if_pos h2
    · rename_i h2
      refine (if_neg h2).trans ?_
      simp only at h
      split at h
      · rename_i h3
        cases h
        exact if_pos h3
      · rename_i h3
        refine (if_neg h3).trans ?_
        split at h
        · rename_i h4
          cases h
          exact if_pos h4
        · rename_i h4
          refine (if_neg h4).trans ?_
          split at h
          · cases h
          · rename_i h5
            cases h
            exact if_neg h5
theorem swaps_no {t : Option Expr} {l : Nat} {env : PySem.Env} (h : isComp e = false) : swapsWith e t l env = pure false := by
  cases e <;> first | rfl | cases h
theorem cA_ok (ok : CcOk m E X c) (hf : ∀ {e x}, f e = some x → PE X e (tEv m E X x)) {tg : Expr} {t : As} (h : cA f c tg = some t) : PG X tg (tA m E X t) ∧ ∀ es : List Expr, assignEach (tg :: es) X.env = (false, assign tg X.env) :: assignEach es X.env := by
  unfold cA at h
  split at h
  · obtain ⟨i, hi, rfl⟩ := Option.map_eq_some_iff.mp h
    obtain ⟨w, p, e1, h1, h2, h3⟩ := cNm_ok ok hi
    cases e1
    exact ⟨sg_name ok.nd h1 h2 h3, fun _ => rfl⟩
  · split at h
    · cases h
    · rename_i b p hs
      split at h
      · rename_i x y hx hy
        cases h
        refine ⟨sg_sub ok.u (hf hx) (hf hy) fun v => ?_, fun _ => rfl⟩
        cases b <;> first | rfl | (simp [isSlice] at hs; done)
      · cases h
  · cases h
theorem cAts_ok (ok : CcOk m E X c) (hf : ∀ {e x}, f e = some x → PE X e (tEv m E X x)) : ∀ {ts : List Expr} {t : Ats}, cAts f c ts = some t → PGs X ts (tAs m E X t) ∧ (assignEach ts X.env).length = t.len ∧ (assignEach ts X.env).findIdx? (·.1) = none
  | [], t, h => by
    cases h
    exact ⟨sgs_nil, rfl, rfl⟩
  | e :: r, t, h => by
    unfold cAts at h
    split at h
    · rename_i x y hx hy
      cases h
      obtain ⟨g1, g2⟩ := cA_ok ok hf hx
      obtain ⟨h1, h2, h3⟩ := cAts_ok ok hf hy
      refine ⟨sgs_cons g1 h1 (by rw [g2]; rfl), ?_, ?_⟩
      · rw [g2, List.length_cons, h2]; rfl
      · rw [g2, List.findIdx?_cons]
        simp only [Bool.false_eq_true, if_false, h3, Option.map_none]
    · cases h
theorem cNms_len : ∀ {ts : List Expr} {is : List Nat}, cNms c ts = some is → ts.length = is.length
  | [], _, h => by cases h; rfl
  | e :: r, _, h => by
    unfold cNms at h
    split at h
    · rename_i i is hi hr
      cases h
      rw [List.length_cons, List.length_cons, cNms_len hr]
    · cases h
theorem swpT_names {ts vs : List Expr} {names : List Str} (h : swpT c ts vs = some (some names)) : vs.length = ts.length ∧ (ts.length = 2 ∨ ts.length = 3) ∧ ∀ n ∈ names, c.kind n = some .local := by
  unfold swpT at h
  split at h
  · cases h
  · rename_i h1
    split at h
    · cases h
    · simp only at h
      split at h
      · cases h
      · split at h
        · cases h
        · split at h
          · cases h
          · cases h
            simp only [Bool.or_eq_true, Bool.not_eq_true', bne_iff_ne, ne_eq, not_or, Bool.not_eq_false, beq_iff_eq, Decidable.not_not] at h1
            refine ⟨h1.2, h1.1, fun n hn => ?_⟩
            obtain ⟨e, _, he⟩ := List.mem_filterMap.mp hn
            split at he
            · split at he
              · rename_i hc
                cases he
                simp only [Bool.and_eq_true, beq_iff_eq] at hc
                exact hc.1
              · cases he
            · cases he
theorem cPar_ok (ok : CcOk m E X c) (hk : X.env.scope.kind = .function) (hf : ∀ {e x}, f e = some x → PE X e (tEv m E X x)) {ts vs : List Expr} {k1 k2 : Nat} {p1 p2 : Pos} {t : St} (h : cPar f c ts vs = some t) : PS X (.Assign [.Tuple ts k1 p1] (.Tuple vs k2 p2) pos) (tSt m E X t) := by
  unfold cPar at h
  split at h
  · cases h
  rename_i hht
  have hcm := ok.calm (by simpa using hht)
  split at h
  · rename_i names hsw
    split at h
    · rename_i is xs hi hx
      split at h
      · rename_i hc
        cases h
        simp only [Bool.and_eq_true, decide_eq_true_eq] at hc
        obtain ⟨hc1, hc2⟩ := hc
        obtain ⟨n1, n2, n3⟩ := swpT_names hsw
        have hloc : ∀ w ∈ names, X.env.scope.names.lookup w = some .local := fun w hw => by rw [ok.sc]; exact n3 w hw
        have hps := cNms_ok ok hi
        have hsw' := swpT_ok ok hk (k1 := k1) (k2 := k2) (p1 := p1) (p2 := p2) hsw
        have hxs := (cXs_ok hf hx).1
        rcases n2 with n2 | n2
        · match ts, vs, n2, n1.trans n2 with
          | [t1, t2], [v1, v2], _, _ =>
            cases hps with
            | cons q1 qq =>
              cases qq with
              | cons q2 qq =>
                cases qq
                rename_i i1 i2
                obtain ⟨w1, pp1, rfl, a1, b1, c1⟩ := q1
                obtain ⟨w2, pp2, rfl, a2, b2, c2⟩ := q2
                rw [ok.N] at a1 a2
                simp only [List.map_cons, List.map_nil, a1, a2] at hc1
                match names, hc1 with
                | [u1, u2], hc1 =>
                  simp only [List.map_cons, List.map_nil, List.cons.injEq, Option.some.injEq, and_true] at hc1
                  obtain ⟨rfl, rfl⟩ := hc1
                  simp only [List.nodup_cons, List.mem_singleton] at hc2
                  exact ss_par hcm ok.nd (by rw [ok.N]; exact a1) (by rw [ok.N]; exact a2) hc2.1 (hloc _ (by simp)) (hloc _ (by simp)) hxs hsw' rfl
        · match ts, vs, n2, n1.trans n2 with
          | [t1, t2, t3], [v1, v2, v3], _, _ =>
            cases hps with
            | cons q1 qq =>
              cases qq with
              | cons q2 qq =>
                cases qq with
                | cons q3 qq =>
                  cases qq
                  rename_i i1 i2 i3
                  obtain ⟨w1, pp1, rfl, a1, b1, c1⟩ := q1
                  obtain ⟨w2, pp2, rfl, a2, b2, c2⟩ := q2
                  obtain ⟨w3, pp3, rfl, a3, b3, c3⟩ := q3
                  rw [ok.N] at a1 a2 a3
                  simp only [List.map_cons, List.map_nil, a1, a2, a3] at hc1
                  match names, hc1 with
                  | [u1, u2, u3], hc1 =>
                    simp only [List.map_cons, List.map_nil, List.cons.injEq, Option.some.injEq, and_true] at hc1
                    obtain ⟨rfl, rfl, rfl⟩ := hc1
                    simp only [List.nodup_cons, List.mem_cons, List.not_mem_nil, or_false, not_or] at hc2
                    exact ss_par3 hcm ok.nd (by rw [ok.N]; exact a1) (by rw [ok.N]; exact a2) (by rw [ok.N]; exact a3) hc2.1.1 hc2.1.2 hc2.2.1 (hloc _ (by simp)) (hloc _ (by simp)) (hloc _ (by simp)) hxs hsw' rfl
      · cases h
    · cases h
  · rename_i hsw
    split at h
    · rename_i tt x ht hx
      cases h
      obtain ⟨h1, h2, h3⟩ := cAts_ok ok hf ht
      exact ss_asg (se_tup (cXs_ok hf hx).1) (sg_tup hcm h1 h2 h3) rfl (swpT_ok ok hk hsw) rfl
    · cases h
  · cases h
theorem stores_no {tg : Expr} {env : PySem.Env} (h : isTup e = false) : swappedStores [tg] e env = pure none := by
  cases tg <;> cases e <;> first | rfl | (simp [isTup] at h; done)
theorem cAsg_ok {rec : Bool → Cc → Expr → Option Ex} (R : RecOk rec) (ok : CcOk m E X c) (hk : X.env.scope.kind = .function) {tg : Expr} {t : St} (h : cAsg rec c tg e = some t) : PS X (.Assign [tg] e pos) (tSt m E X t) := by
  have hf : ∀ {e x}, rec false c e = some x → PE X e (tEv m E X x) := fun h => R.val ok h
  unfold cAsg at h
  split at h
  · rename_i w p elt gs scope pos'
    split at h
    · rename_i i x hi hx
      cases h
      obtain ⟨w', p', e1, h1, h2, h3⟩ := cNm_ok ok hi
      cases e1
      obtain ⟨tg, it, ifs, own, t, k, es, cx, ex, rfl, rfl, l2, l3, l4, l5, l6, hcm⟩ := cLc_ok R ok hx
      have hsw : swapsWith (.ListComp elt [⟨tg, it, ifs, 0⟩] scope pos') (some (.Name w p)) pos.line X.env = pure (swl c w p scope pos') := by
        unfold swapsWith swl
        have hkd : X.env.kindOf w = c.kind w := by unfold Env.kindOf Cc.kind; rw [ok.sc]
        simp only [blockKind_of hk, hkd]
        rfl
      cases hs : swl c w p scope pos' with
      | true =>
        rw [hs] at hsw
        unfold swl at hs
        simp only [Bool.and_eq_true, beq_iff_eq, Cc.kind, ← ok.sc] at hs
        exact ss_setLc l2 hcm ok.nd h1 hs.1.1 hsw l3 l4 l5 l6
      | false =>
        rw [hs] at hsw
        exact ss_set ok.nd h1 h2 (se_lc l2 hcm ok.nd l3 l4 l5 l6) hsw h3
    · cases h
  · rename_i w p ky vl gs scope pos'
    split at h
    · rename_i i x hi hx
      cases h
      obtain ⟨w', p', e1, h1, h2, h3⟩ := cNm_ok ok hi
      cases e1
      obtain ⟨tg, it, ifs, own, t, k, es, cx, kx, vx, rfl, rfl, l2, l3, l4, l5, l6, hcm⟩ := cDc_ok R ok hx
      have hsw : swapsWith (.DictComp ky vl [⟨tg, it, ifs, 0⟩] scope pos') (some (.Name w p)) pos.line X.env = pure (swl c w p scope pos') := by
        unfold swapsWith swl
        have hkd : X.env.kindOf w = c.kind w := by unfold Env.kindOf Cc.kind; rw [ok.sc]
        simp only [blockKind_of hk, hkd]
        rfl
      cases hs : swl c w p scope pos' with
      | true =>
        rw [hs] at hsw
        unfold swl at hs
        simp only [Bool.and_eq_true, beq_iff_eq, Cc.kind, ← ok.sc] at hs
        exact ss_setDc l2 ok.u hcm ok.nd h1 hs.1.1 hsw l3 l4 l5 l6
      | false =>
        rw [hs] at hsw
        exact ss_set ok.nd h1 h2 (se_dc l2 ok.u hcm ok.nd l3 l4 l5 l6) hsw h3
    · cases h
  · split at h
    · rename_i n x y hn hx hy
      cases h
      obtain ⟨f1, f2⟩ := ok.fd _ _ hn
      have hsw : ∀ (v o : Expr) (w : Str) (p : Pos), swapsWith v (some (.Attribute o w p)) pos.line X.env = pure false := fun v o w p => by cases v <;> rfl
      exact ss_fld ok.cl f1 f2 (hf hx) (hf hy) (hsw _ _ _ _)
    · cases h
  · exact cPar_ok ok hk hf h
  · split at h
    · cases h
    · rename_i hc
      split at h
      · rename_i tt x ht hx
        cases h
        obtain ⟨h1, h2, h3⟩ := cAts_ok ok hf ht
        simp only [Bool.or_eq_true, not_or, Bool.not_eq_true] at hc
        exact ss_asg (hf hx) (sg_tup (ok.calm hc.2) h1 h2 h3) (by unfold swapsWithSole; exact swaps_no hc.1.1) (stores_no hc.1.2) rfl
      · cases h
  · split at h
    · cases h
    · rename_i hc
      split at h
      · rename_i i x hi hx
        cases h
        obtain ⟨w', p', e1, h1, h2, h3⟩ := cNm_ok ok hi
        cases e1
        exact ss_set ok.nd h1 h2 (hf hx) (swaps_no (by simpa using hc)) h3
      · cases h
  · split at h
    · rename_i tt x ht hx
      cases h
      refine ss_asg (hf hx) (cA_ok ok hf ht).1 ?_ ?_ rfl
      · cases e <;> rfl
      · cases e <;> rfl
    · cases h
  · cases h
theorem cTryC_swaps {f : Expr → Option Ex} {kc : Nat} {hd : Hd} {tgt : Tk} {st : St} {lpos : Nat} {env : PySem.Env} (h : cTryC f c kc hd tgt e = some st) : swapsWith e none lpos env = pure false := by
  unfold cTryC at h
  split at h
  · exact swaps_no rfl
  · cases h
theorem cHd_plain {hd : Hd} (h : cHd c e = some hd) : hd.plain = true := by
  unfold cHd at h
  split at h
  · cases h; rfl
  · cases h; rfl
  · split at h
    · obtain ⟨i, _, rfl⟩ := Option.map_eq_some_iff.mp h
      rfl
    · cases h
  · cases h
theorem cTry_ok {rec : Bool → Cc → Expr → Option Ex} (R : RecOk rec) (ok : CcOk m E X c) (tx : TryX X E) {s : Stmt} {xc : Str} {he : Expr} {st : St} {np hpos pos' : Pos} (h : cTry (rec false c) c s xc he = some st) :
    PS X (.Try [s] [.ExceptHandler (some (.Name xc np)) none [.Return (some he) hpos] pos'] [] [] pos) (tSt m E X st) := by
  have hf : ∀ {E : XK} {X : Cx} {e x}, CcOk m E X c → rec false c e = some x → PE X e (tEv m E X x) := fun ok h => R.val ok h
  unfold cTry at h
  split at h
  · rename_i kc hd hx hh
    split at h
    · rename_i hc
      simp only [Bool.and_eq_true, Bool.not_eq_true'] at hc
      obtain ⟨C, h1, h2, _⟩ := ok.ex xc kc hx
      have hpd := cHd_plain hh
      have hcls : Names X xc (.ref C) := ⟨gl_of ok hc.1, hc.2, .inl h2⟩
      split at h
      · exact cTryC_ok ok tx hf h hcls h1 ok.nx (fun pn xe te hp => pss_one (ps_ret hp)) hpd (cHd_ok ok hh)
      · exact cTryC_ok ok tx hf h hcls h1 ok.nx (fun pn xe te hp => pss_one (ps_expr hp (cTryC_swaps h))) hpd (cHd_ok ok hh)
      · split at h
        · rename_i j hj
          obtain ⟨w', p', e1, i1, i2, i3⟩ := cNm_ok ok hj
          cases e1
          refine cTryC_ok ok tx hf h hcls h1 ok.nx (fun pn xe te hp => pss_one (ps_set (X := X.tr pn xe) ok.nd i1 i2 hp ?_ i3)) hpd (cHd_ok ok hh)
          unfold cTryC at h
          split at h
          · exact swaps_no rfl
          · cases h
        · cases h
      · cases h
    · cases h
  · cases h
theorem cTryN_ok {rec : Bool → Cc → Expr → Option Ex} (R : RecOk rec) (ok : CcOk m E X c) (tx : TryX X E) {s : Stmt} {xc n : Str} {he : Expr} {st : St} {np hpos pos' : Pos} (h : cTryN (rec false c) c s xc n he = some st) :
    PS X (.Try [s] [.ExceptHandler (some (.Name xc np)) (some n) [.Return (some he) hpos] pos'] [] [] pos) (tSt m E X st) := by
  have hf : ∀ {E : XK} {X : Cx} {e x}, CcOk m E X c → rec false c e = some x → PE X e (tEv m E X x) := fun ok h => R.val ok h
  unfold cTryN at h
  split at h
  · rename_i kc j hx hr
    split at h
    · rename_i hc
      simp only [Bool.and_eq_true, Bool.not_eq_true'] at hc
      obtain ⟨C, h1, h2, _⟩ := ok.ex xc kc hx
      have hcls : Names X xc (.ref C) := ⟨gl_of ok hc.1, hc.2, .inl h2⟩
      unfold cRow at hr
      split at hr
      · rename_i n' p2 w apos
        split at hr
        · rename_i hq
          simp only [Bool.and_eq_true, Bool.not_eq_true', decide_eq_true_eq] at hq
          obtain ⟨⟨⟨⟨⟨q1, rfl⟩, rfl⟩, q4⟩, q5⟩, q6⟩ := hq
          have hN : X.N[j]? = some n' := by rw [ok.N]; exact ixOf_ok hr
          have hln : X.env.kindOf n' = some .local := by
            rw [show X.env.kindOf n' = c.kind n' from by unfold Env.kindOf Cc.kind; rw [ok.sc]]
            exact q4
          split at h
          · exact cTryC_okR ok tx hf q1 hN hln q5 q6 h hcls h1 ok.nx (fun pn xe te hp => pss_one (ps_ret hp))
          · exact cTryC_okR ok tx hf q1 hN hln q5 q6 h hcls h1 ok.nx (fun pn xe te hp => pss_one (ps_expr hp (cTryC_swaps h)))
          · cases h
        · cases hr
      · cases hr
    · cases h
  · cases h
theorem cVn_ok (ok : CcOk m E X c) {w : Str} {i : Nat} (h : cVn c w = some i) : X.N[i]? = some w ∧ Vis X.env.scope w ∧ (w == ("__debug__" : Str)) = false ∧ (w == ("__classdict__" : Str)) = false := by
  unfold cVn at h
  split at h
  · rename_i hc
    simp only [Bool.and_eq_true, Bool.not_eq_true'] at hc
    exact ⟨by rw [ok.N]; exact ixOf_ok h, isVis_of ok hc.1, hc.2.1, hc.2.2⟩
  · cases h
theorem allSm_ok {β : Type} {f : Nat → Option β} : ∀ {l : List Nat} {t : List (Nat × β)}, allSm f l = some t → ∀ k w, t.lookup k = some w → k ∈ l ∧ f k = some w
  | [], t, h, k, w, e => by cases h; cases e
  | a :: r, t, h, k, w, e => by
    unfold allSm at h
    split at h
    · rename_i b t' hb ht
      cases h
      rw [List.lookup_cons] at e
      by_cases hk : k = a
      · subst hk
        simp at e
        subst e
        exact ⟨List.mem_cons_self, hb⟩
      · rw [beq_eq_false_iff_ne.mpr hk] at e
        obtain ⟨h1, h2⟩ := allSm_ok ht k w e
        exact ⟨List.mem_cons_of_mem _ h1, h2⟩
    · cases h
theorem cWord_ok {sc : Cc → List Stmt → Option Ss} (hsc : ScOk sc) (ok : CcOk m E X c) (tx : TryX X E) (hk : X.env.scope.kind = .function) {v y xc n : Str} {b0 : Stmt} {suite : List Stmt} {st : St} {vp yp cpos epos np hpos pos : Pos} (h : cWord sc c v y xc n (b0 :: suite) = some st) :
    PS X (.Try [.Expr (.Call (.Name v vp) [.Name y yp] [] cpos) epos] [.ExceptHandler (some (.Name xc np)) (some n) (b0 :: suite) hpos] [] [] pos) (tSt m E X st) := by
  unfold cWord at h
  split at h
  · rename_i hc
    simp only [Bool.and_eq_true, Bool.not_eq_true', decide_eq_true_eq] at hc
    obtain ⟨h1, h2, h3, h4, h5, h6⟩ := hc
    split at h
    · rename_i kc iv iy j e1 e2 e3 e4
      obtain ⟨hs, e5, rfl⟩ := Option.map_eq_some_iff.mp h
      obtain ⟨CS, q1, q2, _⟩ := ok.ex _ _ e1
      obtain ⟨a1, a2, a3, a4⟩ := cVn_ok ok e2
      obtain ⟨b1, b2, b3, b4⟩ := cVn_ok ok e3
      have hkd : X.env.kindOf n = some .local := by unfold Env.kindOf; rw [ok.sc]; exact h4
      refine ss_word hsc ok tx hk h1 (kc := kc) (CS := CS) ⟨gl_of ok h2, h3, .inl q2⟩ q1 (fun k w e => ?_) (by rw [ok.N]; exact ixOf_ok e4) hkd h5 h6 a1 a2 a3 a4 b1 b2 b3 b4
      obtain ⟨m1, m2⟩ := allSm_ok e5 k w e
      exact ⟨(List.mem_filter.mp m1).2, m2⟩
    · cases h
  · cases h
theorem stS_ok {rec : Bool → Cc → Expr → Option Ex} {sc : Cc → List Stmt → Option Ss} (hsc : ScOk sc) {ss : List Stmt → Option Ss} (R : RecOk rec) (ok : CcOk m E X c) (hk : X.env.scope.kind = .function) (hp : PassesOwn (model X.prog X.w) X.A X.env X.xe) (tx : TryX X E) (hss : ∀ {b y}, ss b = some y → PSs X b (tSs m E X y)) {s : Stmt} {t : St} (h : stS rec sc ss c s = some t) : PS X s (tSt m E X t) := by
  have hf : ∀ {e x}, rec false c e = some x → PE X e (tEv m E X x) := fun h => R.val ok h
  unfold stS at h
  split at h
  · split at h
    · cases h
    · rename_i hc
      obtain ⟨x, hx, rfl⟩ := Option.map_eq_some_iff.mp h
      exact ss_expr (hf hx) (swaps_no (by simpa using hc))
  · obtain ⟨x, hx, rfl⟩ := Option.map_eq_some_iff.mp h
    exact ss_ret (hf hx)
  · split at h
    · rename_i x y z hx hy hz
      cases h
      exact ss_if (R.test ok hx) (hss hy) (hss hz)
    · cases h
  · split at h
    · rename_i x y hx hy
      cases h
      exact ss_while hp (R.test ok hx) (hss hy)
    · cases h
  · split at h
    · cases h
    rename_i hht
    split at h
    · rename_i tt k es y ht hi hy
      cases h
      obtain ⟨i1, i3⟩ := cI_ok ok hf hi
      exact ss_for hp ok.nd (ok.calm (by simpa using hht)) i1 (cTg_ok ok ht) (hss hy) i3
    · cases h
  · split at h
    · rename_i i x hi hx
      cases h
      obtain ⟨w', p', e1, h1, h2, h3⟩ := cNm_ok ok hi
      cases e1
      exact ss_aug ok.nd h1 h2 (hf hx) h3
    · cases h
  · split at h
    · cases h
    rename_i hht
    have hcm := ok.calm (by simpa using hht)
    split at h
    · rename_i tt hv
      cases h
      unfold cRaiseV at hv
      split at hv
      · split at hv
        · rename_i hc
          simp only [Bool.and_eq_true, Bool.not_eq_true'] at hc
          split at hv
          · rename_i k x hx he
            cases hv
            exact ss_rseV ok hcm tx hx (gl_of ok hc.1.1) hc.1.2 (hf he) (star_no hc.2)
          · cases hv
        · cases hv
      · cases hv
    · cases h
      unfold cRaise
      split
      · split
        · rename_i hc
          simp only [Bool.and_eq_true, Bool.not_eq_true'] at hc
          split
          · rename_i k hx
            exact ss_rse ok (by simpa using hht) tx hx hc.1.2 (gl_of ok hc.1.1) hc.2
          · exact ss_bad
        · exact ss_bad
      · exact ss_bad
  · exact cTry_ok R ok tx h
  · exact cTryN_ok R ok tx h
  · exact cWord_ok hsc ok tx hk h
  · exact cAsg_ok R ok hk h
  · cases h
end
theorem compS_sc : ∀ n : Nat, ScOk (compS n)
  | 0 => fun L m E X c b y ok hk hp tx h => by cases b <;> cases h
  | n + 1 => fun L m E X c b y ok hk hp tx h => by
    cases b with
    | nil =>
      cases h
      exact ss_nil
    | cons s r =>
      unfold compS at h
      split at h
      · rename_i x z hx hz
        cases h
        exact ss_cons (stS_ok (compS_sc n) (comp_ok n) ok hk hp tx (fun h => compS_sc n L ok hk hp tx h) hx) (compS_sc n L ok hk hp tx hz)
      · cases h
theorem compS_ok [LL] {m : Md} {E : XK} {X : Cx} {c : Cc} (ok : CcOk m E X c) (hk : X.env.scope.kind = .function) (hp : PassesOwn (model X.prog X.w) X.A X.env X.xe) (tx : TryX X E) : ∀ (n : Nat) {b : List Stmt} {y : Ss}, compS n c b = some y → PSs X b (tSs m E X y) :=
  fun n _ _ h => compS_sc n _ ok hk hp tx h
end VI
/-! VIlt: the lambdas of a text. -/
namespace VI
open PySem PySem.Spec PyProof.Rows L2
def lamE : Nat → Expr → List (Arguments × Expr × Scope)
  | 0, _ => []
  | n + 1, e => match e with
    | .Lambda ps b sc _ => [(ps, b, sc)]
    | .Tuple es _ _ => es.flatMap (lamE n)
    | .List es _ => es.flatMap (lamE n)
    | .BinOp a _ b _ => lamE n a ++ lamE n b
    | .BoolOp _ es _ => es.flatMap (lamE n)
    | .UnaryOp _ a _ => lamE n a
    | .Compare a _ bs _ => lamE n a ++ bs.flatMap (lamE n)
    | .IfExp a b c _ => lamE n a ++ (lamE n b ++ lamE n c)
    | .Attribute a _ _ => lamE n a
    | .Call f as ks _ => lamE n f ++ (as.flatMap (lamE n) ++ ks.flatMap fun k => lamE n k.value)
    | _ => []
def lamS : Nat → Stmt → List (Arguments × Expr × Scope)
  | 0, _ => []
  | n + 1, s => match s with
    | .Assign _ e _ => lamE 40 e
    | .Expr e _ => lamE 40 e
    | .Return (some e) _ => lamE 40 e
    | .If t a b _ => lamE 40 t ++ (a.flatMap (lamS n) ++ b.flatMap (lamS n))
    | .For _ i b _ _ => lamE 40 i ++ b.flatMap (lamS n)
    | _ => []
def freeOf (sc : Scope) : List Str := sc.names.filterMap fun y => if y.2 = .free then some y.1 else none
def lamsD (t : Tx) (i : Nat) : List LamT := match t.ds[i]? with
  | some d => ((defBody d.st).flatMap (lamS 12)).map fun p => ⟨d.qual ++ ".<locals>." ++ "<lambda>", p.1, p.2.1, p.2.2, freeOf p.2.2⟩
  | none => []
/-- the lambdas that are values -/
def lamsT (t : Tx) : List LamT := t.lf.flatMap (lamsD t)
/-- a lambda has one plain parameter, or none -/
def parsOf (ps : Arguments) : Option (List Str) := match ps with
  | ⟨[], [⟨x, none, _⟩], none, [], [], none, []⟩ => some [x]
  | ⟨[], [], none, [], [], none, []⟩ => some []
  | _ => none
/-- its names -/
def lmSc (L : LamT) (xs : List Str) : Bool := decide (parsOf L.ps = some xs) && (decide (L.scope.kind = .function) && (!L.scope.isCoroutine && (!L.scope.isGenerator && (xs.all (fun x => decide (L.scope.names.lookup x = some .local)) && (L.scope.names.all (fun y => !decide (y.2 = .cell) && (!decide (y.2 = .free) || L.caps.contains y.1)) && L.caps.all fun x => decide (L.scope.names.lookup x = some .free))))))
theorem lmSc_ok [LL] {L : LamT} {xs : List Str} (h : lmSc L xs = true) : LmScope L xs := by
  unfold lmSc at h
  simp only [Bool.and_eq_true, decide_eq_true_eq, Bool.not_eq_true', List.all_eq_true, decide_eq_false_iff_not, Bool.or_eq_true, List.contains_iff_mem] at h
  obtain ⟨h1, h2, h3, h4, h5, h6, h7⟩ := h
  obtain ⟨q, ps, body, scope, caps⟩ := L
  simp only at h1 h2 h3 h4 h5 h6 h7
  unfold parsOf at h1
  split at h1
  · cases h1
    refine ⟨h2, h3, h4, fun y hy => (h6 y hy).1, h5, fun y hy z => (h6 y hy).2.resolve_left fun q => q z, h7, (by simp), fun cl pm cv ctv us hl => ?_⟩
    match us, hl with
    | [_], _ => exact bind_any
  · cases h1
    refine ⟨h2, h3, h4, fun y hy => (h6 y hy).1, h5, fun y hy z => (h6 y hy).2.resolve_left fun q => q z, h7, (by simp), fun cl pm cv ctv us hl => ?_⟩
    match us, hl with
    | [], _ => rfl
  · cases h1
/-- the lambdas stand behind the defs -/
abbrev lamL (t : Tx) (cb : Heap) : LL := ⟨fun k => if k < t.ds.length then none else (lamsT t)[k - t.ds.length]?, cb, [], none, t.gn, none⟩
end VI
/-! VIr: defs keep their promises; the law's end. -/
namespace VI
open PySem PySem.Spec PyProof.Rows L2
variable [LL]
def Tx.aN (t : Tx) : List Str := t.fs ++ t.mn
def fldOf (t : Tx) (w : Str) : Option Nat := match ixOf t.aN w with
  | some i => if i < t.fs.length then some i else none
  | none => none
def mthOf (t : Tx) (w : Str) : Option Nat := match ixOf t.aN w with
  | some i => if i < t.fs.length then none else some i
  | none => none
def glOf (t : Tx) (w : Str) : Option G := match t.ds.findIdx? (fun d => d.x == w) with
  | some i => (match t.ds[i]? with
    | some d => if d.at_ = (w, none) then (if (mkOf t i).isEmpty then some (.fn i (d.ps.length - d.kw.length) d.kw) else some (.mkr i d.ps.length)) else none
    | none => none)
  | none => match t.cl.findIdx? (fun d => d.x == w) with
    | some c => (match t.cl[c]? with
      | some cd => (match t.ds[cd.init]? with
        | some d => some (.cls c (d.ps.length - 1))
        | none => none)
      | none => none)
    | none => match t.dcs.lookup w with
      | some kvs => some (.dic kvs)
      | none => (t.cs.lookup w).map .con
def dflOf (t : Tx) (i : Nat) : List D := match t.ds[i]? with
  | some d => d.kw.map (·.2)
  | none => []
/-- a method called with keywords: told by a number of its own -/
def mwOf (t : Tx) (w : Str) (ks : List (Option Str)) : Option Nat := match mthOf t w with
  | some i => if !ks.isEmpty && t.cl.all (fun c => c.ms.all fun q => !(q.1 == w) || (match t.ds[q.2]? with
      | some d => d.kw.isEmpty || decide (d.kw.map (fun p => some p.1) = ks)
      | none => false)) && ks.all Option.isSome then some (i + 1000) else none
  | none => none
def prOf (t : Tx) (w : Str) : Option Nat := match mthOf t w with
  | some i => if t.cl.any (fun c => c.gs.any fun q => q.1 == w) then some (i + 2000) else none
  | none => none
def lnOf (t : Tx) : Option Nat := (mthOf t ("__len__" : Str)).map (· + 3000)
/-- the lambdas of a def, told by number -/
def lmsIx (t : Tx) : List (Nat × LamT) := (lamsT t).zipIdx.map fun p => (t.ds.length + p.2, p.1)
def ccG (t : Tx) (N : List Str) (sc : Scope) (fn : Str → Bool) (lam : Option Nat) (lms : List (Nat × LamT)) (q : Str) (cw : Bool) (cps ownN : List Str) : Cc := ⟨N, sc, fn, glOf t, fun w => t.fr.contains w, mthOf t, mwOf t, fldOf t, lam, fun w => t.ex.findIdx? fun p => p.1 == w, fun k k' => (match t.ex[k']? with | some p => p.2.contains k | none => false), t.ex.length, prOf t, lnOf t, (fun w => if isXi t w then t.ex.findIdx? fun p => p.1 == w else none), !t.xi.isEmpty, false, none, lms, q, cw, cps, ownN⟩
def ccOf (t : Tx) (i : Nat) (d : Df) : Cc := ccG t d.N (defScope d.st) (fun _ => true) (t.lm.findIdx? fun p => p == (d.at_, d.qual)) (if t.lf.isEmpty then [] else lmsIx t) (d.qual ++ ".<locals>.") t.cw (if (mkOf t i).isEmpty then [] else t.gn) (mkOf t i)
/-- a lambda's -/
def ccL (t : Tx) (L : LamT) (xs : List Str) : Cc := ccG t xs L.scope (fun _ => false) none [] "" false (if L.caps.isEmpty then [] else t.gn) []
/-- what is checked of the defs whose names are captured -/
def clM (t : Tx) : Bool := t.mks.all fun p => match t.ds[p.1]? with
  | some d => decide (d.at_ = (d.x, none)) && (d.kw.isEmpty && p.2.all fun x => decide ((defScope d.st).names.lookup x = some .cell))
  | none => true
/-- how many defs and lambdas -/
def nfs (t : Tx) : Nat := t.ds.length + (lamsT t).length
def clOf (t : Tx) (c : ClD) : Cl := ⟨c.init + nfs t, c.ms.filterMap (fun p => (mthOf t p.1).map fun i => (i, p.2, dflOf t p.2)) ++ c.ms.filterMap (fun p => if (dflOf t p.2).isEmpty then none else (mthOf t p.1).map fun i => (i + 1000, p.2, [])) ++ (c.gs.filterMap (fun p => (mthOf t p.1).map fun i => (i + 2000, p.2 + nfs t, [])) ++ c.ms.filterMap (fun p => if p.1 = ("__len__" : Str) then (mthOf t p.1).map fun i => (i + 3000, p.2 + nfs t, []) else none)), (c.ms.lookup ("__eq__" : Str)).map (· + nfs t)⟩
def clsOf (t : Tx) : List Cl := t.cl.map (clOf t)
theorem lt_nfs {t : Tx} {i : Nat} {d : Df} (h : t.ds[i]? = some d) : i < nfs t := by
  have := (List.getElem?_eq_some_iff.mp h).1
  unfold nfs
  omega
/-- what is checked of the text's classes -/
def clB (t : Tx) : Bool := (decide t.aN.Nodup && decide (t.aN.length < 1000)) && t.cl.all fun c => (match t.ds[c.init]? with
  | some d => decide (d.at_ = (c.x, some ("__init__" : Str))) && d.kw.isEmpty && decide (1 ≤ d.ps.length)
  | none => false) && c.ms.all fun q => (match t.ds[q.2]? with
    | some d => decide (d.at_ = (c.x, some q.1)) && decide (d.kw.length < d.ps.length) && (!decide (q.1 = ("__eq__" : Str)) || (d.kw.isEmpty && decide (d.ps.length = 2)))
    | none => false)
/-- .. of its properties -/
def clG (t : Tx) : Bool := (t.lm.all (fun p => !t.gt.contains p.1) && t.ds.all fun d => (!d.at_.2.isNone || !t.gt.contains d.at_) && (!t.gt.contains d.at_ || d.kw.isEmpty)) && t.cl.all fun c => (match t.ds[c.init]? with
  | some d => !t.gt.contains d.at_
  | none => true) && ((c.ms.all fun q => match t.ds[q.2]? with
  | some d => !t.gt.contains d.at_ && (!decide (q.1 = ("__len__" : Str)) || (d.kw.isEmpty && decide (d.ps.length = 1)))
  | none => true) && c.gs.all fun q => match t.ds[q.2]? with
  | some d => decide (d.at_ = (c.x, some q.1)) && (d.kw.isEmpty && (decide (d.ps.length = 1) && t.gt.contains d.at_))
  | none => false)
/-- what is checked of a def -/
def scB (N ps : List Str) (sc : Scope) : Bool := decide (sc.kind = .function) && !sc.isCoroutine && !sc.isGenerator && decide N.Nodup && decide (N.take ps.length = ps) && ps.all (fun x => decide (sc.names.lookup x = some .local) || decide (sc.names.lookup x = some .cell)) && sc.names.all fun y => !decide (y.2 = .free)
theorem scB_ok {N ps : List Str} {sc : Scope} (h : scB N ps sc = true) : FnScope N ps sc := by
  unfold scB at h
  simp only [Bool.and_eq_true, decide_eq_true_eq, List.all_eq_true, Bool.or_eq_true, Bool.not_eq_true'] at h
  obtain ⟨⟨⟨⟨⟨⟨h1, h2⟩, h3⟩, h4⟩, h5⟩, h6⟩, h7⟩ := h
  exact ⟨h1, h2, h3, h4, h5, h6, fun y hy z => by have := h7 y hy; simp [z] at this⟩
/-- one def's checks: its form is the table's -/
def dfB (t : Tx) (fuel : Nat) (T : Tbl) (i : Nat) (d : Df) : Prop := scB d.N d.ps (defScope d.st) = true ∧ decide (d.kw.length ≤ d.ps.length) = true ∧ ∃ b, T.fns[i]? = some ⟨d.ps.length, d.N.length, b⟩ ∧ compS fuel (ccOf t i d) (defBody d.st) = some b
/-- a lambda's form -/
def lmE (L : LamT) (e : Ex) : Ex := if L.caps.isEmpty then e else .need e
/-- a lambda's checks -/
def lmB (t : Tx) (fuel : Nat) (T : Tbl) (j : Nat) (L : LamT) : Prop := ∃ xs e, lmSc L xs = true ∧ T.fns[t.ds.length + j]? = some ⟨xs.length, xs.length, .cons (.ret (lmE L e)) .nil⟩ ∧ comp fuel false (ccL t L xs) L.body = some e
section
variable {P : Program} {w : World} {K : PySem.W.Frag} {mg : Str → Option Value} {base : Heap}
def nmOf (t : Tx) (K : PySem.W.Frag) : Nm := ⟨t.cl.map fun c => He.ga K c.x, t.aN, t.fs.length, t.lm.map fun p => ((He.cT K p.1).2, p.2 ++ ".<locals>." ++ "<lambda>")⟩
/-- a def's facts -/
abbrev FunK (t : Tx) (K : PySem.W.Frag) (d : Df) (kws : List (Str × V)) (fd : FuncData) : Prop := FunD K d.name d.qual (defArgs d.st) (defBody d.st) (defScope d.st) [] kws (adr t K d.at_) fd
/-- what is known of the module -/
structure TxOk (t : Tx) (K : PySem.W.Frag) (w : World) (mg : Str → Option Value) : Prop where
  fn : ∀ (i : Nat) (d : Df), t.ds[i]? = some d → ∃ fd kws dvs dus, FunK t K d kws fd ∧ (d.at_ = (d.x, none) → mg d.x = some (.ref (adr t K d.at_))) ∧ Binds K fd d.ps dus ∧ Vals dvs dus ∧ (∀ ρ H, Reps K ρ H (d.kw.map (·.2)) dvs) ∧
    (d.kw ≠ [] → ∀ (s : Shared) (us ws : List Value), us.length = d.ps.length - d.kw.length → ws.length = d.kw.length → BindsTo s fd ⟨us, (d.kw.map (·.1)).zip ws⟩ (d.ps.zip (us ++ ws)))
  con : ∀ (x : Str) (d : D), t.cs.lookup x = some d → ∃ v u, mg x = some u ∧ RelV v u ∧ ∀ ρ H, Rep K ρ H d v
  dic : ∀ (x : Str) (kvs : List (D × D)), t.dcs.lookup x = some kvs → ∃ d es n, KDict K w d es n ∧ mg x = some (.ref d) ∧ ∀ p ∈ kvs, ∃ z v u, p.1 = .str z ∧ PySem.W.nsIn K d (toS z) = some (some u) ∧ RelV v u ∧ ∀ ρ H, Rep K ρ H p.2 v
  fr : ∀ x ∈ t.fr, mg x = none
  cl : ClsOk (nmOf t K) K
  ty : ∀ p ∈ tyOfName, IsTab (nmOf t K) K p.2.2 (.type p.2.1)
  cls : ∀ (c : Nat) (cd : ClD), t.cl[c]? = some cd → mg cd.x = some (.ref (He.ga K cd.x)) ∧ Mk K (He.ga K cd.x) (He.ma K (He.ga K cd.x) "__init__") ∧ IsTab (nmOf t K) K (.cls c) (.ref (He.ga K cd.x)) ∧ ∀ q ∈ cd.ms, Meth K (He.ga K cd.x) q.1 (He.ma K (He.ga K cd.x) q.1)
  eqc : ∀ (c : Nat) (cd : ClD) (i : Nat), t.cl[c]? = some cd → cd.ms.lookup ("__eq__" : Str) = some i → PySem.W.findIn K (.ref (He.ga K cd.x)) "__ne__" = some (some (.builtin "object.__ne__")) ∧ ∀ c' ∈ t.cl, PySem.W.notFirst K (He.ga K cd.x) (.ref (He.ga K c'.x)) = true
  ex : ∀ (k : Nat) (p : Str × List Nat), t.ex[k]? = some p → mg p.1 = some (.ref (He.ga K p.1)) ∧ (isXi t p.1 = false → PySem.W.excIn K (He.ga K p.1) He.veBase "ValueError.__new__" = true) ∧ PySem.W.keepIn K (.ref (He.ga K p.1)) = true ∧ PySem.W.subIn K (.ref (He.ga K p.1)) (.type "BaseException") = some true ∧ PySem.W.typeIn K (.ref (He.ga K p.1)) = some (.type "type")
  prp : ∀ (c : Nat) (cd : ClD), t.cl[c]? = some cd → ∀ q ∈ cd.gs, ∃ p, PropOf K (He.ga K cd.x) q.1 p (gtA K (cd.x, some q.1))
  xh : ∀ (k k' : Nat) (p p' : Str × List Nat), t.ex[k]? = some p → t.ex[k']? = some p' → PySem.W.exmOne K (.ref (He.ga K p.1)) (.ref (He.ga K p'.1)) = some (p'.2.contains k)
  xk : t.cw = true → (mg "isinstance" = none ∧ mg "ValueError" = none) ∧ ∀ (k : Nat) (p : Str × List Nat), t.ex[k]? = some p → ExcC K (He.ga K p.1) ∧ PySem.W.kitOne K (.ref (He.ga K p.1)) (.type "ValueError") = some true ∧ ∀ p' ∈ t.ex, PySem.W.kitOne K (.ref (He.ga K p.1)) (.ref (He.ga K p'.1)) = some (p'.2.contains k)
abbrev mdN (nm : Nm) (T : Tbl) (F : Nat) (xA : List Addr) (n : Nat) : Md := ⟨nm, T, F, callI T F n, xA⟩
theorem room_u {k : Nat} {A : Around} (r : Room k A) : A.units + 65 < cLine := by have := r.un; omega
theorem reps_entry {X : Cx} {ρ : List Addr} {H : Hp} {N : List Str} {ds : List D} {vs : List V} (r : Reps X.K ρ H ds vs) : ERel X ρ H (entry N.length ds) (L2.start N vs) := by
  have hl := r.length
  refine ⟨by unfold entry L2.start; simp only [List.length_append, List.length_map, List.length_replicate, hl], fun i d e => ?_⟩
  unfold entry at e
  unfold L2.start
  by_cases hi : i < ds.length
  · rw [List.getElem?_append_left (by simpa using hi), List.getElem?_map] at e
    obtain ⟨x, hx, e⟩ := Option.map_eq_some_iff.mp e
    cases e
    obtain ⟨v, hv, rv⟩ := r.get hx
    refine ⟨v, ?_, rv⟩
    rw [List.getElem?_append_left (by simpa [← hl] using hi), List.getElem?_map, hv]
    rfl
  · rw [List.getElem?_append_right (by simpa using hi)] at e
    have := List.mem_of_getElem? e
    rw [List.mem_replicate] at this
    cases this.2
theorem look_nat {β : Type} {n : Nat} {b : β} : ∀ {l : List (Nat × β)}, l.lookup n = some b → (n, b) ∈ l
  | [], h => nomatch h
  | (k, c) :: r, h => by
    rw [List.lookup_cons] at h
    by_cases hk : n = k
    · subst hk
      simp at h
      subst h
      exact List.mem_cons_self
    · rw [beq_eq_false_iff_ne.mpr hk] at h
      exact List.mem_cons_of_mem _ (look_nat h)
theorem somes_ok {α : Type} : ∀ ks : List (Option α), (∀ z ∈ ks, z.isSome = true) → ∃ ls : List α, ks = ls.map some
  | [], _ => ⟨[], rfl⟩
  | o :: r, h => by
    obtain ⟨ls, e⟩ := somes_ok r fun z hz => h z (List.mem_cons_of_mem _ hz)
    have := h o List.mem_cons_self
    cases o with
    | none => cases this
    | some y => exact ⟨y :: ls, by rw [e]; rfl⟩
omit [LL] in
theorem callI_over {T : Tbl} {F n i : Nat} (hi : i < T.fns.length) (as : List D) (s : Store) : callI T F (n + 1) (i + T.fns.length) as s = callI T F n i as s := by
  have h : T.fns[i + T.fns.length]? = none := List.getElem?_eq_none (by omega)
  have h2 : i + T.fns.length < 2 * T.fns.length := by omega
  simp only [callI, h, h2, if_true, Nat.add_sub_cancel]
omit [LL] in
theorem callI_twice {T : Tbl} {F n i : Nat} (g : D) (as : List D) (s : Store) : callI T F (n + 1) (i + 2 * T.fns.length) (g :: as) s = callI ⟨T.fns, T.cls, true, decG g⟩ F n i as s := by
  have h : T.fns[i + 2 * T.fns.length]? = none := List.getElem?_eq_none (by omega)
  have h2 : ¬ i + 2 * T.fns.length < 2 * T.fns.length := by omega
  simp only [callI, h, h2, if_false, Nat.add_sub_cancel]
theorem callI_len {T : Tbl} {F i np nn : Nat} {b : Ss} (h : T.fns[i]? = some ⟨np, nn, b⟩) : ∀ (n : Nat) (as : List D) (s : Store), as.length ≠ np → callI T F n i as s = .stuck
  | 0, _, _, _ => rfl
  | n + 1, as, s, hl => by simp only [callI, h, hl, if_false]
/-- every def keeps its promise, to every depth -/
def FA (P : Program) (w : World) (K : PySem.W.Frag) (mg : Str → Option Value) (base : Heap) (t : Tx) (T : Tbl) (F : Nat) (xA : List Addr) (n : Nat) : Prop := ∀ (i : Nat) (d : Df), t.ds[i]? = some d → ∀ kws fd, FunK t K d kws fd → (mkOf t i = [] → FnOk P w K mg base (L2.CX P w) (n + 1) (adr t K d.at_) fd d.ps (spI (mdN (nmOf t K) T F xA n) P w K (callI T F n) i d.ps.length)) ∧
  (mkOf t i ≠ [] → FnOk P w K mg base (L2.CX P w) (n + 1) (adr t K d.at_) fd d.ps (spM (mdN (nmOf t K) T F xA n) P w K i d.ps.length))
/-- a method's names aren't captured -/
theorem mk_meth {t : Tx} (h : clM t = true) {i : Nat} {d : Df} {a b : Str} (hd : t.ds[i]? = some d) (ha : d.at_ = (a, some b)) : mkOf t i = [] := by
  unfold mkOf
  cases hl : t.mks.lookup i with
  | none => rfl
  | some ns =>
    have := List.all_eq_true.mp h _ (look_nat hl)
    simp only [hd, Bool.and_eq_true, decide_eq_true_eq] at this
    rw [ha] at this
    cases congrArg Prod.snd this.1
theorem mk_fn {t : Tx} (h : clM t = true) {i : Nat} {d : Df} (hd : t.ds[i]? = some d) (hne : mkOf t i ≠ []) : d.at_ = (d.x, none) ∧ d.kw = [] ∧ ∀ x ∈ mkOf t i, (defScope d.st).names.lookup x = some .cell := by
  unfold mkOf at hne ⊢
  cases hl : t.mks.lookup i with
  | none => rw [hl] at hne; exact absurd rfl hne
  | some ns =>
    have := List.all_eq_true.mp h _ (look_nat hl)
    simp only [hd, Bool.and_eq_true, decide_eq_true_eq, List.isEmpty_iff, List.all_eq_true] at this
    exact ⟨this.1, this.2.1, this.2.2⟩
theorem mth_ok {t : Tx} {w : Str} {n : Nat} (h : mthOf t w = some n) : t.aN[n]? = some w ∧ t.fs.length ≤ n := by
  unfold mthOf at h
  split at h
  · rename_i i hi
    split at h
    · cases h
    · cases h; exact ⟨ixOf_ok hi, by omega⟩
  · cases h
theorem fld_ok {t : Tx} {w : Str} {n : Nat} (h : fldOf t w = some n) : t.aN[n]? = some w ∧ n < t.fs.length := by
  unfold fldOf at h
  split at h
  · rename_i i hi
    split at h
    · cases h; exact ⟨ixOf_ok hi, by assumption⟩
    · cases h
  · cases h
theorem gsn {t : Tx} {c : ClD} {n : Nat} {p : Nat × List D} (h : (n, p) ∈ c.gs.filterMap (fun p => (mthOf t p.1).map fun i => (i + 2000, p.2 + nfs t, ([] : List D))) ++ c.ms.filterMap (fun p => if p.1 = ("__len__" : Str) then (mthOf t p.1).map fun i => (i + 3000, p.2 + nfs t, ([] : List D)) else none)) : 2000 ≤ n := by
  rcases List.mem_append.mp h with h | h
  · obtain ⟨q, hq, e⟩ := List.mem_filterMap.mp h
    obtain ⟨i', hi', e⟩ := Option.map_eq_some_iff.mp e
    have e1 : i' + 2000 = n := congrArg (fun z : Nat × Nat × List D => z.1) e
    omega
  · obtain ⟨q, hq, e⟩ := List.mem_filterMap.mp h
    split at e
    · obtain ⟨i', hi', e⟩ := Option.map_eq_some_iff.mp e
      have e1 : i' + 3000 = n := congrArg (fun z : Nat × Nat × List D => z.1) e
      omega
    · cases e
/-- the promises of those __init__ -/
def XiF (P : Program) (w : World) (K : PySem.W.Frag) (mg : Str → Option Value) (base : Heap) (t : Tx) : Prop := (∀ p ∈ t.xi, ∃ fI fd sn, PySem.W.findIn K (.ref (He.ga K p.1)) "__init__" = some (some (.ref fI)) ∧ PySem.W.typeIn K (.ref fI) = some (.type "function") ∧ OexC K (He.ga K p.1) ∧
  FnOk P w K mg base (L2.CX P w) 0 fI fd [sn, "row"] (spXi K (He.ga K p.1) "row") ∧ Binds K fd [sn, "row"] []) ∧ (t.xi ≠ [] → ∀ p ∈ t.ex, XfC K (He.ga K p.1) ∧ PySem.W.findIn K (.ref (He.ga K p.1)) "row" = some none)
/-- .. and every lambda -/
def FB (P : Program) (w : World) (K : PySem.W.Frag) (mg : Str → Option Value) (base : Heap) (t : Tx) (T : Tbl) (F : Nat) (xA : List Addr) (n : Nat) : Prop := FA P w K mg base t T F xA n ∧ LmOk (mdN (nmOf t K) T F xA n) P w K mg base (n + 1)
theorem cc_ok {t : Tx} {T : Tbl} {F fuel n : Nat} {xA : List Addr} (hxA : xA = t.ex.map fun p => He.ga K p.1) (tx : TxOk t K w mg) (hcb : clB t = true) (hcg : clG t = true) (hmm : clM t = true) (hlen : T.fns.length = nfs t) (hT : T.cls = clsOf t) (hd : ∀ i d, t.ds[i]? = some d → dfB t fuel T i d) (hxi : XiF P w K mg base t) (her : LL.er = none) (ih : ∀ m, m < n + 1 → FB P w K mg base t T F xA m) {X : Cx} {E : XK} {N : List Str} {sc : Scope} {fn : Str → Bool} {lam : Option Nat} {lms : List (Nat × LamT)} {qq : Str} {cw : Bool} {cps ownN : List Str}
    (e1 : P = X.prog) (e2 : w = X.w) (e3 : K = X.K) (e4 : mg = X.mg) (e5 : base = X.base) (hN : X.N = N) (hsc : X.env.scope = sc) (hfn : X.fn = fn) (hnd : X.N.Nodup) (hcalm : X.calm = true) (hr : Room (n + 1) X.A) (hpass : Passes (L2.CX X.prog X.w) X E)
    (hlam : ∀ j, lam = some j → LamAt (mdN (nmOf t K) T F xA n) X j) (hq : lms ≠ [] → X.env.qual = qq) (hlms : ∀ p ∈ lms, LL.ls p.1 = some p.2) (hcw : cw = true → t.cw = true) (nw : NewOk (mdN (nmOf t K) T F xA n) X (ccG t N sc fn lam lms qq cw cps ownN)) : CcOk (mdN (nmOf t K) T F xA n) E X (ccG t N sc fn lam lms qq cw cps ownN) := by
  have hcls : ∀ (c : Nat) (k : Cl), T.cls[c]? = some k → ∃ cd, t.cl[c]? = some cd ∧ k = clOf t cd := fun c k hk => by
    rw [hT] at hk
    unfold clsOf at hk
    rw [List.getElem?_map] at hk
    obtain ⟨cd, h1, h2⟩ := Option.map_eq_some_iff.mp hk
    exact ⟨cd, h1, h2.symm⟩
  unfold clB at hcb
  rw [Bool.and_eq_true, List.all_eq_true] at hcb
  have hcl : ∀ (c : Nat) (cd : ClD), t.cl[c]? = some cd → (∃ d0, t.ds[cd.init]? = some d0 ∧ d0.at_ = (cd.x, some ("__init__" : Str)) ∧ d0.kw = [] ∧ 1 ≤ d0.ps.length) ∧ ∀ q ∈ cd.ms, ∃ d0, t.ds[q.2]? = some d0 ∧ d0.at_ = (cd.x, some q.1) ∧ d0.kw.length < d0.ps.length ∧ (q.1 = ("__eq__" : Str) → d0.kw = [] ∧ d0.ps.length = 2) := fun c cd hcd => by
    have := hcb.2 cd (List.mem_of_getElem? hcd)
    rw [Bool.and_eq_true, List.all_eq_true] at this
    refine ⟨?_, fun q hq => ?_⟩
    · have h1 := this.1
      split at h1
      · rename_i d0 h0
        simp only [Bool.and_eq_true, decide_eq_true_eq] at h1
        exact ⟨d0, h0, h1.1.1, by simpa using h1.1.2, h1.2⟩
      · cases h1
    · have h2 := this.2 q hq
      split at h2
      · rename_i d0 h0
        simp only [Bool.and_eq_true, decide_eq_true_eq] at h2
        refine ⟨d0, h0, h2.1.1, h2.1.2, fun hq => ?_⟩
        have h3 := h2.2
        rw [decide_eq_true hq] at h3
        simp only [Bool.not_true, Bool.false_or, Bool.and_eq_true, decide_eq_true_eq] at h3
        exact ⟨by simpa using h3.1, h3.2⟩
      · cases h2
  unfold clG at hcg
  simp only [Bool.and_eq_true, List.all_eq_true] at hcg
  have hcgc : ∀ (c : Nat) (cd : ClD), t.cl[c]? = some cd → (∀ d0, t.ds[cd.init]? = some d0 → t.gt.contains d0.at_ = false) ∧ (∀ q ∈ cd.ms, ∀ d0, t.ds[q.2]? = some d0 → t.gt.contains d0.at_ = false ∧ (q.1 = ("__len__" : Str) → d0.kw = [] ∧ d0.ps.length = 1)) ∧ ∀ q ∈ cd.gs, ∃ d0, t.ds[q.2]? = some d0 ∧ d0.at_ = (cd.x, some q.1) ∧ d0.kw = [] ∧ d0.ps.length = 1 ∧ t.gt.contains d0.at_ = true := fun c cd hcd => by
    obtain ⟨z1, z2, z3⟩ := hcg.2 cd (List.mem_of_getElem? hcd)
    refine ⟨fun d0 hd0 => ?_, fun q hq d0 hd0 => ?_, fun q hq => ?_⟩
    · rw [hd0] at z1
      simpa using z1
    · have := z2 q hq
      rw [hd0] at this
      simp only [Bool.and_eq_true, Bool.or_eq_true, Bool.not_eq_true', decide_eq_false_iff_not, decide_eq_true_eq] at this
      refine ⟨this.1, fun he => ?_⟩
      rcases this.2 with z | z
      · exact absurd he z
      · exact ⟨by simpa using z.1, z.2⟩
    · have := z3 q hq
      split at this
      · rename_i d0 hd0
        simp only [Bool.and_eq_true, decide_eq_true_eq] at this
        exact ⟨d0, hd0, this.1, by simpa using this.2.1, this.2.2.1, this.2.2.2⟩
      · cases this
  cases X
  dsimp only at e1 e2 e3 e4 e5
  subst e1 e2 e3 e4 e5
  refine ⟨hN, hsc, hfn, hnd, fun _ => hcalm, fun _ _ => rfl, room_u hr, hpass, fun x g hg => ?_, fun x hx => tx.fr x (by simpa [ccG] using hx), fun c C k f hC hk he => ?_, tx.cl, tx.ty, fun x j hj => ?_, fun x ks j hj => ?_, fun x j hj => fld_ok hj, (by have := hr.dp; omega), hlam, fun x k hx => ?_, (by rw [hxA, List.length_map]; exact Nat.le_refl _), fun k k' C C' h1 h2 => ?_, fun x j hj => ?_, fun j hj => ?_, fun x k hx => ?_, fun hxr k C hC => ?_, (fun _ _ _ h => by cases h), fun _ _ _ => rfl, hq, hlms, fun h => ?_, nw⟩
  · have hg : glOf t x = some g := hg
    unfold glOf at hg
    split at hg
    · rename_i j hj
      split at hg
      · rename_i dj hdj
        split at hg
        · rename_i hat
          split at hg
          · rename_i hmk
            cases hg
            obtain ⟨fdj, kwsj, dvs, dus, FDj, mj, bj, vj, rj, kj⟩ := tx.fn j dj hdj
            have hx : dj.x = x := by
              obtain ⟨hlt, hp, _⟩ := List.findIdx?_eq_some_iff_getElem.mp hj
              rw [List.getElem?_eq_getElem hlt] at hdj
              cases hdj
              simpa using hp
            subst hx
            have hkj := of_decide_eq_true (hd j dj hdj).2.1
            exact ⟨n + 1, adr t K dj.at_, fdj, dj.ps, dvs, dus, ((ih n (Nat.lt_succ_self n)).1 j dj hdj kwsj fdj FDj).1 (List.isEmpty_iff.mp hmk), hr, mj hat, FDj.kp, bj, vj, rj, by omega, kj⟩
          · rename_i hmk
            cases hg
            obtain ⟨fdj, kwsj, dvs, dus, FDj, mj, bj, vj, rj, kj⟩ := tx.fn j dj hdj
            have hx : dj.x = x := by
              obtain ⟨hlt, hp, _⟩ := List.findIdx?_eq_some_iff_getElem.mp hj
              rw [List.getElem?_eq_getElem hlt] at hdj
              cases hdj
              simpa using hp
            subst hx
            have hkj := of_decide_eq_true (hd j dj hdj).2.1
            have hne : mkOf t j ≠ [] := fun z => hmk (by rw [z]; rfl)
            obtain ⟨_, hkw0, _⟩ := mk_fn hmm hdj hne
            rw [hkw0] at rj
            have hdv := rj [] (fun _ => none)
            cases hdv
            cases vj
            exact ⟨n + 1, adr t K dj.at_, fdj, dj.ps, ((ih n (Nat.lt_succ_self n)).1 j dj hdj kwsj fdj FDj).2 hne, hr, mj hat, FDj.kp, bj, rfl⟩
        · cases hg
      · cases hg
    · split at hg
      · rename_i c hc'
        split at hg
        · rename_i cd hcd
          split at hg
          · rename_i d0 hd0
            cases hg
            obtain ⟨⟨d1, e1, e2, e3, e4⟩, _⟩ := hcl c cd hcd
            rw [hd0] at e1; cases e1
            obtain ⟨k1, k2, k3, k4⟩ := tx.cls c cd hcd
            have hx : cd.x = x := by
              obtain ⟨hlt, hp, _⟩ := List.findIdx?_eq_some_iff_getElem.mp hc'
              rw [List.getElem?_eq_getElem hlt] at hcd
              cases hcd
              simpa using hp
            subst hx
            obtain ⟨fd0, kws0, dvs0, dus0, FD0, _, b0, v0, r0, _⟩ := tx.fn cd.init d0 hd0
            have hfa : adr t K d0.at_ = He.ma K (He.ga K cd.x) "__init__" := by rw [adr_no ((hcgc c cd hcd).1 d0 hd0), e2]; rfl
            have hbn : Binds K fd0 d0.ps [] := by
              rw [e3] at r0
              have hdv := r0 [] (fun _ => none)
              cases hdv
              cases v0
              exact b0
            refine ⟨He.ga K cd.x, clOf t cd, n, He.ma K (He.ga K cd.x) "__init__", fd0, d0.ps, ?_, k1, ?_, k2, ?_, hr, hbn, by omega, k3⟩
            · show (t.cl.map fun c => He.ga K c.x)[c]? = _
              rw [List.getElem?_map, hcd]; rfl
            · show T.cls[c]? = _
              rw [hT]; unfold clsOf; rw [List.getElem?_map, hcd]; rfl
            · cases n with
              | zero => exact ⟨fun vs H Q E h => h.1, fun A outer s H args us vs Q E hr he hb hv hs => by
                  obtain ⟨_, ρ, st, ds, _, _, hf⟩ := hs
                  exact hf.elim⟩
              | succ n =>
                have := ((ih n (by omega)).1 cd.init d0 hd0 kws0 fd0 FD0).1 (mk_meth hmm hd0 e2)
                rw [hfa] at this
                refine FnOk.imp this fun vs H Q E h => ?_
                obtain ⟨h1, ρ, st, ds, S, rs, hf⟩ := h
                refine ⟨h1, ρ, st, ds, S, rs, ?_⟩
                have e : callI T F (n + 1) (clOf t cd).init ds st = callI T F n cd.init ds st := by
                  show callI T F (n + 1) (cd.init + nfs t) ds st = _
                  rw [← hlen]
                  exact callI_over (by rw [hlen]; exact lt_nfs hd0) ds st
                have hf : FinK _ E P w K ρ H (callI T F (n + 1) (clOf t cd).init ds st) _ Q := hf
                rw [e] at hf
                exact hf
          · cases hg
        · cases hg
      · split at hg
        · rename_i kvs hk
          cases hg
          exact ⟨tx.dic x kvs hk⟩
        · obtain ⟨dd, hdd, rfl⟩ := Option.map_eq_some_iff.mp hg
          exact tx.con x dd hdd
  · obtain ⟨cd, hcd, rfl⟩ := hcls c k hk
    have hC' : C = He.ga K cd.x := by
      have : (t.cl.map fun c => He.ga K c.x)[c]? = some C := hC
      rw [List.getElem?_map, hcd] at this
      exact (Option.some.inj this).symm
    subst hC'
    have he : (cd.ms.lookup ("__eq__" : Str)).map (· + nfs t) = some f := he
    obtain ⟨i0, hi0, rfl⟩ := Option.map_eq_some_iff.mp he
    have hq := PySem.mem_of_lookup hi0
    obtain ⟨d0, hd0, hat, hfew, heq⟩ := (hcl c cd hcd).2 _ hq
    obtain ⟨e3, e4⟩ := heq rfl
    obtain ⟨_, _, _, k4⟩ := tx.cls c cd hcd
    obtain ⟨q1, q2⟩ := tx.eqc c cd i0 hcd hi0
    obtain ⟨fd0, kws0, dvs0, dus0, FD0, _, b0, v0, r0, _⟩ := tx.fn i0 d0 hd0
    have hfa : adr t K d0.at_ = He.ma K (He.ga K cd.x) "__eq__" := by rw [adr_no ((hcgc c cd hcd).2.1 _ hq d0 hd0).1, hat]; rfl
    have hbn : Binds K fd0 d0.ps [] := by
      rw [e3] at r0
      have hdv := r0 [] (fun _ => none)
      cases hdv
      cases v0
      exact b0
    refine ⟨n, He.ma K (He.ga K cd.x) "__eq__", fd0, d0.ps, k4 _ hq, ?_, hr, hbn, e4, q1, fun c' C' hC' => ?_⟩
    · cases n with
      | zero => exact ⟨fun vs H Q E h => h.1, fun A outer s H args us vs Q E hr he hb hv hs => by
          obtain ⟨_, ρ, st, ds, _, _, hf⟩ := hs
          exact hf.elim⟩
      | succ n =>
        have := ((ih n (by omega)).1 i0 d0 hd0 kws0 fd0 FD0).1 (mk_meth hmm hd0 hat)
        rw [hfa] at this
        refine FnOk.imp this fun vs H Q E h => ?_
        obtain ⟨h1, ρ, st, ds, S, rs, hf⟩ := h
        refine ⟨h1, ρ, st, ds, S, rs, ?_⟩
        have e : callI T F (n + 1) (i0 + nfs t) ds st = callI T F n i0 ds st := by
          rw [← hlen]
          exact callI_over (by rw [hlen]; exact lt_nfs hd0) ds st
        have hf : FinK _ E P w K ρ H (callI T F (n + 1) (i0 + nfs t) ds st) _ Q := hf
        rw [e] at hf
        exact hf
    · have hC2 : (t.cl.map fun c => He.ga K c.x)[c']? = some C' := hC'
      rw [List.getElem?_map] at hC2
      obtain ⟨cd', hcd', e⟩ := Option.map_eq_some_iff.mp hC2
      rw [← e]
      exact q2 cd' (List.mem_of_getElem? hcd')
  · obtain ⟨m1, m2⟩ := mth_ok hj
    refine ⟨m1, m2, fun c C k p hC hk hp => ?_⟩
    obtain ⟨cd, hcd, rfl⟩ := hcls c k hk
    have hC' : C = He.ga K cd.x := by
      have : (t.cl.map fun c => He.ga K c.x)[c]? = some C := hC
      rw [List.getElem?_map, hcd] at this
      exact (Option.some.inj this).symm
    subst hC'
    have hmem := look_nat hp
    have hsm : t.aN.length < 1000 := of_decide_eq_true (Bool.and_eq_true_iff.mp hcb.1).2
    have hjlt : j < t.aN.length := (List.getElem?_eq_some_iff.mp m1).1
    have hmem := (List.mem_append.mp hmem).resolve_right fun z => by
      have := gsn z
      omega
    rcases List.mem_append.mp hmem with hmem | hmem
    · skip
      obtain ⟨q, hq, e⟩ := List.mem_filterMap.mp hmem
      obtain ⟨i', hi', e⟩ := Option.map_eq_some_iff.mp e
      have e1 : i' = j := congrArg (fun z : Nat × Nat × List D => z.1) e
      have e2 : (q.2, dflOf t q.2) = p := congrArg (fun z : Nat × Nat × List D => z.2) e
      subst e1 e2
      have hqx : q.1 = x := by
        have := (mth_ok hi').1
        rw [m1] at this
        exact (Option.some.inj this).symm
      subst hqx
      obtain ⟨d0, hd0, hat, hfew, _⟩ := (hcl c cd hcd).2 q hq
      obtain ⟨_, _, _, k4⟩ := tx.cls c cd hcd
      obtain ⟨fd0, kws0, dvs0, dus0, FD0, _, b0, v0, r0, _⟩ := tx.fn q.2 d0 hd0
      have hfa : adr t K d0.at_ = He.ma K (He.ga K cd.x) q.1 := by rw [adr_no ((hcgc c cd hcd).2.1 q hq d0 hd0).1, hat]; rfl
      have F0 := ((ih n (Nat.lt_succ_self n)).1 q.2 d0 hd0 kws0 fd0 FD0).1 (mk_meth hmm hd0 hat)
      rw [hfa] at F0
      have hdf : dflOf t q.2 = d0.kw.map (·.2) := by unfold dflOf; rw [hd0]
      obtain ⟨_, _, b0', hb0, _⟩ := hd q.2 d0 hd0
      exact ⟨n + 1, _, fd0, d0.ps, dvs0, dus0, k4 q hq, F0, hr, b0, v0, fun ρ H => by show Reps K ρ H (dflOf t q.2) dvs0; rw [hdf]; exact r0 ρ H, fun as st hne => callI_len hb0 n as st hne⟩
    · exfalso
      obtain ⟨q, hq, e⟩ := List.mem_filterMap.mp hmem
      split at e
      · cases e
      · obtain ⟨i', hi', e⟩ := Option.map_eq_some_iff.mp e
        have e1 : i' + 1000 = j := congrArg (fun z : Nat × Nat × List D => z.1) e
        omega
  · have hj : mwOf t x ks = some j := hj
    unfold mwOf at hj
    split at hj
    · rename_i i0 hi0
      split at hj
      · rename_i hc'
        cases hj
        simp only [Bool.and_eq_true, List.all_eq_true, Bool.not_eq_true'] at hc'
        obtain ⟨⟨hk0, hall⟩, hsome⟩ := hc'
        obtain ⟨m1, m2⟩ := mth_ok hi0
        obtain ⟨ls, rfl⟩ := somes_ok ks hsome
        refine ⟨ls, rfl, ⟨i0, m1, m2⟩, fun c C k p hC hk hp => ?_⟩
        obtain ⟨cd, hcd, rfl⟩ := hcls c k hk
        have hC' : C = He.ga K cd.x := by
          have : (t.cl.map fun c => He.ga K c.x)[c]? = some C := hC
          rw [List.getElem?_map, hcd] at this
          exact (Option.some.inj this).symm
        subst hC'
        have hsm : t.aN.length < 1000 := of_decide_eq_true (Bool.and_eq_true_iff.mp hcb.1).2
        have hjlt : i0 < t.aN.length := (List.getElem?_eq_some_iff.mp m1).1
        have hmem := (List.mem_append.mp (look_nat hp)).resolve_right fun z => by
          have := gsn z
          omega
        rcases List.mem_append.mp hmem with hmem | hmem
        · exfalso
          obtain ⟨q, hq, e⟩ := List.mem_filterMap.mp hmem
          obtain ⟨i', hi', e⟩ := Option.map_eq_some_iff.mp e
          have e1 : i' = i0 + 1000 := congrArg (fun z : Nat × Nat × List D => z.1) e
          have := (List.getElem?_eq_some_iff.mp (mth_ok hi').1).1
          omega
        · obtain ⟨q, hq, e⟩ := List.mem_filterMap.mp hmem
          split at e
          · cases e
          · rename_i hde
            obtain ⟨i', hi', e⟩ := Option.map_eq_some_iff.mp e
            have e1 : i' + 1000 = i0 + 1000 := congrArg (fun z : Nat × Nat × List D => z.1) e
            have e2 : (q.2, []) = p := congrArg (fun z : Nat × Nat × List D => z.2) e
            have e1 : i' = i0 := by omega
            subst e1 e2
            have hqx : q.1 = x := by
              have := (mth_ok hi').1
              rw [m1] at this
              exact (Option.some.inj this).symm
            subst hqx
            obtain ⟨d0, hd0, hat, hfew, _⟩ := (hcl c cd hcd).2 q hq
            have hkw := hall cd (List.mem_of_getElem? hcd) q hq
            simp only [hd0, beq_self_eq_true, Bool.not_true, Bool.false_or, Bool.or_eq_true, decide_eq_true_eq] at hkw
            have hdf : dflOf t q.2 = d0.kw.map (·.2) := by unfold dflOf; rw [hd0]
            have hkne : d0.kw ≠ [] := fun z => hde (by rw [hdf, z]; rfl)
            have hkn : d0.kw.map (fun p => some p.1) = ls.map some := by
              rcases hkw with z | z
              · exact absurd (by simpa using z) hkne
              · exact z
            have hln : d0.kw.map (·.1) = ls := by
              have h9 : (d0.kw.map (·.1)).map some = ls.map some := by rw [List.map_map]; exact hkn
              exact (List.map_inj_right fun _ _ z => Option.some.inj z).mp h9
            have hll : d0.kw.length = ls.length := by rw [← hln, List.length_map]
            obtain ⟨_, _, _, k4⟩ := tx.cls c cd hcd
            obtain ⟨fd0, kws0, dvs0, dus0, FD0, _, b0, v0, r0, kb0⟩ := tx.fn q.2 d0 hd0
            have hfa : adr t K d0.at_ = He.ma K (He.ga K cd.x) q.1 := by rw [adr_no ((hcgc c cd hcd).2.1 q hq d0 hd0).1, hat]; rfl
            have F0 := ((ih n (Nat.lt_succ_self n)).1 q.2 d0 hd0 kws0 fd0 FD0).1 (mk_meth hmm hd0 hat)
            rw [hfa] at F0
            obtain ⟨_, hkl0, b0', hb0, _⟩ := hd q.2 d0 hd0
            have hkl0 := of_decide_eq_true hkl0
            · refine ⟨n + 1, _, fd0, d0.ps, d0.ps.length - d0.kw.length - 1, k4 q hq, F0, hr, rfl, by omega, fun s us ws l1 l2 => ?_, fun as st hne => callI_len hb0 n as st hne⟩
              have := kb0 hkne s us ws (by omega) (by omega)
              rw [hln] at this
              exact this
      · cases hj
    · cases hj
  · have hx : (t.ex.findIdx? fun p => p.1 == x) = some k := hx
    obtain ⟨hlt, hp, _⟩ := List.findIdx?_eq_some_iff_getElem.mp hx
    have hpe : t.ex[k].1 = x := by simpa using hp
    subst hpe
    obtain ⟨q1, q2, q3, q4, q5⟩ := tx.ex k _ (List.getElem?_eq_getElem hlt)
    refine ⟨_, ?_, q1, fun hn => q2 ?_, q3, q4, q5⟩
    rotate_left
    · have hn : (if isXi t t.ex[k].1 then t.ex.findIdx? fun p => p.1 == t.ex[k].1 else none).isNone = true := hn
      cases hi : isXi t t.ex[k].1 with
      | false => rfl
      | true => rw [hi, if_pos rfl, hx] at hn; cases hn
    show xA[k]? = _
    rw [hxA, List.getElem?_map, List.getElem?_eq_getElem hlt]; rfl
  · have h1 : xA[k]? = some C := h1
    have h2 : xA[k']? = some C' := h2
    rw [hxA, List.getElem?_map] at h1 h2
    obtain ⟨p, e1, rfl⟩ := Option.map_eq_some_iff.mp h1
    obtain ⟨p', e2, rfl⟩ := Option.map_eq_some_iff.mp h2
    have := tx.xh k k' p p' e1 e2
    show PySem.W.exmOne K _ _ = some (match t.ex[k']? with | some p => p.2.contains k | none => false)
    rw [e2]
    exact this
  · have hj : prOf t x = some j := hj
    unfold prOf at hj
    split at hj
    · rename_i i0 hi0
      split at hj
      · cases hj
        refine ⟨fun c C k p hC hk hp => ?_⟩
        obtain ⟨cd, hcd, rfl⟩ := hcls c k hk
        have hC' : C = He.ga K cd.x := by
          have : (t.cl.map fun c => He.ga K c.x)[c]? = some C := hC
          rw [List.getElem?_map, hcd] at this
          exact (Option.some.inj this).symm
        subst hC'
        have hsm : t.aN.length < 1000 := of_decide_eq_true (Bool.and_eq_true_iff.mp hcb.1).2
        obtain ⟨m1, _⟩ := mth_ok hi0
        rcases List.mem_append.mp (look_nat hp) with hmem | hmem
        · exfalso
          rcases List.mem_append.mp hmem with hmem | hmem
          · obtain ⟨q, hq, e⟩ := List.mem_filterMap.mp hmem
            obtain ⟨i', hi', e⟩ := Option.map_eq_some_iff.mp e
            have e1 : i' = i0 + 2000 := congrArg (fun z : Nat × Nat × List D => z.1) e
            have := (List.getElem?_eq_some_iff.mp (mth_ok hi').1).1
            omega
          · obtain ⟨q, hq, e⟩ := List.mem_filterMap.mp hmem
            split at e
            · cases e
            · obtain ⟨i', hi', e⟩ := Option.map_eq_some_iff.mp e
              have e1 : i' + 1000 = i0 + 2000 := congrArg (fun z : Nat × Nat × List D => z.1) e
              have := (List.getElem?_eq_some_iff.mp (mth_ok hi').1).1
              omega
        · rcases List.mem_append.mp hmem with hmem | hmem
          · obtain ⟨q, hq, e⟩ := List.mem_filterMap.mp hmem
            obtain ⟨i', hi', e⟩ := Option.map_eq_some_iff.mp e
            have e1 : i' + 2000 = i0 + 2000 := congrArg (fun z : Nat × Nat × List D => z.1) e
            have e2 : (q.2 + nfs t, []) = p := congrArg (fun z : Nat × Nat × List D => z.2) e
            have e1 : i' = i0 := by omega
            subst e1 e2
            have hqx : q.1 = x := by
              have := (mth_ok hi').1
              rw [m1] at this
              exact (Option.some.inj this).symm
            subst hqx
            obtain ⟨d0, hd0, hat, hkw, hp1, hgt⟩ := (hcgc c cd hcd).2.2 q hq
            obtain ⟨pa, hpa⟩ := tx.prp c cd hcd q hq
            obtain ⟨fd0, kws0, dvs0, dus0, FD0, _, b0, v0, r0, _⟩ := tx.fn q.2 d0 hd0
            have hfa : adr t K d0.at_ = gtA K (cd.x, some q.1) := by rw [adr_yes hgt, hat]
            have hbn : Binds K fd0 d0.ps [] := by
              rw [hkw] at r0
              have hdv := r0 [] (fun _ => none)
              cases hdv
              cases v0
              exact b0
            refine ⟨n, pa, _, fd0, d0.ps, hpa, ?_, hr, hbn, hp1⟩
            cases n with
            | zero => exact ⟨fun vs H Q E h => h.1, fun A outer s H args us vs Q E hr he hb hv hs => by
                obtain ⟨_, ρ, st, ds, _, _, hf⟩ := hs
                exact hf.elim⟩
            | succ n =>
              have := ((ih n (by omega)).1 q.2 d0 hd0 kws0 fd0 FD0).1 (mk_meth hmm hd0 hat)
              rw [hfa] at this
              refine FnOk.imp this fun vs H Q E h => ?_
              obtain ⟨h1, ρ, st, ds, S, rs, hf⟩ := h
              refine ⟨h1, ρ, st, ds, S, rs, ?_⟩
              have e : callI T F (n + 1) (q.2 + nfs t) ds st = callI T F n q.2 ds st := by
                rw [← hlen]
                exact callI_over (by rw [hlen]; exact lt_nfs hd0) ds st
              have hf : FinK _ E P w K ρ H (callI T F (n + 1) (q.2 + nfs t) ds st) _ Q := hf
              rw [e] at hf
              exact hf
          · exfalso
            obtain ⟨q, hq, e⟩ := List.mem_filterMap.mp hmem
            split at e
            · obtain ⟨i', hi', e⟩ := Option.map_eq_some_iff.mp e
              have e1 : i' + 3000 = i0 + 2000 := congrArg (fun z : Nat × Nat × List D => z.1) e
              have := (List.getElem?_eq_some_iff.mp m1).1
              omega
            · cases e
      · cases hj
    · cases hj
  · have hj : lnOf t = some j := hj
    unfold lnOf at hj
    obtain ⟨i0, hi0, rfl⟩ := Option.map_eq_some_iff.mp hj
    refine ⟨fun c C k p hC hk hp => ?_⟩
    obtain ⟨cd, hcd, rfl⟩ := hcls c k hk
    have hC' : C = He.ga K cd.x := by
      have : (t.cl.map fun c => He.ga K c.x)[c]? = some C := hC
      rw [List.getElem?_map, hcd] at this
      exact (Option.some.inj this).symm
    subst hC'
    have hsm : t.aN.length < 1000 := of_decide_eq_true (Bool.and_eq_true_iff.mp hcb.1).2
    obtain ⟨m1, _⟩ := mth_ok hi0
    rcases List.mem_append.mp (look_nat hp) with hmem | hmem
    · exfalso
      rcases List.mem_append.mp hmem with hmem | hmem
      · obtain ⟨q, hq, e⟩ := List.mem_filterMap.mp hmem
        obtain ⟨i', hi', e⟩ := Option.map_eq_some_iff.mp e
        have e1 : i' = i0 + 3000 := congrArg (fun z : Nat × Nat × List D => z.1) e
        have := (List.getElem?_eq_some_iff.mp (mth_ok hi').1).1
        omega
      · obtain ⟨q, hq, e⟩ := List.mem_filterMap.mp hmem
        split at e
        · cases e
        · obtain ⟨i', hi', e⟩ := Option.map_eq_some_iff.mp e
          have e1 : i' + 1000 = i0 + 3000 := congrArg (fun z : Nat × Nat × List D => z.1) e
          have := (List.getElem?_eq_some_iff.mp (mth_ok hi').1).1
          omega
    · rcases List.mem_append.mp hmem with hmem | hmem
      · exfalso
        obtain ⟨q, hq, e⟩ := List.mem_filterMap.mp hmem
        obtain ⟨i', hi', e⟩ := Option.map_eq_some_iff.mp e
        have e1 : i' + 2000 = i0 + 3000 := congrArg (fun z : Nat × Nat × List D => z.1) e
        have := (List.getElem?_eq_some_iff.mp (mth_ok hi').1).1
        omega
      · obtain ⟨q, hq, e⟩ := List.mem_filterMap.mp hmem
        split at e
        · rename_i hql
          obtain ⟨i', hi', e⟩ := Option.map_eq_some_iff.mp e
          have e2 : (q.2 + nfs t, []) = p := congrArg (fun z : Nat × Nat × List D => z.2) e
          subst e2
          obtain ⟨d0, hd0, hat, hfew, _⟩ := (hcl c cd hcd).2 q hq
          obtain ⟨hng, hl⟩ := (hcgc c cd hcd).2.1 q hq d0 hd0
          obtain ⟨hkw, hp1⟩ := hl hql
          obtain ⟨_, _, _, k4⟩ := tx.cls c cd hcd
          have k4 := k4 q hq
          obtain ⟨fd0, kws0, dvs0, dus0, FD0, _, b0, v0, r0, _⟩ := tx.fn q.2 d0 hd0
          have hfa : adr t K d0.at_ = He.ma K (He.ga K cd.x) q.1 := by rw [adr_no hng, hat]; rfl
          have hbn : Binds K fd0 d0.ps [] := by
            rw [hkw] at r0
            have hdv := r0 [] (fun _ => none)
            cases hdv
            cases v0
            exact b0
          rw [hql] at k4 hfa
          refine ⟨rfl, n, _, fd0, d0.ps, k4, ?_, hr, hbn, hp1⟩
          cases n with
          | zero => exact ⟨fun vs H Q E h => h.1, fun A outer s H args us vs Q E hr he hb hv hs => by
              obtain ⟨_, ρ, st, ds, _, _, hf⟩ := hs
              exact hf.elim⟩
          | succ n =>
            have := ((ih n (by omega)).1 q.2 d0 hd0 kws0 fd0 FD0).1 (mk_meth hmm hd0 hat)
            rw [hfa] at this
            refine FnOk.imp this fun vs H Q E h => ?_
            obtain ⟨h1, ρ, st, ds, S, rs, hf⟩ := h
            refine ⟨h1, ρ, st, ds, S, rs, ?_⟩
            have e : callI T F (n + 1) (q.2 + nfs t) ds st = callI T F n q.2 ds st := by
              rw [← hlen]
              exact callI_over (by rw [hlen]; exact lt_nfs hd0) ds st
            have hf : FinK _ E P w K ρ H (callI T F (n + 1) (q.2 + nfs t) ds st) _ Q := hf
            rw [e] at hf
            exact hf
        · cases e
  · have hx : (if isXi t x then t.ex.findIdx? fun p => p.1 == x else none) = some k := hx
    split at hx
    · rename_i hxx
      obtain ⟨hlt, hp, _⟩ := List.findIdx?_eq_some_iff_getElem.mp hx
      have hpe : t.ex[k].1 = x := by simpa using hp
      subst hpe
      obtain ⟨q1, _⟩ := tx.ex k _ (List.getElem?_eq_getElem hlt)
      unfold isXi at hxx
      obtain ⟨p, hpm, hpx⟩ := List.any_eq_true.mp hxx
      have hpx : p.1 = t.ex[k].1 := by simpa using hpx
      obtain ⟨fI, fd0, sn, z1, z2, z3, z4, z5⟩ := hxi.1 p hpm
      rw [hpx] at z1 z3 z4
      refine ⟨He.ga K t.ex[k].1, fI, fd0, sn, ?_, q1, z3, z1, z2, z4, hr.mono (by omega), z5⟩
      show xA[k]? = _
      rw [hxA, List.getElem?_map, List.getElem?_eq_getElem hlt]; rfl
    · cases hx
  · have hC : xA[k]? = some C := hC
    rw [hxA, List.getElem?_map] at hC
    obtain ⟨p, e1, rfl⟩ := Option.map_eq_some_iff.mp hC
    have hne : t.xi ≠ [] := fun z => by
      have hxr : (!t.xi.isEmpty) = true := hxr
      rw [z] at hxr; cases hxr
    exact hxi.2 hne p (List.mem_of_getElem? e1)
  · have hcwt := hcw h
    obtain ⟨⟨x1, x2⟩, x3⟩ := tx.xk hcwt
    refine ⟨⟨her, n + 1, hr, (ih n (Nat.lt_succ_self n)).2⟩, x1, x2, fun k C hC => ?_⟩
    have hC : xA[k]? = some C := hC
    rw [hxA, List.getElem?_map] at hC
    obtain ⟨p, e1, rfl⟩ := Option.map_eq_some_iff.mp hC
    obtain ⟨y1, y2, y3⟩ := x3 k p e1
    refine ⟨y1, y2, fun k' C' hC' => ?_⟩
    have hC' : xA[k']? = some C' := hC'
    rw [hxA, List.getElem?_map] at hC'
    obtain ⟨p', e2, rfl⟩ := Option.map_eq_some_iff.mp hC'
    have := y3 p' (List.mem_of_getElem? e2)
    show PySem.W.kitOne _ _ _ = some (match t.ex[k']? with | some p => p.2.contains k | none => false)
    rw [e2]
    exact this
/-- the promises under which all stands -/
structure Base (t : Tx) (L : LL) (mg : Str → Option Value) (T : Tbl) (base0 base : Heap) : Prop where
  ls : ∀ k, L.ls k = if k < t.ds.length then none else (lamsT t)[k - t.ds.length]?
  er : L.er = none
  gn : L.gn = t.gn
  γ : T.γ = L.ct
  W : L.ct ≠ none → @OwnW L base
  out : T.inn = false → L.own = [] ∧ L.ct = none
  up : ∀ b o, base0.get? b = some o → base.get? b = some o
theorem la_ok {t : Tx} {T : Tbl} {F fuel n : Nat} {xA : List Addr} {base0 : Heap} (hxA : xA = t.ex.map fun p => He.ga K p.1) (tx : TxOk t K w mg) (hcb : clB t = true) (hcg : clG t = true) (hmm : clM t = true) (hlen : T.fns.length = nfs t) (hT : T.cls = clsOf t) (hd : ∀ i d, t.ds[i]? = some d → dfB t fuel T i d) (hxi : XiF P w K mg base t) (hlm : ∀ j L, (lamsT t)[j]? = some L → lmB t fuel T j L) (hB : Base t ‹LL› mg T base0 base) (ih : ∀ m, m < n + 1 → FB P w K mg base t T F xA m) : LmOk (mdN (nmOf t K) T F xA (n + 1)) P w K mg base (n + 2) := by
  intro k f A outer s H E us vs Q ρ hr e0 r rv ⟨ρ1, st, ds, S, rs, hf⟩
  cases r with
  | err h => rw [hB.er] at h; cases h
  | fn hL hf0 hfn hc hcn caps hks =>
    rename_i c L cl
    rw [hB.ls] at hL
    split at hL
    · cases hL
    rename_i hlt
    obtain ⟨xs, e, hsc, hT', hcmp⟩ := hlm _ L hL
    have S0 := lmSc_ok hsc
    have ek : t.ds.length + (k - t.ds.length) = k := by omega
    rw [ek] at hT'
    have hl : ds.length = xs.length := Decidable.byContradiction fun z => by
      have : callI T F (n + 1) k ds st = .stuck := callI_len hT' (n + 1) ds st z
      have hf : FinK _ E P w K ρ1 H (callI T F (n + 1) k ds st) _ Q := hf
      rw [this] at hf
      exact hf.elim
    have hvl : vs.length = xs.length := by rw [← rs.length]; exact hl
    have hul : us.length = xs.length := by rw [← rv.length]; exact hvl
    have hcall : callI T F (n + 1) k ds st = (evE T F (callI T F n) (lmE L e) (ds.map some) st) := by
      have hen : entry xs.length ds = ds.map some := by unfold entry; rw [hl]; simp
      simp only [callI, hT', hl, if_true, exSs, exS, hen]
      cases evE T F (callI T F n) (lmE L e) (ds.map some) st <;> rfl
    have hf : FinK _ E P w K ρ1 H (callI T F (n + 1) k ds st) _ Q := hf
    rw [hcall] at hf
    have hγ : L.caps ≠ [] → LL.ct ≠ none := fun hne z => by
      have h1 : L.caps.isEmpty = false := by cases hq : L.caps with | nil => exact absurd hq hne | cons _ _ => rfl
      have h2 : lmE L e = .need e := by unfold lmE; rw [h1]; rfl
      rw [h2] at hf
      simp only [evE, hB.γ, z] at hf
      exact hf.elim
    have hev : FinK (mdN (nmOf t K) T F xA (n + 1)) E P w K ρ1 H (evE T F (callI T F n) e (ds.map some) st) (fun ρ H d v => Rep K ρ H d v) Q := by
      unfold lmE at hf
      split at hf
      · exact hf
      · simp only [evE] at hf
        split at hf
        · exact hf
        · exact hf.elim
    refine lm_run (ps := xs) S0 hr e0 hf0 hc hks caps (fun hne => hB.W (hγ hne)) rv hul fun hr' => ?_
    have ok := cc_ok (E := E) (X := lmCx P w K mg base xs L f c cl A outer s H E) (N := xs) (sc := L.scope) (fn := fun _ => false) (lam := none) (lms := []) (qq := "") (cw := false) (cps := if L.caps.isEmpty then [] else t.gn) (ownN := []) hxA tx hcb hcg hmm hlen hT hd hxi hB.er ih rfl rfl rfl rfl rfl rfl rfl rfl S0.nd rfl hr' (passes_call (takes_of rfl rfl rfl rfl) (fun _ _ _ _ h => h)) (fun j h => by cases h) (fun z => absurd rfl z) (fun p h => by cases h) (fun z => by cases z)
      ⟨fun hne => by
        show LL.gn = (if L.caps.isEmpty then [] else t.gn)
        split
        · rename_i hz
          have hne : (if L.caps.isEmpty then [] else t.gn) ≠ [] := hne
          rw [if_pos hz] at hne
          exact absurd rfl hne
        · exact hB.gn, fun _ x hx hfx => by
        have hfx : L.scope.names.lookup x = some .free := hfx
        obtain ⟨cc, h1, h2⟩ := caps x (S0.fre _ (PySem.mem_of_lookup hfx) rfl)
        exact ⟨cc, h2, h1⟩, fun _ hne => by
        have hne : (if L.caps.isEmpty then [] else t.gn) ≠ [] := hne
        have hcn : L.caps ≠ [] := fun z => by rw [z] at hne; exact hne rfl
        exact ⟨hB.W (hγ hcn), hB.γ⟩, fun z => absurd rfl z, fun z => absurd rfl z⟩
    refine ⟨_, (comp_ok fuel).val ok hcmp, ρ1, ds.map some, st, ?_, S, ?_⟩
    · refine ⟨by simp [rs.length], fun i d e => ?_⟩
      rw [List.getElem?_map] at e
      obtain ⟨y, hy, e⟩ := Option.map_eq_some_iff.mp e
      cases e
      obtain ⟨v, hv, rv⟩ := rs.get hy
      refine ⟨v, ?_, rv⟩
      rw [List.getElem?_map, hv]
      rfl
    · show Fin _ _ _ _ _ (evE T F (callI T F n) e (ds.map some) st) _ _
      revert hev
      cases evE T F (callI T F n) e (ds.map some) st <;> exact fun h => h
theorem callG_ok {t : Tx} {T : Tbl} {F n : Nat} {xA : List Addr} (tx : TxOk t K w mg) {X : Cx} (e1 : P = X.prog) (e2 : w = X.w) (e3 : K = X.K) (e4 : mg = X.mg) (hr : Room (n + 1) X.A)
    (hG : ∀ (γ : List (Option D)) (base' : Heap), (∀ b o, X.base.get? b = some o → base'.get? b = some o) → @OwnW (LL2 base' γ) base' → ∀ m, m < n + 1 → @FB (LL2 base' γ) P w K mg base' t ⟨T.fns, T.cls, true, some γ⟩ F xA m) :
    ∀ x i np, glOf t x = some (.fn i np []) → CallG (mdN (nmOf t K) T F xA n) X i np x := by
  intro x i np hg
  subst e1 e2 e3 e4
  unfold glOf at hg
  split at hg
  rotate_left
  · split at hg
    · split at hg
      · split at hg <;> cases hg
      · cases hg
    · split at hg
      · cases hg
      · obtain ⟨dd, _, z⟩ := Option.map_eq_some_iff.mp hg
        cases z
  rename_i j hj
  split at hg
  rotate_left
  · cases hg
  rename_i dj hdj
  split at hg
  rotate_left
  · cases hg
  rename_i hat
  split at hg
  rotate_left
  · cases hg
  rename_i hmk
  have hg := Option.some.inj hg
  have e1 : j = i := by injection hg
  have e2 : dj.ps.length - dj.kw.length = np := by injection hg
  have e3 : dj.kw = [] := by injection hg
  subst e1 e2
  obtain ⟨fdj, kwsj, dvs, dus, FDj, mj, bj, vj, rj, kj⟩ := tx.fn j dj hdj
  have hx : dj.x = x := by
    obtain ⟨hlt, hp, _⟩ := List.findIdx?_eq_some_iff_getElem.mp hj
    rw [List.getElem?_eq_getElem hlt] at hdj
    cases hdj
    simpa using hp
  subst hx
  rw [e3] at rj
  have hdv := rj [] (fun _ => none)
  cases hdv
  cases vj
  have hnp : dj.ps.length - dj.kw.length = dj.ps.length := by rw [e3]; rfl
  rw [hnp]
  refine ⟨adr t X.K dj.at_, fdj, dj.ps, n - 1 + 1, mj hat, FDj.kp, bj, rfl, hr.mono (by omega), fun γ => ⟨mdN (nmOf t X.K) ⟨T.fns, T.cls, true, some γ⟩ F xA (n - 1), rfl, rfl, fun g ds st hg => ?_, fun base' hup W => ?_⟩⟩
  · cases n with
    | zero => rfl
    | succ n =>
      show callI T F (n + 1) (j + 2 * T.fns.length) (g :: ds) st = callI ⟨T.fns, T.cls, true, some γ⟩ F n j ds st
      rw [callI_twice, hg]
  · exact ((hG γ base' hup W (n - 1) (by omega)).1 j dj hdj kwsj fdj FDj).1 (List.isEmpty_iff.mp hmk)
theorem look_map {ns : List Str} {f : Str → Addr} {x : Str} (h : x ∈ ns) : (ns.map fun x => (x, f x)).lookup x = some (f x) := by
  induction ns with
  | nil => cases h
  | cons y r ih =>
    rw [List.map_cons, List.lookup_cons]
    by_cases e : x = y
    · subst e; simp
    · rw [beq_eq_false_iff_ne.mpr e]
      exact ih ((List.mem_cons.mp h).resolve_left e)
end
omit [LL] in
theorem fns_ok {P : Program} {w : World} {K : PySem.W.Frag} {mg : Str → Option Value} {t : Tx} {F fuel : Nat} {xA : List Addr} {base0 : Heap} (hxA : xA = t.ex.map fun p => He.ga K p.1) (hTB : ∀ p ∈ t.lm, LamX.TabB base0 mg (He.cT K p.1).1 (He.cT K p.1).2) (tx : ∀ L : LL, @TxOk L t K w mg) (hcb : clB t = true) (hcg : clG t = true) (hmm : clM t = true) (hxi : ∀ base : Heap, XiF P w K mg base t) :
    ∀ (n : Nat) (L : LL) (T : Tbl) (base : Heap), T.fns.length = nfs t → T.cls = clsOf t → (∀ i d, t.ds[i]? = some d → dfB t fuel T i d) → (∀ j L, (lamsT t)[j]? = some L → lmB t fuel T j L) → Base t L mg T base0 base → @FB L P w K mg base t T F xA n := by
  intro n
  induction n using Nat.strongRecOn with
  | ind n ihA =>
  intro L T base hlen hT hd hlm hB
  cases n with
  | zero =>
    refine ⟨fun i d hi kws fd FD => ⟨fun _ => ?_, fun _ => ?_⟩, fun k f A outer s H E us vs Q ρ hr e0 r rv ⟨ρ1, st, ds, S, rs, hf⟩ => hf.elim⟩
    · exact ⟨fun vs H Q E h => h.1, fun A outer s H args us vs Q E hr he hb hv hs => by
        obtain ⟨_, ρ, st, ds, _, _, hf⟩ := hs
        exact hf.elim⟩
    · exact ⟨fun vs H Q E h => h.1, fun A outer s H args us vs Q E hr he hb hv hs => by
        obtain ⟨_, _, ρ, st, ds, _, _, hf⟩ := hs
        exact hf.elim⟩
  | succ n =>
    have ih : ∀ m, m < n + 1 → FB P w K mg base t T F xA m := fun m hm => ihA m hm L T base hlen hT hd hlm hB
    have htab : ∀ (d : Df) (X : Cx), (t.lm.findIdx? fun p => p == (d.at_, d.qual)) = (t.lm.findIdx? fun p => p == (d.at_, d.qual)) → True := fun _ _ _ => True.intro
    refine ⟨?_, la_ok hxA (tx L) hcb hcg hmm hlen hT hd (hxi base) hlm hB ih⟩
    intro i d hi kws fd FD
    obtain ⟨hsc, hkl, b, hb, hc⟩ := hd i d hi
    obtain ⟨oc, od, dV, kV, doc, pm, an, cdv, ct, osl, hfd, lk, hcd, _, _⟩ := FD.ex
    have lk' := lk
    rw [hfd] at lk
    rw [hfd]
    have lamat : ∀ (nm : Nm) (T' : Tbl) (m' : Nat) (A : Around) (outer : List PySem.Env) (s : Shared) (H : Hp) (E : XK), nm = nmOf t K → ∀ j, (t.lm.findIdx? fun p => p == (d.at_, d.qual)) = some j → LamAt (mdN nm T' F xA m') (cxOf (L2.CX P w) P w K mg base d.N d.qual (defScope d.st) (adr t K d.at_) cdv A outer s H E) j := fun nm T' m' A outer s H E hnm j hj => by
      subst hnm
      obtain ⟨hlt, hp, _⟩ := List.findIdx?_eq_some_iff_getElem.mp hj
      have hpe : t.lm[j] = (d.at_, d.qual) := by simpa using hp
      obtain ⟨c, rfl⟩ := He.codeIn_ref hcd
      have hcg0 := hcg
      unfold clG at hcg0
      simp only [Bool.and_eq_true, List.all_eq_true] at hcg0
      have hng : t.gt.contains d.at_ = false := by
        have := hcg0.1.1 _ (List.getElem_mem hlt)
        rw [hpe] at this
        simpa using this
      rw [adr_no hng] at lk'
      have hc : (He.cT K d.at_).1 = c := He.codeOf_eq lk' (by rw [hfd])
      have hB0 := hTB _ (List.getElem_mem hlt)
      rw [hpe] at hB0
      refine ⟨_, _, ⟨hB0.code.keeps hB.up, hB0.bm.keeps hB.up, hB0.gP⟩, ?_, ?_⟩
      · rw [hc]; rfl
      · show (t.lm.map _)[j]? = _
        rw [List.getElem?_map, List.getElem?_eq_getElem hlt, hpe]
        rfl
    have lmsat : ∀ p ∈ (if t.lf.isEmpty then [] else lmsIx t), L.ls p.1 = some p.2 := fun p hp => by
      split at hp
      · cases hp
      · unfold lmsIx at hp
        obtain ⟨q, hq, rfl⟩ := List.mem_map.mp hp
        have hq := List.mk_mem_zipIdx_iff_getElem?.mp hq
        rw [hB.ls, if_neg (by omega), Nat.add_sub_cancel_left]
        exact hq
    refine ⟨fun hmk => ?_, fun hmk => ?_⟩
    · refine fn_of lk hcd (scB_ok hsc) (fun vs H Q E h => h.1) fun A outer s H vs Q E hr h => ?_
      obtain ⟨hl, ρ, st, ds, S, rs, hf⟩ := h
      generalize hX : cxOf (L2.CX P w) P w K mg base d.N d.qual (defScope d.st) (adr t K d.at_) cdv A outer s H E = X
      have ok : CcOk (mdN (nmOf t K) T F xA n) E X (ccOf t i d) := by
        subst hX
        refine cc_ok hxA (tx L) hcb hcg hmm hlen hT hd (hxi base) hB.er ih rfl rfl rfl rfl rfl rfl rfl rfl (scB_ok hsc).nd rfl hr (passes_call (takes_of rfl rfl rfl rfl) (fun _ _ _ _ h => h)) (fun j hj => lamat _ _ _ A outer s H E rfl j hj) (fun _ => rfl) lmsat (fun h => h) (.nil ?_ hmk)
        show (if (mkOf t i).isEmpty then [] else t.gn) = []
        rw [hmk]; rfl
      have tryx : TryX X E := by
        subst hX
        exact ⟨rfl, rfl, takes_of rfl rfl rfl rfl⟩
      have hp : PassesOwn (model X.prog X.w) X.A X.env X.xe := by
        subst hX
        exact passes_of rfl
      have hk : X.env.scope.kind = .function := by
        subst hX
        exact (scB_ok hsc).kind
      have hK : X.K = K := by subst hX; rfl
      refine ⟨_, compS_ok ok hk hp tryx fuel hc, ρ, entry d.N.length ds, st, reps_entry (by rw [hK]; exact rs), by subst hX; exact S, ?_⟩
      have hcall : callI T F (n + 1) i ds st = (exSs T F (callI T F n) b (entry d.N.length ds) st).bind fun fl s => match fl with
          | .nx _ => .ok .non s
          | .rt d => .ok d s := by
        have hlen : ds.length = d.ps.length := by rw [rs.length]; exact hl
        simp only [callI, hb, hlen, if_true] <;> rfl
      rw [hcall] at hf
      have hf : Fin (mdN (nmOf t K) T F xA n) E X ρ H ((exSs T F (callI T F n) b (entry d.N.length ds) st).bind fun fl s => match fl with
          | .nx _ => R.ok D.non s
          | .rt d => R.ok d s) (rD X) Q := by
        subst hX
        exact Fin.of_k hf
      refine hf.bind fun fl st1 ρ1 H1 g s1 S1 r1 hf1 => ?_
      cases fl with
      | nx env =>
        cases g with
        | inl σ1 => exact Fin.now (b := V.non) hf1 S1 Rep.non
        | inr v => exact r1.elim
      | rt dd =>
        cases g with
        | inl σ1 => exact r1.elim
        | inr v => exact Fin.now (b := v) hf1 S1 r1
    · cases n with
      | zero =>
        refine ⟨fun vs H Q E h => h.1, fun A outer s H args us vs Q E hr he hbb hv hs => ?_⟩
        obtain ⟨_, _, ρ, st, ds, _, _, hf⟩ := hs
        have e : callI T F 1 (i + 2 * T.fns.length) (.non :: ds) st = .stuck := callI_twice _ _ _
        have hf : FinK _ E P w K ρ H (leave st.sz (callI T F 1 (i + 2 * T.fns.length) (.non :: ds) st)) _ Q := hf
        rw [e] at hf
        exact hf.elim
      | succ n =>
        refine fn_of lk hcd (scB_ok hsc) (fun vs H Q E h => h.1) fun A outer s H vs Q E hr h => ?_
        obtain ⟨hl, hinn, ρ, st, ds, S, rs, hf⟩ := h
        obtain ⟨hat, hkw, hcell⟩ := mk_fn hmm hi hmk
        obtain ⟨ho, hct⟩ := hB.out hinn
        have e : callI T F (n + 2) (i + 2 * T.fns.length) (.non :: ds) st = callI ⟨T.fns, T.cls, true, none⟩ F (n + 1) i ds st := callI_twice _ _ _
        have hf : FinK _ E P w K ρ H (leave st.sz (callI T F (n + 2) (i + 2 * T.fns.length) (.non :: ds) st)) _ Q := hf
        rw [e] at hf
        generalize hX : cxOf (L2.CX P w) P w K mg base d.N d.qual (defScope d.st) (adr t K d.at_) cdv A outer s H E = X
        have hcl : ∀ x ∈ mkOf t i, ∃ c, X.env.cells.lookup x = some c := fun x hx => by
          subst hX
          exact cell_has (hcell x hx)
        obtain ⟨own, hown⟩ : ∃ own : List (Str × Addr), own = (mkOf t i).map fun x => (x, (X.env.cells.lookup x).getD 0) := ⟨_, rfl⟩
        obtain ⟨L1, hL1⟩ : ∃ L1 : LL, L1 = ⟨L.ls, L.cb, own, none, L.gn, L.er⟩ := ⟨_, rfl⟩
        have B1 : Base t L1 mg ⟨T.fns, T.cls, true, none⟩ base0 base := by
          subst hL1
          exact ⟨hB.ls, hB.er, hB.gn, rfl, fun h => absurd rfl h, (fun h => by cases h), hB.up⟩
        have ih1 : ∀ m, m < n + 1 → @FB L1 P w K mg base t ⟨T.fns, T.cls, true, none⟩ F xA m := fun m hm => ihA m (by omega) L1 ⟨T.fns, T.cls, true, none⟩ base hlen hT hd hlm B1
        have hG : ∀ (γ : List (Option D)) (base' : Heap), (∀ b o, base.get? b = some o → base'.get? b = some o) → @OwnW (@LL2 L1 base' γ) base' → ∀ m, m < n + 1 → @FB (@LL2 L1 base' γ) P w K mg base' t ⟨T.fns, T.cls, true, some γ⟩ F xA m := fun γ base' hup W m hm =>
          ihA m (by omega) (@LL2 L1 base' γ) ⟨T.fns, T.cls, true, some γ⟩ base' hlen hT hd hlm ⟨B1.ls, B1.er, B1.gn, rfl, fun _ => W, (fun h => by cases h), fun b o e => hup b o (hB.up b o e)⟩
        have ok : @CcOk L1 (mdN (nmOf t K) ⟨T.fns, T.cls, true, none⟩ F xA n) E X (ccOf t i d) := by
          have hr1 : Room (n + 1) (A.deeper (envOfC d.qual (defScope d.st) s.heap.objs.size (adr t K d.at_) cdv)) := hr.mono (by omega)
          have MK : @MkOk L1 X (mkOf t i) := by
            subst hL1
            refine @MkOk.mk ⟨L.ls, L.cb, own, none, L.gn, L.er⟩ X _ (fun x hx => ?_) (fun x c hm => ?_) rfl
            · obtain ⟨c, hc⟩ := hcl x hx
              refine ⟨c, ?_, hc⟩
              show own.lookup x = _
              rw [hown, look_map hx, hc]; rfl
            · have hm : (x, c) ∈ own := hm
              rw [hown] at hm
              obtain ⟨y, hy, e⟩ := List.mem_map.mp hm
              cases e
              obtain ⟨c, hc⟩ := hcl x hy
              refine ⟨by rw [hc]; rfl, ?_, ?_⟩
              · subst hX
                exact hcell x hy
              · subst hX; rfl
          subst hX
          refine @cc_ok L1 P w K mg base t ⟨T.fns, T.cls, true, none⟩ F fuel n xA hxA (tx L1) hcb hcg hmm hlen hT hd (hxi base) B1.er ih1 _ E _ _ _ _ _ _ _ _ _ rfl rfl rfl rfl rfl rfl rfl rfl (scB_ok hsc).nd rfl hr1 (passes_call (takes_of rfl rfl rfl rfl) (fun _ _ _ _ h => h)) (fun j hj => lamat _ _ _ A outer s H E rfl j hj) (fun _ => rfl) (by subst hL1; exact lmsat) (fun h => h) ?_
          have hemp : (mkOf t i).isEmpty = false := by cases hq : mkOf t i with | nil => exact absurd hq hmk | cons _ _ => rfl
          refine @NewOk.mk L1 _ _ _ (fun _ => ?_) (fun z => absurd z hmk) (fun z => absurd z hmk) (fun _ => MK) (fun _ => @callG_ok L1 P w K mg t ⟨T.fns, T.cls, true, none⟩ F n xA (tx L1) _ rfl rfl rfl rfl hr1 hG)
          show L1.gn = (if (mkOf t i).isEmpty then [] else t.gn)
          rw [hemp]
          exact B1.gn
        have tryx : TryX X E := by
          subst hX
          exact ⟨rfl, rfl, takes_of rfl rfl rfl rfl⟩
        have hp : PassesOwn (model X.prog X.w) X.A X.env X.xe := by
          subst hX
          exact passes_of rfl
        have hk : X.env.scope.kind = .function := by
          subst hX
          exact (scB_ok hsc).kind
        have hK : X.K = K := by subst hX; rfl
        have sub : Sub L L1 := by
          subst hL1
          exact ⟨rfl, rfl, fun x c h => by rw [ho] at h; cases h⟩
        have S1 : @SRel L1 (nmOf t K) P w K ρ H st := SRel.sub L L1 sub S (CtOk.none (by subst hL1; rfl))
        refine ⟨_, compS_ok ok hk hp tryx fuel hc, ρ, entry d.N.length ds, st, reps_entry (by rw [hK]; exact Reps.sub L L1 sub _ _ rs), by subst hX; exact S1, ?_⟩
        have hcall : callI ⟨T.fns, T.cls, true, none⟩ F (n + 1) i ds st = (exSs ⟨T.fns, T.cls, true, none⟩ F (callI ⟨T.fns, T.cls, true, none⟩ F n) b (entry d.N.length ds) st).bind fun fl s => match fl with
            | .nx _ => .ok .non s
            | .rt d => .ok d s := by
          have hlen : ds.length = d.ps.length := by rw [@Reps.length L _ _ _ _ _ rs]; exact hl
          simp only [callI, hb, hlen, if_true] <;> rfl
        have hf1 : Fin (mdN (nmOf t K) ⟨T.fns, T.cls, true, none⟩ F xA n) E X ρ H (callI ⟨T.fns, T.cls, true, none⟩ F (n + 1) i ds st) (rD X) Q := by
          subst hX
          cases hres : callI ⟨T.fns, T.cls, true, none⟩ F (n + 1) i ds st with
          | stuck => rw [hres] at hf; exact hf.elim
          | exc c x st2 => rw [hres] at hf; exact hf.elim
          | ok dd st2 =>
            rw [hres] at hf
            have hf : @FinK L _ _ _ E P w K ρ H (if cleanD st.sz dd && (cleanS st.sz st2 && decide (st.sz ≤ st2.sz)) then .ok dd (st2.cut st.sz) else .stuck) _ Q := hf
            split at hf
            rotate_left
            · exact hf.elim
            rename_i hcln
            simp only [Bool.and_eq_true, decide_eq_true_eq] at hcln
            obtain ⟨k1, k2, k3⟩ := hcln
            rw [@SRel.sz L _ _ _ _ _ _ _ S] at k1 k2 k3 hf
            intro ρ' H' v stp S' rp
            obtain ⟨S2, stp2⟩ := SRel.cut L1 L hct S stp S' k2 k3
            refine hf ρ H' v stp2 S2 (Rep.cut L1 L (fun m a hm h => ?_) dd v k1 rp)
            have h1 := stp.ext m _ (List.getElem?_eq_getElem hm)
            rw [h] at h1
            rw [List.getElem?_eq_getElem hm, h1]
        rw [hcall] at hf1
        refine hf1.bind fun fl st1 ρ1 H1 g s1 S1 r1 hf1 => ?_
        cases fl with
        | nx env =>
          cases g with
          | inl σ1 => exact Fin.now (b := V.non) hf1 S1 Rep.non
          | inr v => exact r1.elim
        | rt dd =>
          cases g with
          | inl σ1 => exact r1.elim
          | inr v => exact Fin.now (b := v) hf1 S1 r1
end VI
/-! VIs: what is read off the head; the law's end. -/
namespace VI
open PySem PySem.Spec PyProof.Rows L2
section
variable {P : Program} {w : World} {K : PySem.W.Frag} {mg : Str → Option Value} {base : Heap}
theorem excCB_ok {D : Addr} (h : excCB K D = true) : ExcC K D := by
  unfold excCB at h
  simp only [Bool.and_eq_true, decide_eq_true_eq] at h
  obtain ⟨h1, h2, h3, h4, h5, h6, h7, h8⟩ := h
  exact ⟨He.eqO_ok h1, He.eqO_ok h2, h3, h4, He.eqO_ok h5, He.eqO_ok h6, h7, h8⟩
section
variable [LL]
mutual
theorem conV_ok : ∀ (n : Nat) (d : D) (u : Value), conV K n d u = true → ∃ v, RelV v u ∧ ∀ ρ H, Rep K ρ H d v
  | n, .non, u, h => by
    cases u <;> first | (simp [conV] at h; done) | exact ⟨.non, rfl, fun _ _ => .non⟩
  | n, .bl b, u, h => by
    cases u <;> first | (simp [conV] at h; done) | skip
    simp [conV] at h
    subst h
    exact ⟨.bl _, rfl, fun _ _ => .bl _⟩
  | n, .int i, u, h => by
    cases u <;> first | (simp [conV] at h; done) | skip
    simp [conV] at h
    subst h
    exact ⟨.int _, ⟨_, rfl⟩, fun _ _ => .int _⟩
  | n, .str x, u, h => by
    cases u <;> first | (simp [conV] at h; done) | skip
    simp [conV] at h
    subst h
    exact ⟨.str _, ⟨_, rfl⟩, fun _ _ => .str _⟩
  | 0, .tup xs, u, h => by cases u <;> simp [conV] at h
  | n + 1, .tup xs, u, h => by
    cases u <;> first | (simp [conV] at h; done) | skip
    rename_i a
    unfold conV at h
    split at h
    · rename_i o ho
      split at h
      · rename_i c its k hc hdt
        simp only [Bool.and_eq_true, decide_eq_true_eq] at h
        obtain ⟨⟨h1, h2⟩, h3⟩ := h
        obtain ⟨vs, q1, q2⟩ := conVs_ok n xs its.toList h3
        subst h1
        refine ⟨.ref a, rfl, fun ρ H => .tup (.inr ⟨o, its, k, ho, hc, hdt, ?_, q1⟩) (q2 ρ H)⟩
        rw [sizeLine_eq]; omega
      · cases h
    · cases h
  | n, .ref k, u, h => by cases u <;> simp [conV] at h
theorem conVs_ok : ∀ (n : Nat) (d : List D) (u : List Value), conVs K n d u = true → ∃ v, Vals v u ∧ ∀ ρ H, Reps K ρ H d v
  | n, [], u, h => by
    cases u with
    | nil => exact ⟨[], .nil, fun _ _ => .nil⟩
    | cons _ _ => simp [conVs] at h
  | n, x :: xs, u, h => by
    cases u with
    | nil => simp [conVs] at h
    | cons y ys =>
      simp only [conVs, Bool.and_eq_true] at h
      obtain ⟨v, r1, r2⟩ := conV_ok n x y h.1
      obtain ⟨vs, q1, q2⟩ := conVs_ok n xs ys h.2
      exact ⟨v :: vs, .cons r1 q1, fun ρ H => .cons (r2 ρ H) (q2 ρ H)⟩
end
theorem noInts_ok (h : noInts K = true) {H : Hp} {a : Addr} {ns : List Int} (hs : SqL K H a (ns.map V.int)) : Rd H a (.lst (ns.map V.int)) := by
  rcases hs with hs | ⟨o, its, n, h1, h2, h3, h4, h5, h6⟩
  · exact hs
  · exfalso
    have := List.all_eq_true.mp h (a, o) (He.lookup_mem h1)
    have z : intList o = true := by
      unfold intList
      rw [Bool.and_eq_true]
      refine ⟨decide_eq_true h2, ?_⟩
      rw [h4]
      simp only
      rw [← Array.all_toList, List.all_eq_true]
      intro v hv
      obtain ⟨i, hi⟩ := List.getElem?_of_mem hv
      have key : ∀ (ns : List Int) (us : List Value), Vals (ns.map V.int) us → ∀ u ∈ us, ∃ i t, u = .int i t := fun ns => by
        induction ns with
        | nil => intro us r u hu; cases r; cases hu
        | cons k r ih =>
          intro us rr u hu
          cases rr with
          | cons q qq =>
            rcases List.mem_cons.mp hu with e | e
            · obtain ⟨t, rfl⟩ := q; exact ⟨_, t, e⟩
            · exact ih _ qq u e
      obtain ⟨k, t, rfl⟩ := key ns _ h6 v hv
      rfl
    rw [z] at this
    cases this
structure BindD (d : Df) : Prop where
  plain : d.kw = [] → ∀ (kV doc pm : Value) (an : Option Addr) (cdv ct : Value) (us : List Value), us.length = d.ps.length → bindArgs (PySem.W.fnOf d.name d.qual (defArgs d.st) (defBody d.st) (defScope d.st) .none kV doc pm an cdv ct) ⟨us, []⟩ = pure (d.ps.zip us)
  lack : d.kw ≠ [] → ∀ (D : Addr) (doc pm : Value) (an : Option Addr) (cdv ct : Value) (us ks : List Value), us.length = d.ps.length - d.kw.length → ks.length = d.kw.length → KwChain D ((d.kw.map (·.1)).zip ks) (bindArgs (PySem.W.fnOf d.name d.qual (defArgs d.st) (defBody d.st) (defScope d.st) .none (.ref D) doc pm an cdv ct) ⟨us, []⟩) (d.ps.zip (us ++ ks))
  told : d.kw ≠ [] → ∀ (kV doc pm : Value) (an : Option Addr) (cdv ct : Value) (us ws : List Value), us.length = d.ps.length - d.kw.length → ws.length = d.kw.length → bindArgs (PySem.W.fnOf d.name d.qual (defArgs d.st) (defBody d.st) (defScope d.st) .none kV doc pm an cdv ct) ⟨us, (d.kw.map (·.1)).zip ws⟩ = pure (d.ps.zip (us ++ ws))
  flat : d.kw.all (fun p => dvB p.2) = true
  few : d.kw.length ≤ d.ps.length
def BindOk (t : Tx) : Prop := ∀ d ∈ t.ds, BindD d
theorem kitB_ok {t : Tx} {ty : Ty} {u : Value} (h : kitB t K ty u = true) : IsTab (nmOf t K) K ty u := by
  unfold kitB at h
  rw [Bool.and_eq_true] at h
  refine ⟨fun k n hk => ?_, fun c C hC => ?_⟩
  · have hlt : k < 7 := (List.getElem?_eq_some_iff.mp hk).1
    have h2 := List.all_eq_true.mp h.1 k (List.mem_range.mpr hlt)
    rw [hk] at h2
    exact of_decide_eq_true h2
  · have hC : (t.cl.map fun c => He.ga K c.x)[c]? = some C := hC
    rw [List.getElem?_map] at hC
    obtain ⟨cd, hcd, rfl⟩ := Option.map_eq_some_iff.mp hC
    have h2 := List.all_eq_true.mp h.2 c (List.mem_range.mpr (List.getElem?_eq_some_iff.mp hcd).1)
    rw [hcd] at h2
    exact of_decide_eq_true h2
theorem dv_reps : ∀ {kw : List (Str × D)}, kw.all (fun p => dvB p.2) = true → ∀ ρ H, Reps K ρ H (kw.map (·.2)) ((kw.map fun p => (p.1, (dvOf p.2).v K)).map (·.2))
  | [], _, _, _ => .nil
  | p :: r, h, ρ, H => by
    simp only [List.all_cons, Bool.and_eq_true] at h
    refine .cons ?_ (dv_reps h.2 ρ H)
    obtain ⟨x, d⟩ := p
    cases d <;> first | exact .non | exact .bl _ | exact .int _ | exact .str _ | cases h.1
theorem propB_ok {c f : Str} (h : propB K c f = true) : ∃ p, PropOf K (He.ga K c) f p (gtA K (c, some f)) := by
  unfold propB at h
  split at h
  · rename_i p hp
    simp only [Bool.and_eq_true, decide_eq_true_eq] at h
    obtain ⟨h1, h2, h3⟩ := h
    split at h3
    · rename_i g r hr
      refine ⟨p, hp, He.eqO_ok h1, h2, r, ?_⟩
      have : gtA K (c, some f) = g := by
        unfold gtA
        simp only [hp, hr]
      rw [this]; exact hr
    · cases h3
  · cases h
theorem tx_ok {t : Tx} {h : Heap} {tf : List He.Defn} (hcb : clB t = true) (hcg : clG t = true) (hgt : GtOk t K) (hb : BindOk t) (X : K.In h) (G : h.Ns mainGlobals mg) (c : He.SaysX (faD t) (fnD t) (tsD t) tf (exB t) w h K) : TxOk t K w mg := by
  have hd := c.t.d
  have hm' := c.more
  unfold exB at hm'
  obtain ⟨hm, hxk⟩ := Bool.and_eq_true_iff.mp hm'
  unfold exB0 at hm
  simp only [Bool.and_eq_true] at hm
  obtain ⟨⟨⟨⟨⟨⟨hm1, hm2⟩, hm3⟩, hm4⟩, hm5⟩, hm6⟩, hm7⟩ := hm
  have fact : ∀ {f : He.Fa}, f ∈ faD0 t → f.ok K = true := fun hf => hd.facts (List.mem_append_left _ hf)
  have factX : ∀ {f : He.Fa}, f ∈ faX t → f.ok K = true := fun hf => hd.facts (List.mem_append_right _ hf)
  have fcls : ∀ (cd : ClD), cd ∈ t.cl → ∀ {f : He.Fa}, f ∈ faC t cd → f.ok K = true := fun cd hcd f hf => fact (by
    unfold faD0
    exact List.mem_append_left _ (List.mem_append_left _ (List.mem_append_right _ (List.mem_flatMap.mpr ⟨cd, hcd, hf⟩))))
  have ndA : t.aN.Nodup := by unfold clB at hcb; rw [Bool.and_eq_true, Bool.and_eq_true] at hcb; exact of_decide_eq_true hcb.1.1
  have catC : ∀ (n : Nat) (C : Addr), (nmOf t K).cA[n]? = some C → ∃ cd, t.cl[n]? = some cd ∧ C = He.ga K cd.x := fun n C hC => by
    have hC : (t.cl.map fun c => He.ga K c.x)[n]? = some C := hC
    rw [List.getElem?_map] at hC
    obtain ⟨cd, hcd, e⟩ := Option.map_eq_some_iff.mp hC
    exact ⟨cd, hcd, e.symm⟩
  refine ⟨fun i d hi => ?_, fun x d hx => ?_, fun x kvs hx => ?_, fun x hx => ?_, ⟨fun n C hC => ?_, fun n C j f hC hj hf => ?_, ndA⟩, fun p hp => kitB_ok (List.all_eq_true.mp hm3 p hp), fun n cd hcd => ?_, fun n cd i hcd hi => ?_, fun k p hk => ?_, fun n cd hcd q hq => ?_, fun k k' p p' hk hk' => ?_, fun hcw => ?_⟩
  · have hmem : d ∈ t.ds := List.mem_of_getElem? hi
    have bd := hb d hmem
    unfold clG at hcg
    simp only [Bool.and_eq_true, List.all_eq_true] at hcg
    have hcd := hcg.1.2 d hmem
    simp only [Bool.and_eq_true, Bool.or_eq_true, Bool.not_eq_true'] at hcd
    have hFD : ∃ fd, FunK t K d (d.kw.map fun p => (p.1, (dvOf p.2).v K)) fd := by
      cases hg : t.gt.contains d.at_ with
      | true =>
        have hkw : d.kw = [] := by
          rcases hcd.2 with z | z
          · rw [hg] at z; cases z
          · simpa using z
        obtain ⟨fd, FD⟩ := hgt.1 d hmem hg
        refine ⟨fd, ?_⟩
        show FunD K d.name d.qual (defArgs d.st) (defBody d.st) (defScope d.st) [] _ (adr t K d.at_) fd
        rw [adr_yes hg, hkw]
        exact FD
      | false =>
        obtain ⟨fd, FD⟩ := hd.defs (d := ⟨d.at_, d.name, d.qual, defArgs d.st, defBody d.st, defScope d.st, [], d.kw.map fun p => (p.1, dvOf p.2)⟩) (List.mem_map.mpr ⟨d, List.mem_filter.mpr ⟨hmem, by rw [hg]; rfl⟩, rfl⟩)
        have FD : FunD K d.name d.qual (defArgs d.st) (defBody d.st) (defScope d.st) [] ((d.kw.map fun p => (p.1, dvOf p.2)).map fun q => (q.1, q.2.v K)) (He.fAd K d.at_) fd := FD
        have hkws : ((d.kw.map fun p => (p.1, dvOf p.2)).map fun q => (q.1, q.2.v K)) = d.kw.map fun p => (p.1, (dvOf p.2).v K) := by rw [List.map_map]; rfl
        rw [hkws, ← adr_no hg] at FD
        exact ⟨fd, FD⟩
    obtain ⟨fd, FD⟩ := hFD
    have hmg : d.at_ = (d.x, none) → mg d.x = some (.ref (adr t K d.at_)) := fun hat => by
      have hf : He.Fa.glo d.x ∈ faD0 t := by
        unfold faD0
        refine List.mem_append_left _ (List.mem_append_left _ (List.mem_append_left _ (List.mem_map.mpr ⟨d, List.mem_filter.mpr ⟨hmem, ?_⟩, rfl⟩)))
        rw [hat]; rfl
      have := He.glo_ok X G (fact hf)
      have hng : t.gt.contains d.at_ = false := by
        rcases hcd.1 with z | z
        · rw [hat] at z; cases z
        · exact z
      rw [adr_no hng, hat]
      exact this
    by_cases hk : d.kw = []
    · refine ⟨fd, _, [], [], FD, hmg, FunD.bindsN FD (bd.plain hk), .nil, fun ρ H => by rw [hk]; exact .nil, fun z => absurd hk z⟩
    · have hne : (d.kw.map fun p => (p.1, (dvOf p.2).v K)) ≠ [] := fun z => hk (List.map_eq_nil_iff.mp z)
      have hn1 : (d.kw.map fun p => (p.1, (dvOf p.2).v K)).map (·.1) = d.kw.map (·.1) := by rw [List.map_map]; rfl
      obtain ⟨dus, hv, hbn⟩ := FunD.binds0 FD (ps := d.ps) (d.ps.length - d.kw.length) hne (by rw [List.length_map]; have := bd.few; omega) (by
        intro D doc pm an cdv ct us ks l1 l2
        rw [hn1]
        exact bd.lack hk D doc pm an cdv ct us ks l1 (by rw [l2, List.length_map]))
      refine ⟨fd, _, _, dus, FD, hmg, hbn, hv, dv_reps bd.flat, fun _ s us ws l1 l2 => ?_⟩
      obtain ⟨oc, od, dV, kV, doc, pm, an, cdv, ct, osl, rfl, lk, hcd, hD, hK⟩ := FD.ex
      rcases hD with ⟨_, rfl⟩ | ⟨e, _⟩
      · exact .of_eq (bd.told hk kV doc pm an cdv ct us ws l1 l2)
      · exact absurd rfl e
  · have := List.all_eq_true.mp hm2 (x, d) (PySem.mem_of_lookup hx)
    simp only at this
    split at this
    · rename_i u hu
      obtain ⟨v, r1, r2⟩ := conV_ok 8 d u this
      exact ⟨v, u, PySem.W.mg_of X G hu, r1, r2⟩
    · cases this
  · have hmem := PySem.mem_of_lookup hx
    obtain ⟨i, hi⟩ := List.getElem?_of_mem hmem
    obtain ⟨es, n, kd⟩ := c.t.tab i (t := (fun K => He.ga K x, keysOf kvs)) (by unfold tsD; rw [List.getElem?_map, hi]; rfl)
    have hg : He.Fa.glo x ∈ faD0 t := by
      unfold faD0
      exact List.mem_append_left _ (List.mem_append_right _ (List.mem_map.mpr ⟨(x, kvs), hmem, rfl⟩))
    refine ⟨He.ga K x, es, n, kd, He.glo_ok X G (fact hg), fun p hp => ?_⟩
    have := List.all_eq_true.mp (List.all_eq_true.mp hm6 (x, kvs) hmem) p hp
    split at this
    · rename_i z hz
      split at this
      · rename_i u hu
        obtain ⟨v, r1, r2⟩ := conV_ok 8 p.2 u this
        exact ⟨z, v, u, hz, hu, r1, r2⟩
      · cases this
    · cases this
  · exact He.free_ok X G (fact (by unfold faD0; exact List.mem_append_right _ (List.mem_map.mpr ⟨x, hx, rfl⟩)))
  · obtain ⟨cd, hcd, rfl⟩ := catC n C hC
    have hmem := List.mem_of_getElem? hcd
    have h4 := List.all_eq_true.mp hm4 cd hmem
    unfold clsB at h4
    simp only [Bool.and_eq_true, decide_eq_true_eq] at h4
    exact ⟨He.cls_ok (fcls cd hmem (by unfold faC; simp)), He.eqO_ok h4.1.1.1, He.eqO_ok h4.1.1.2, h4.1.2, h4.2⟩
  · obtain ⟨cd, hcd, rfl⟩ := catC n C hC
    have hmem := List.mem_of_getElem? hcd
    have hf' : t.fs[j]? = some f := by
      have : (t.fs ++ t.mn)[j]? = some f := hf
      rw [List.getElem?_append_left hj] at this
      exact this
    exact He.noat_ok (fcls cd hmem (by
      unfold faC
      exact List.mem_append_left _ (List.mem_append_right _ (List.mem_map.mpr ⟨f, List.mem_of_getElem? hf', rfl⟩))))
  · have hmem := List.mem_of_getElem? hcd
    have h5 := List.all_eq_true.mp hm5 n (List.mem_range.mpr (List.getElem?_eq_some_iff.mp hcd).1)
    rw [hcd] at h5
    exact ⟨He.glo_ok X G (fcls cd hmem (by unfold faC; simp)), He.mkr_ok (fcls cd hmem (by unfold faC; simp)), kitB_ok h5, fun q hq => He.meth_ok (fcls cd hmem (by
      unfold faC
      exact List.mem_append_right _ (List.mem_map.mpr ⟨q, hq, rfl⟩)))⟩
  · have h7 := List.all_eq_true.mp hm7.1.1 cd (List.mem_of_getElem? hcd)
    unfold eqB at h7
    rw [hi] at h7
    simp only [Bool.and_eq_true, List.all_eq_true] at h7
    exact ⟨He.eqO_ok h7.1, h7.2⟩
  · have hm := List.mem_of_getElem? hk
    have g1 : He.Fa.glo p.1 ∈ faX t := List.mem_append_left _ (List.mem_flatMap.mpr ⟨p, hm, by split <;> exact List.mem_cons_self⟩)
    refine ⟨He.glo_ok X G (factX g1), ?_⟩
    cases hi : isXi t p.1 with
    | false =>
      have g2 : He.Fa.exc p.1 ∈ faX t := List.mem_append_left _ (List.mem_flatMap.mpr ⟨p, hm, by rw [hi]; exact List.mem_cons_of_mem _ List.mem_cons_self⟩)
      obtain ⟨z1, z2⟩ := He.exc_ok (factX g2)
      exact ⟨fun _ => z1, z2⟩
    | true =>
      unfold isXi at hi
      obtain ⟨q, hqm, hqx⟩ := List.any_eq_true.mp hi
      have hqx : q.1 = p.1 := by simpa using hqx
      have T := hgt.2.2.2 q hqm
      rw [hqx] at T
      exact ⟨(fun z => nomatch z), T.kC, T.exC, T.tyC⟩
  · exact propB_ok (List.all_eq_true.mp (List.all_eq_true.mp hm7.1.2 cd (List.mem_of_getElem? hcd)) q hq)
  · have g : He.Fa.exm p.1 p'.1 (p'.2.contains k) ∈ faX t := List.mem_append_right _ (List.mem_flatMap.mpr ⟨(p, k), List.mk_mem_zipIdx_iff_getElem?.mpr hk, List.mem_map.mpr ⟨p', List.mem_of_getElem? hk', rfl⟩⟩)
    exact He.exm_ok (factX g)
  · rw [hcw] at hxk
    have hxk : xkB t K = true := hxk
    unfold xkB at hxk
    simp only [Bool.and_eq_true, List.contains_iff_mem, List.all_eq_true, decide_eq_true_eq] at hxk
    obtain ⟨⟨f1, f2⟩, f3⟩ := hxk
    have fr : ∀ x ∈ t.fr, mg x = none := fun x hx => He.free_ok X G (fact (by unfold faD0; exact List.mem_append_right _ (List.mem_map.mpr ⟨x, hx, rfl⟩)))
    refine ⟨⟨fr _ f1, fr _ f2⟩, fun k p hk => ?_⟩
    obtain ⟨y1, y2, y3⟩ := f3 (p, k) (List.mk_mem_zipIdx_iff_getElem?.mpr hk)
    exact ⟨excCB_ok y1, y2, y3⟩
/-- the script in the store -/
def script (ns : List Int) : Store := Store.nil.add (.flst (ns.map .int))
theorem ints_reps {ρ : List Addr} {H : Hp} : ∀ ns : List Int, Reps K ρ H (ns.map .int) (ns.map V.int)
  | [] => .nil
  | n :: r => .cons (.int n) (ints_reps r)
theorem script_rel {nm : Nm} {H : Hp} {a : Addr} {ns : List Int} (hct : LL.ct = none) (h : Rd H a (.lst (ns.map V.int))) : SRel nm P w K [a] H (script ns) := by
  refine ⟨by simp, rfl, fun n b hb => ?_, CtOk.none hct⟩
  cases n with
  | zero =>
    simp at hb
    subst hb
    exact ⟨.flst (ns.map .int), Store.get_add_self, _, h, ints_reps ns, ns, rfl⟩
  | succ n => simp at hb
end
/-- what may be let out, in whatever world -/
def CXa (P : Program) : CXT := fun outer H s E e s' => ∃ w, L2.CX P w outer H s E e s'
/-- the law's promise -/
theorem gt_nil {t : Tx} (h : t.gt = [] ∧ t.xi = []) : GtOk t K := by
  refine ⟨fun d _ z => ?_, fun p hp => ?_, fun hne => absurd h.2 hne, fun p hp => ?_⟩
  · rw [h.1] at z; cases z
  · rw [h.2] at hp; cases hp
  · rw [h.2] at hp; cases hp
/-- what is asked of the text's exceptions with an own __init__ -/
structure XiT (t : Tx) (P : Program) : Prop where
  file : t.xi ≠ [] → P.main.file = t.file
  top : t.xi ≠ [] → (P.main.scope.names.lookup ("super" : Str)).isSome = false
  sup : t.xi ≠ [] → ("super" : Str) ∈ t.fr
  S : ∀ p ∈ t.xi, ∃ sn, XiS p.2 sn
theorem xiT_nil {t : Tx} {P : Program} (h : t.xi = []) : XiT t P := ⟨fun z => absurd h z, fun z => absurd h z, fun z => absurd h z, fun p hp => by rw [h] at hp; cases hp⟩
section
variable [LL]
theorem xiF_of {t : Tx} (tx : TxOk t K w mg) (h : XiK t K) (hX : XiT t P) : XiF P w K mg base t := by
  refine ⟨fun p hp => ?_, h.2.1⟩
  have hne : t.xi ≠ [] := fun z => by rw [z] at hp; cases hp
  obtain ⟨f, cc, cdv, kV, doc, pm, ct, an, oc, od, osl, y1, y2, y3, y4⟩ := h.1 p hp
  obtain ⟨sn, Z⟩ := hX.S p hp
  have Y := y4 P sn (hX.file hne) (hX.top hne) Z
  obtain ⟨p0, p1, p2, p3, p4, p5, q0, q1, q2, q3, eb, hpl⟩ := Z.body
  obtain ⟨ar, ha, har⟩ := Z.arg
  refine ⟨f, _, sn, y1, y2, h.2.2 p hp, ?_, Binds.all fun us hl => Z.bind kV doc pm cdv ct an cc us hl⟩
  rw [eb] at y3 ⊢
  exact xi_ok Y (tx.fr _ (hX.sup hne)) y3 ha har hpl (by decide) Z.dn2
end
theorem law_end {t : Tx} {T : Tbl} {F fuel n i most : Nat} {d : Df} {x : Str} (hcb : clB t = true) (hcg : clG t = true) (hmm : clM t = true) (hTo : T.inn = false ∧ T.γ = none) (hmk : mkOf t i = []) (hg0 : t.gt = [] ∧ t.xi = []) (hlen : T.fns.length = nfs t) (hT : T.cls = clsOf t) (hd : ∀ i d, t.ds[i]? = some d → dfB t fuel T i d) (hlm0 : ∀ j L, (lamsT t)[j]? = some L → lmB t fuel T j L) (hbd : BindOk t) (hi : t.ds[i]? = some d) (hps : d.ps = [x]) (hat : d.at_ = (d.x, none)) (hkw : d.kw = []) (hlm : t.lm = [])
    (ev : ∀ ns : List Int, ns.length ≤ most → ∃ st, callI T F n i [.ref 0] (script ns) = .ok (.bl true) st)
    (w : World) (mg : Str → Option Value) (fa : Addr) (h : Heap) (Y : ∃ K : PySem.W.Frag, K.In h ∧ He.SaysX (faD t) (fnD t) (tsD t) [] (exB t) w h K) (G : h.Ns mainGlobals mg) (hmg : mg d.x = some (.ref fa)) :
    ∃ (K : PySem.W.Frag) (fd : FuncData) (sp : Sp), K.In h ∧ (∀ (s : Shared) (u : Value), BindsTo s fd ⟨[u], []⟩ [(x, u)]) ∧
      (∀ (H : Hp) (a : Addr) (ns : List Int), ns.length ≤ most → Only H → SqL K H a (ns.map V.int) → sp [.ref a] H (fun v _ => v = .bl true) fun _ _ _ => False) ∧
      ∀ base : Heap, K.In base → base.Ns mainGlobals mg → FnOk P w K mg base (CXa P) (n + 1) fa fd [x] sp := by
  letI : LL := lamL t h
  obtain ⟨K, X, c⟩ := Y
  have txA : ∀ L : LL, @TxOk L t K w mg := fun L => tx_ok hcb hcg (gt_nil hg0) hbd X G c
  have tx := txA (lamL t h)
  have hmem : d ∈ t.ds := List.mem_of_getElem? hi
  obtain ⟨fd0, kws, dvs, dus, FD, hm0, _, _, _, _⟩ := tx.fn i d hi
  have e := hmg.symm.trans (hm0 hat)
  have e : fa = adr t K d.at_ := by injection (Option.some.inj e)
  subst e
  have b := FunD.bindsA (ps := d.ps) FD ((hbd d hmem).plain hkw)
  refine ⟨K, fd0, spI (mdN (nmOf t K) T F (t.ex.map fun p => He.ga K p.1) n) P w K (callI T F n) i d.ps.length, X, fun s u => ?_, fun H a ns hl hO hS => ?_, fun base KB GB => ?_⟩
  · have := b s [u] (by rw [hps]; rfl)
    rw [hps] at this
    exact this
  · have hm' := c.more
    unfold exB at hm'
    have hm := (Bool.and_eq_true_iff.mp hm').1
    unfold exB0 at hm
    simp only [Bool.and_eq_true] at hm
    have hr := noInts_ok hm.1.1.1.1.1.1 hS
    obtain ⟨st, hev⟩ := ev ns hl
    refine ⟨by rw [hps]; rfl, [a], script ns, [.ref 0], script_rel rfl hr, .cons (.ref rfl) .nil, ?_⟩
    rw [hev]
    intro ρ' H' v _ _ r
    cases r
    rfl
  · have := ((fns_ok (P := P) (w := w) (base0 := base) (F := F) rfl (fun p hp => by rw [hlm] at hp; cases hp) txA hcb hcg hmm (fun base => xiF_of tx (gt_nil hg0).2 (xiT_nil hg0.2)) n (lamL t h) T base hlen hT hd hlm0 ⟨fun _ => rfl, rfl, rfl, hTo.2, fun z => absurd rfl z, fun _ => ⟨rfl, rfl⟩, fun _ _ e => e⟩).1 i d hi kws fd0 FD).1 hmk
    rw [← hps]
    exact ⟨this.len, fun A outer s H args us vs Q E hr he hb hv hs => codeAny_mono (this.run A outer s H args us vs Q E hr he hb hv hs) fun r s' hq => by
      cases r with
      | ok f => cases f <;> exact hq
      | error e => exact ⟨w, hq⟩⟩
section
variable [LL]
/-- the script, then tables -/
def scriptT (ns : List Int) : Nat → Store
  | 0 => script ns
  | k + 1 => (scriptT ns k).add (.tab k)
omit [LL] in
theorem scriptT_at (ns : List Int) : ∀ k, (scriptT ns k).sz = k + 1 ∧ (scriptT ns k).get 0 = some (.flst (ns.map .int)) ∧ ∀ i, i < k → (scriptT ns k).get (i + 1) = some (.tab i)
  | 0 => ⟨rfl, Store.get_add_self, fun i h => absurd h (Nat.not_lt_zero _)⟩
  | k + 1 => by
    obtain ⟨h1, h2, h3⟩ := scriptT_at ns k
    refine ⟨by show (scriptT ns k).sz + 1 = _; rw [h1], ?_, fun i hi => ?_⟩
    · show ((scriptT ns k).add _).get 0 = _
      rw [Store.get_add_lt (by omega)]; exact h2
    · show ((scriptT ns k).add _).get (i + 1) = _
      by_cases hk : i = k
      · subst hk
        rw [← h1]
        exact Store.get_add_self
      · rw [Store.get_add_lt (by omega)]; exact h3 i (by omega)
theorem scriptT_rel {nm : Nm} {H : Hp} {a : Addr} {ns : List Int} {ts : List Addr} (hct : LL.ct = none) (h : Rd H a (.lst (ns.map V.int))) (hnm : ∀ (i : Nat) (P : Addr), ts[i]? = some P → ∃ q, nm.tA[i]? = some (P, q)) (ht : ∀ P ∈ ts, H P = some (.tbl #[])) (nd : ts.Nodup) : SRel nm P w K (a :: ts) H (scriptT ns ts.length) := by
  obtain ⟨h1, h2, h3⟩ := scriptT_at ns ts.length
  refine ⟨List.nodup_cons.mpr ⟨fun z => ?_, nd⟩, by rw [h1]; rfl, fun n b hb => ?_, CtOk.none hct⟩
  · have := ht a z
    rcases h with h | ⟨o, h⟩ <;> (rw [h] at this; cases this)
  · cases n with
    | zero =>
      simp at hb
      subst hb
      exact ⟨_, h2, _, h, ints_reps ns, ns, rfl⟩
    | succ i =>
      have hb : ts[i]? = some b := hb
      obtain ⟨q, hq⟩ := hnm i b hb
      refine ⟨_, h3 i (List.getElem?_eq_some_iff.mp hb).1, q, #[], hq, ht b (List.mem_of_getElem? hb), True.intro, fun pos cv hc => ?_⟩
      have z : codeAmong pos [] = some cv := hc
      simp [codeAmong] at z
end
/-- the law's promise, with tables -/
theorem law_endTG {l : PySem.W.OpenLaw} {t : Tx} {T : Tbl} {F fuel n i most : Nat} {d : Df} {x : Str} (hcb : clB t = true) (hcg : clG t = true) (hmm : clM t = true) (hTo : T.inn = false ∧ T.γ = none) (hmk : mkOf t i = []) (hX : XiT t l.prog) (hlen : T.fns.length = nfs t) (hT : T.cls = clsOf t) (hd : ∀ i d, t.ds[i]? = some d → dfB t fuel T i d) (hlm0 : ∀ j L, (lamsT t)[j]? = some L → lmB t fuel T j L) (hbd : BindOk t) (hi : t.ds[i]? = some d) (hps : d.ps = [x]) (hat : d.at_ = (d.x, none)) (hkw : d.kw = [])
    (ev : ∀ ns : List Int, ns.length ≤ most → ∃ st, callI T F n i [.ref 0] (scriptT ns t.lm.length) = .ok (.bl true) st)
    (w : World) (mg : Str → Option Value) (fa : Addr) (h : Heap) (Y : ∃ K : PySem.W.Frag, K.In h ∧ He.SaysX (faD t) (fnD t) (tsD t) (t.lm.map (·.1)) (exB t) w h K ∧ GtOk t K) (G : h.Ns mainGlobals mg) (hmg : mg d.x = some (.ref fa)) :
    ∃ K : PySem.W.Frag, K.In h ∧ LamX.LawAtS l w K (CXa l.prog) (n + 1) most x mg fa h := by
  letI : LL := lamL t h
  obtain ⟨K, X, c, hgt⟩ := Y
  have txA : ∀ L : LL, @TxOk L t K w mg := fun L => tx_ok hcb hcg hgt hbd X G c
  have tx := txA (lamL t h)
  have hmem : d ∈ t.ds := List.mem_of_getElem? hi
  obtain ⟨fd0, kws, dvs, dus, FD, hm0, _, _, _, _⟩ := tx.fn i d hi
  have e := hmg.symm.trans (hm0 hat)
  have e : fa = adr t K d.at_ := by injection (Option.some.inj e)
  subst e
  have b := FunD.bindsA (ps := d.ps) FD ((hbd d hmem).plain hkw)
  have hm' := c.more
  unfold exB at hm'
  have hm := (Bool.and_eq_true_iff.mp hm').1
  unfold exB0 at hm
  simp only [Bool.and_eq_true] at hm
  have hnd : (t.lm.map fun p => (He.cT K p.1).2).Nodup := of_decide_eq_true hm.2.2
  have mem : ∀ p ∈ (t.lm.map fun p => He.cT K p.1), ∃ q ∈ t.lm.map (·.1), p = He.cT K q := fun p hp => by
    obtain ⟨q, hq, rfl⟩ := List.mem_map.mp hp
    exact ⟨q.1, List.mem_map.mpr ⟨q, hq, rfl⟩, rfl⟩
  refine ⟨K, X, fd0, t.lm.map fun p => He.cT K p.1, spI (mdN (nmOf t K) T F (t.ex.map fun p => He.ga K p.1) n) l.prog w K (callI T F n) i d.ps.length, fun p hp => ?_, fun p hp => ?_, fun p hp => ?_, fun s u => ?_, fun H a ns hl hbits hH hS => ?_, fun base KB GB TB => ?_⟩
  · obtain ⟨q, hq, rfl⟩ := mem p hp
    exact c.empty q hq
  · obtain ⟨q, hq, rfl⟩ := mem p hp
    exact c.out q hq
  · obtain ⟨q, hq, rfl⟩ := mem p hp
    exact PySem.W.codeHd_of_K X (c.hd q hq)
  · have := b s [u] (by rw [hps]; rfl)
    rw [hps] at this
    exact this
  · have hr := noInts_ok hm.1.1.1.1.1.1 hS
    obtain ⟨st, hev⟩ := ev ns hl
    have S : SRel (nmOf t K) l.prog w K (a :: t.lm.map fun p => (He.cT K p.1).2) H (scriptT ns (t.lm.map fun p => (He.cT K p.1).2).length) := by
      refine scriptT_rel rfl hr (fun i P hP => ?_) (fun P hP => ?_) hnd
      · rw [List.getElem?_map] at hP
        obtain ⟨p, hp, rfl⟩ := Option.map_eq_some_iff.mp hP
        refine ⟨p.2 ++ ".<locals>." ++ "<lambda>", ?_⟩
        show (t.lm.map _)[i]? = _
        rw [List.getElem?_map, hp]; rfl
      · obtain ⟨p, hp, rfl⟩ := List.mem_map.mp hP
        exact hH (He.cT K p.1) (List.mem_map.mpr ⟨p, hp, rfl⟩)
    rw [List.length_map] at S
    refine ⟨by rw [hps]; rfl, _, _, [.ref 0], S, .cons (.ref rfl) .nil, ?_⟩
    rw [hev]
    intro ρ' H' v _ _ r
    cases r
    rfl
  · have := ((fns_ok (P := l.prog) (w := w) (base0 := base) (F := F) rfl (fun p hp => TB _ (List.mem_map.mpr ⟨p, hp, rfl⟩)) txA hcb hcg hmm (fun base => xiF_of tx hgt.2 hX) n (lamL t h) T base hlen hT hd hlm0 ⟨fun _ => rfl, rfl, rfl, hTo.2, fun z => absurd rfl z, fun _ => ⟨rfl, rfl⟩, fun _ _ e => e⟩).1 i d hi kws fd0 FD).1 hmk
    rw [← hps]
    exact ⟨this.len, fun A outer s H args us vs Q E hr he hb hv hs => codeAny_mono (this.run A outer s H args us vs Q E hr he hb hv hs) fun r s' hq => by
      cases r with
      | ok f => cases f <;> exact hq
      | error e => exact ⟨w, hq⟩⟩
theorem law_endT {l : PySem.W.OpenLaw} {t : Tx} {T : Tbl} {F fuel n i most : Nat} {d : Df} {x : Str} (hcb : clB t = true) (hcg : clG t = true) (hmm : clM t = true) (hTo : T.inn = false ∧ T.γ = none) (hmk : mkOf t i = []) (hg0 : t.gt = [] ∧ t.xi = []) (hlen : T.fns.length = nfs t) (hT : T.cls = clsOf t) (hd : ∀ i d, t.ds[i]? = some d → dfB t fuel T i d) (hlm0 : ∀ j L, (lamsT t)[j]? = some L → lmB t fuel T j L) (hbd : BindOk t) (hi : t.ds[i]? = some d) (hps : d.ps = [x]) (hat : d.at_ = (d.x, none)) (hkw : d.kw = [])
    (ev : ∀ ns : List Int, ns.length ≤ most → ∃ st, callI T F n i [.ref 0] (scriptT ns t.lm.length) = .ok (.bl true) st)
    (w : World) (mg : Str → Option Value) (fa : Addr) (h : Heap) (Y : ∃ K : PySem.W.Frag, K.In h ∧ He.SaysX (faD t) (fnD t) (tsD t) (t.lm.map (·.1)) (exB t) w h K) (G : h.Ns mainGlobals mg) (hmg : mg d.x = some (.ref fa)) :
    ∃ K : PySem.W.Frag, K.In h ∧ LamX.LawAtS l w K (CXa l.prog) (n + 1) most x mg fa h := by
  obtain ⟨K, X, c⟩ := Y
  exact law_endTG hcb hcg hmm hTo hmk (xiT_nil hg0.2) hlen hT hd hlm0 hbd hi hps hat hkw ev w mg fa h ⟨K, X, c, gt_nil hg0⟩ G hmg
/-- all lambdas' checks at once -/
def lmChk (t : Tx) (fuel : Nat) (L : LamT) : List Str × Bool × Option Ex := match parsOf L.ps with
  | some xs => (xs, lmSc L xs, (comp fuel false (ccL t L xs) L.body).map (lmE L))
  | none => ([], false, none)
theorem hlm_of {t : Tx} {fuel : Nat} {T : Tbl} {R : List (List Str × Ex)} (h : (lamsT t).map (lmChk t fuel) = R.map fun p => (p.1, true, some p.2)) (hf : T.fns.drop t.ds.length = R.map fun p => ⟨p.1.length, p.1.length, .cons (.ret p.2) .nil⟩) : ∀ j L, (lamsT t)[j]? = some L → lmB t fuel T j L := fun j L hL => by
  have h1 : ((lamsT t).map (lmChk t fuel))[j]? = some (lmChk t fuel L) := by rw [List.getElem?_map, hL]; rfl
  rw [h, List.getElem?_map] at h1
  obtain ⟨p, hp, e⟩ := Option.map_eq_some_iff.mp h1
  have h2 : (T.fns.drop t.ds.length)[j]? = some ⟨p.1.length, p.1.length, .cons (.ret p.2) .nil⟩ := by rw [hf, List.getElem?_map, hp]; rfl
  rw [List.getElem?_drop] at h2
  unfold lmChk at e
  split at e
  · rename_i xs hxs
    have e1 : p.1 = xs := congrArg Prod.fst e
    have e2 : true = lmSc L xs := congrArg (fun z => z.2.1) e
    have e3 : some p.2 = (comp fuel false (ccL t L xs) L.body).map (lmE L) := congrArg (fun z => z.2.2) e
    obtain ⟨x, hx, ex⟩ := Option.map_eq_some_iff.mp e3.symm
    rw [e1, ← ex] at h2
    exact ⟨xs, x, e2.symm, h2, hx⟩
  · have e2 : true = false := congrArg (fun z => z.2.1) e
    cases e2
theorem hlm_nil {t : Tx} {fuel : Nat} {T : Tbl} (h : t.lf = []) : ∀ j L, (lamsT t)[j]? = some L → lmB t fuel T j L := fun j L z => by
  unfold lamsT at z
  rw [h] at z
  simp at z
theorem cx_no (P : Program) : ∀ (H : Hp) (s : Shared) (e : Value) (s' : Shared), CXa P [] H s (fun _ _ _ => False) e s' → False := fun H s e s' h => by
  obtain ⟨_, _, _, _, _, _, _, _, _, _, _, _, _, z⟩ := h
  exact z
end
end VI
/-! VKc: laws that only ask which part the script chooses: with tables behind the script, and parts whose names are captured. -/
namespace VI
def absI (z : Int) : Int := if z < 0 then -z else z
/-- int(sum([abs(one) for one in script[:9]])) -/
def partE (j : Nat) (N : Int) : Ex := .blt .int (.cons false (.blt .sum (.cons false (.lc [j] (.nm j) .val (.cons false (.sl (.v 0) false (.c (.non)) true (.c (.int N))) .nil) (.c (.bl true)) (.blt .abs (.cons false (.v j) .nil))) .nil)) .nil)
def lcF (j : Nat) (T : Tbl) (F : Nat) (call : Caller) (env : Env) (d : D) (acc : List D) (s : Store) : R (List D) := match setTg (.nm j) d (wipeE env [j]) with
  | some e => (evE T F call (.c (.bl true)) e s).bind fun x s => (boolOf x s).bind fun b s =>
      if b then (evE T F call (.blt .abs (.cons false (.v j) .nil)) e s).bind fun y s => if acc.length < line then .ok (acc ++ [y]) s else .stuck else .ok acc s
  | none => .stuck
theorem lcF_int (j : Nat) (T : Tbl) (F : Nat) (call : Caller) (env : Env) (hj : j < env.length) (z : Int) (acc : List D) (s : Store) (h : acc.length < line) :
    lcF j T F call env (.int z) acc s = .ok (acc ++ [.int (absI z)]) s := by
  have e : ((env.set j none).set j (some (D.int z)))[j]? = some (some (.int z)) := by rw [List.getElem?_set_self (by simpa using hj)]
  simp only [lcF, setTg, wipeE, evE, evX, R.bind, boolOf, if_true, bltV, absV, e, h, Bool.false_eq_true, if_false]
  rfl
theorem walk_abs (j : Nat) (T : Tbl) (F : Nat) (call : Caller) (env : Env) (hj : j < env.length) (m : Nat) (ys : List Int) (s : Store) (hs : s.get m = some (.lst (ys.map .int))) (hl : ys.length ≤ 1000) :
    ∀ (n i : Nat) (acc : List D), acc.length = i → i ≤ ys.length → ys.length - i < n → walk .val [.ref m] (lcF j T F call env) n i acc s = .ok (acc ++ (ys.drop i).map fun z => .int (absI z)) s := by
  intro n
  induction n with
  | zero => intro i acc _ _ h; omega
  | succ n ih =>
    intro i acc ha hi hn
    unfold walk
    have e : itAt .val [.ref m] i s = nth (ys.map D.int) i id := by
      show itVal (.ref m) i s = _
      unfold itVal
      simp only [hs]
    rw [e]
    unfold nth
    rw [List.getElem?_map]
    by_cases hlt : i < ys.length
    · rw [List.getElem?_eq_getElem hlt]
      show (lcF j T F call env (.int ys[i]) acc s).bind _ = _
      rw [lcF_int j T F call env hj ys[i] acc s (by unfold line; omega)]
      show walk .val [.ref m] (lcF j T F call env) n (i + 1) (acc ++ [.int (absI ys[i])]) s = _
      rw [ih (i + 1) _ (by simp [ha]) (by omega) (by omega)]
      rw [List.append_assoc, List.drop_eq_getElem_cons hlt]
      rfl
    · have : i = ys.length := by omega
      subst this
      rw [List.getElem?_eq_none (Nat.le_refl _)]
      simp
theorem cut_map (ns : List Int) (N : Int) : cut (ns.map D.int) none (some N) = (cut ns none (some N)).map D.int := by
  unfold cut
  simp [List.map_take, List.length_map]
theorem part_okG (j : Nat) (T : Tbl) (F : Nat) (call : Caller) (N : Int) (r : Env) (hj : j < r.length + 1) (ns : List Int) (hn : ns.length ≤ 63) (hF : 100 ≤ F) (s0 : Store) (h0 : s0.get 0 = some (.flst (ns.map .int))) :
    ∃ (z : Int) (ys zs : List Int), evE T F call (partE j N) (some (.ref 0) :: r) s0 = .ok (.int z) ((s0.add (.lst (ys.map .int))).add (.lst (zs.map .int))) := by
  let ys := cut ns none (some N)
  have hys : ys.length ≤ 63 := by
    show (cut ns none (some N)).length ≤ 63
    unfold cut
    simp only [List.length_take, List.length_drop]
    omega
  let s1 := s0.add (.lst (ys.map .int))
  have h1 : s1.get s0.sz = some (.lst (ys.map .int)) := Store.get_add_self (s := s0)
  have hw := walk_abs j T F call (some (.ref 0) :: r) (by simpa using hj) s0.sz ys s1 h1 (by omega) F 0 [] rfl (by omega) (by omega)
  let s2 := s1.add (.lst (ys.map fun z => .int (absI z)))
  have h2 : s2.get (s0.sz + 1) = some (.lst (ys.map fun z => .int (absI z))) := Store.get_add_self (s := s1)
  have e1 : evE T F call (.sl (.v 0) false (.c (.non)) true (.c (.int N))) (some (.ref 0) :: r) s0 = .ok (.ref s0.sz) s1 := by
    simp only [evE, R.bind, List.getElem?_cons_zero, Bool.false_eq_true, if_false, if_true, partV]
    unfold slV lists?
    simp only [h0]
    rw [cut_map]
  have e2 : evE T F call (.lc [j] (.nm j) .val (.cons false (.sl (.v 0) false (.c (.non)) true (.c (.int N))) .nil) (.c (.bl true)) (.blt .abs (.cons false (.v j) .nil))) (some (.ref 0) :: r) s0 = .ok (.ref (s0.sz + 1)) s2 := by
    rw [evE]
    have ex : evX T F call (.cons false (.sl (.v 0) false (.c (.non)) true (.c (.int N))) .nil) (some (.ref 0) :: r) s0 = .ok [.ref s0.sz] s1 := by
      rw [evX, e1]; simp only [R.bind, evX, Bool.false_eq_true, if_false]
    rw [ex]
    have hlk : lockOf .val [.ref s0.sz] s1 = none := by unfold lockOf; simp only [h1]
    have hsn : snap .val [.ref s0.sz] s1 = (.val, [.ref s0.sz]) := by unfold snap; simp only [h1]
    show R.unl (lockOf .val [.ref s0.sz] s1) ((walk (snap .val [.ref s0.sz] s1).1 (snap .val [.ref s0.sz] s1).2 (lcF j T F call (some (.ref 0) :: r)) F 0 [] (lock (lockOf .val [.ref s0.sz] s1) s1)).noexc.bind fun acc s => R.ok (D.ref s.sz) (s.add (Ob.lst acc))) = _
    rw [hlk, hsn]
    show R.unl none ((walk .val [.ref s0.sz] (lcF j T F call (some (.ref 0) :: r)) F 0 [] s1).noexc.bind fun acc s => R.ok (D.ref s.sz) (s.add (Ob.lst acc))) = _
    rw [hw]
    rfl
  have hsum : ∀ xs : List Int, allOpt intOf (xs.map fun z => D.int (absI z)) = some (xs.map absI) := by
    intro xs
    induction xs with
    | nil => rfl
    | cons x xs ih => simp only [List.map_cons, allOpt, ih, intOf]
  have e3 : evE T F call (partE j N) (some (.ref 0) :: r) s0 = .ok (.int (ys.map absI).sum) s2 := by
    unfold partE
    rw [evE, evX, evE, evX, e2]
    simp only [R.bind, evX, Bool.false_eq_true, if_false, bltV, sumV, lists?, h2, hsum, Option.map_some, ofOpt, intV]
  refine ⟨(ys.map absI).sum, ys, ys.map absI, e3.trans ?_⟩
  simp only [List.map_map]
  rfl
theorem eqS_int (s : Store) (i j : Int) : eqS s (.int i) (.int j) = some (i == j) := by
  unfold eqS
  simp only [dat, Pd.eqv]
theorem eqV_int (s : Store) (i j : Int) : eqV s (.int i) (.int j) = some (i == j) := eqV_old (eqS_int s i j)
/-- what stands at the beginning, where the answer is True -/
def heads (n : Nat) (r : R D) : Option (List (Option Ob)) := match r with
  | .ok (.bl true) s => if n ≤ s.sz then some ((List.range n).map s.get) else none
  | _ => none
theorem leave_ok {n : Nat} {r : R D} {L : List (Option Ob)} (h : heads n r = some L) (hc : ∀ o, some o ∈ L → cleanO n o = true) : ∃ st, leave n r = .ok (.bl true) st := by
  unfold heads at h
  split at h
  · rename_i s
    split at h
    · rename_i hn
      cases h
      refine ⟨s.cut n, ?_⟩
      have h1 : cleanS n s = true := by
        unfold cleanS
        rw [List.all_eq_true]
        intro i hi
        cases hg : s.get i with
        | none => rfl
        | some o => exact hc o (List.mem_map.mpr ⟨i, hi, hg⟩)
      unfold leave
      simp only [cleanD, h1, hn, decide_true, Bool.and_self, if_true]
    · cases h
  · cases h
theorem clean_ints' (n : Nat) : ∀ ns : List Int, cleanDs n (ns.map .int) = true
  | [] => rfl
  | i :: r => by simpa [cleanDs, cleanD] using clean_ints' n r
/-- a call of a part whose names are captured -/
theorem callM_ok {T : Tbl} {F n x : Nat} {e : Ex} {w : D} {env : Env} {s : Store} (hi : T.inn = false) (he : evE T F (callI T F (n + 1)) e env s = .ok w s) (h : ∃ st, leave s.sz (callI ⟨T.fns, T.cls, true, none⟩ F n x [w] s) = .ok (.bl true) st) :
    ∃ st, evE T F (callI T F (n + 1)) (.callM x (.cons false e .nil)) env s = .ok (.bl true) st := by
  obtain ⟨st, h⟩ := h
  refine ⟨st, ?_⟩
  rw [evE, evX, he]
  simp only [R.bind, evX, Bool.false_eq_true, if_false, hi]
  rw [callI_twice]
  exact h
/-- a law of three parts whose names are captured -/
theorem law_three {T : Tbl} {F n i x0 x1 x2 : Nat} {N : Int} {a b : D} {k : Nat} (hT : T.fns[i]? = some ⟨1, 4, .cons (.par [1, 2] (.cons false (.tup (.cons false (.c a) (.cons false (.c b) .nil))) (.cons false (.bin .mod (partE 3 N) (.c (.int 3))) .nil)))
      (.cons (.ite (.cmp .eq (.v 2) (.c (.int 0))) (.cons (.ret (.callM x0 (.cons false (.v 1) .nil))) .nil) .nil) (.cons (.ret (.ite (.cmp .eq (.v 2) (.c (.int 1))) (.callM x1 (.cons false (.v 1) .nil)) (.callM x2 (.cons false (.v 1) .nil)))) .nil))⟩) (hi : T.inn = false) (hF : 100 ≤ F)
    (hp : ∀ x, x = x0 ∨ x = x1 ∨ x = x2 → ∀ (ns ys zs : List Int), ∃ st, leave (k + 3) (callI ⟨T.fns, T.cls, true, none⟩ F n x [.tup [a, b]] (((scriptT ns k).add (.lst (ys.map .int))).add (.lst (zs.map .int)))) = .ok (.bl true) st)
    (ns : List Int) (hn : ns.length ≤ 63) : ∃ st, callI T F (n + 2) i [.ref 0] (scriptT ns k) = .ok (.bl true) st := by
  obtain ⟨hsz, h0, _⟩ := scriptT_at ns k
  obtain ⟨z, ys, zs, e⟩ := part_okG 3 T F (callI T F (n + 1)) N [none, none, none] (by decide) ns hn hF (scriptT ns k) h0
  obtain ⟨s2, hs2⟩ : ∃ s2, s2 = ((scriptT ns k).add (.lst (ys.map .int))).add (.lst (zs.map .int)) := ⟨_, rfl⟩
  have hsz2 : s2.sz = k + 3 := by rw [hs2]; show (scriptT ns k).sz + 1 + 1 = _; rw [hsz]
  rw [← hs2] at e
  have e1 : evE T F (callI T F (n + 1)) (.bin .mod (partE 3 N) (.c (.int 3))) [some (.ref 0), none, none, none] (scriptT ns k) = .ok (.int (z % 3)) s2 := by
    rw [evE, e]
    simp only [R.bind, evE, binV]
    rfl
  have e2 : evX T F (callI T F (n + 1)) (.cons false (.tup (.cons false (.c a) (.cons false (.c b) .nil))) (.cons false (.bin .mod (partE 3 N) (.c (.int 3))) .nil)) [some (.ref 0), none, none, none] (scriptT ns k) = .ok [.tup [a, b], .int (z % 3)] s2 := by
    have q : evE T F (callI T F (n + 1)) (.tup (.cons false (.c a) (.cons false (.c b) .nil))) [some (.ref 0), none, none, none] (scriptT ns k) = .ok (.tup [a, b]) (scriptT ns k) := by
      simp only [evE, evX, R.bind, Bool.false_eq_true, if_false]
      rfl
    rw [evX, q]
    simp only [R.bind, Bool.false_eq_true, if_false]
    rw [evX, e1]
    simp only [R.bind, Bool.false_eq_true, if_false, evX]
  have q : ∀ v : Int, evE T F (callI T F (n + 1)) (.cmp .eq (.v 2) (.c (.int v))) [some (.ref 0), some (.tup [a, b]), some (.int (z % 3)), none] s2 = .ok (.bl (z % 3 == v)) s2 := by
    intro v
    simp only [evE, List.getElem?_cons_succ, List.getElem?_cons_zero, R.bind, cmpC, clsAt, cmpV, eqV_int, Option.map_some, ofOpt]
  have hM : ∀ x, x = x0 ∨ x = x1 ∨ x = x2 → ∃ st, evE T F (callI T F (n + 1)) (.callM x (.cons false (.v 1) .nil)) [some (.ref 0), some (.tup [a, b]), some (.int (z % 3)), none] s2 = .ok (.bl true) st := fun x hx => by
    refine callM_ok (w := .tup [a, b]) hi (by simp only [evE, List.getElem?_cons_succ, List.getElem?_cons_zero]) ?_
    rw [hsz2, hs2]
    exact hp x hx ns ys zs
  obtain ⟨s0, g0⟩ := hM x0 (.inl rfl)
  obtain ⟨s1, g1⟩ := hM x1 (.inr (.inl rfl))
  obtain ⟨s3, g3⟩ := hM x2 (.inr (.inr rfl))
  rw [callI, hT]
  show ∃ st, (exSs T F (callI T F (n + 1)) (.cons (.par [1, 2] _) _) [some (.ref 0), none, none, none] (scriptT ns k)).bind _ = _
  rw [exSs, exS, e2]
  simp only [R.bind, List.length_cons, List.length_nil, if_true, setAll, List.set_cons_succ, List.set_cons_zero]
  rw [exSs, exS, q 0]
  cases hk0 : z % 3 == 0 with
  | true => refine ⟨s0, ?_⟩; simp only [R.bind, boolOf, if_true, exSs, exS, g0]
  | false =>
    simp only [R.bind, boolOf, Bool.false_eq_true, if_false, exSs]
    rw [exS, evE, q 1]
    cases hk1 : z % 3 == 1 with
    | true => refine ⟨s1, ?_⟩; simp only [R.bind, boolOf, if_true, exSs, exS, g1]
    | false => refine ⟨s3, ?_⟩; simp only [R.bind, boolOf, Bool.false_eq_true, if_false, exSs, exS, g3]
end VI
namespace Lk07
open VI
def b_is_number : Ss := (.cons (.ret (.and (.blt (.isi [.int]) (.cons false (.v 0) .nil)) (.and (.not (.blt (.isi [.bool]) (.cons false (.v 0) .nil))) (.chain .le .le (.v 1) (.v 0) (.v 2))))) .nil)
def b_check_text : Ss := (.cons (.ite (.or (.not (.blt (.isi [.str]) (.cons false (.v 0) .nil))) (.not (.blt .all (.cons false (.lc [1] (.nm 1) .val (.cons false (.blt .list (.cons false (.v 0) .nil)) .nil) (.c (.bl true)) (.cmp .inn (.v 1) (.c (.str [97, 110, 114])))) .nil)))) (.cons (.rse 1) .nil) .nil) .nil)
def b_check_kind : Ss := (.cons (.ite (.or (.not (.blt (.isi [.str]) (.cons false (.v 0) .nil))) (.cmp .notin (.v 0) (.c (.tup [.str [97, 110, 121], .str [98, 97, 114, 101], .str [108, 111, 110, 101], .str [112, 97, 105, 114, 101, 100]])))) (.cons (.rse 2) .nil) .nil) .nil)
def b_can_come : Ss := (.cons (.ite (.cmp .eq (.v 0) (.c (.str [112, 97, 105, 114, 101, 100]))) (.cons (.ret (.cmp .eq (.cmp .eq (.v 2) (.c (.str [110]))) (.v 1))) .nil) .nil) (.cons (.ret (.cmp .notin (.v 2) (.wget [(.str [97, 110, 121], .str []), (.str [98, 97, 114, 101], .str [114]), (.str [108, 111, 110, 101], .str [110]), (.str [112, 97, 105, 114, 101, 100], .str [])] (.v 0)))) .nil))
def b_is_open_behind : Ss := (.cons (.ret (.and (.cmp .eq (.v 0) (.c (.str [112, 97, 105, 114, 101, 100]))) (.cmp .eq (.v 1) (.c (.str [114]))))) .nil)
def b_goes_on : Ss := (.cons (.for (.nm 3) .val (.cons false (.v 2) .nil) (.cons (.ite (.not (.call 3 (.cons false (.v 0) (.cons false (.v 1) (.cons false (.v 3) .nil))))) (.cons (.ret (.c (.non))) .nil) .nil) (.cons (.asg (.nm 1) (.call 4 (.cons false (.v 0) (.cons false (.v 3) .nil)))) .nil))) (.cons (.ret (.v 1)) .nil))
def b_is_kind_of : Ss := (.cons (.ret (.cmp .is (.call 5 (.cons false (.v 1) (.cons false (.c (.bl false)) (.cons false (.v 0) .nil)))) (.c (.bl false)))) .nil)
def b_is_of : Ss := (.cons (.ex (.call 1 (.cons false (.v 0) .nil))) (.cons (.ex (.call 2 (.cons false (.v 1) .nil))) (.cons (.ret (.call 6 (.cons false (.v 0) (.cons false (.v 1) .nil)))) .nil)))
def b_check_way : Ss := (.cons (.ite (.or (.not (.blt (.isi [.tuple]) (.cons false (.v 0) .nil))) (.cmp .gt (.blt .len (.cons false (.v 0) .nil)) (.c (.int 6)))) (.cons (.rse 3) .nil) .nil) (.cons (.ite (.not (.blt .all (.cons false (.lc [1] (.nm 1) .val (.cons false (.v 0) .nil) (.c (.bl true)) (.and (.blt (.isi [.str]) (.cons false (.v 1) .nil)) (.cmp .inn (.v 1) (.c (.tup [.str [97, 108, 108], .str [98, 111, 116, 104], .str [99, 97, 114, 101], .str [108, 111, 110, 101], .str [108, 111, 110, 101, 115], .str [112, 97, 105, 114, 115]]))))) .nil))) (.cons (.rse 3) .nil) .nil) .nil))
def b_start_of : Ss := (.cons (.ret (.bin .mul (.tup (.cons false (.c (.bl false)) .nil)) (.blt .len (.cons false (.v 0) .nil)))) .nil)
def b_left : Ss := (.cons (.ret (.ite (.cmp .eq (.v 0) (.c (.str [112, 97, 105, 114, 115]))) (.c (.str [114])) (.c (.str [110])))) .nil)
def b_sign_by : Ss := (.cons (.ite (.cmp .eq (.v 0) (.c (.str [97, 108, 108]))) (.cons (.ret (.tup (.cons false (.c (.bl false)) (.cons false (.ite (.cmp .eq (.v 2) (.c (.str [110]))) (.c (.str [114, 110])) (.v 2)) .nil)))) .nil) .nil) (.cons (.ite (.cmp .eq (.v 0) (.c (.str [108, 111, 110, 101]))) (.cons (.ret (.tup (.cons false (.c (.bl false)) (.cons false (.ite (.cmp .eq (.v 2) (.c (.str [110]))) (.c (.str [114])) (.v 2)) .nil)))) .nil) .nil) (.cons (.ite (.cmp .eq (.v 0) (.c (.str [99, 97, 114, 101]))) (.cons (.ret (.tup (.cons false (.cmp .eq (.v 2) (.c (.str [114]))) (.cons false (.ite (.and (.cmp .eq (.v 2) (.c (.str [110]))) (.not (.v 1))) (.c (.str [114, 110])) (.v 2)) .nil)))) .nil) .nil) (.cons (.ite (.cmp .eq (.v 2) (.c (.str [114]))) (.cons (.ret (.tup (.cons false (.c (.bl true)) (.cons false (.ite (.v 1) (.call 10 (.cons false (.v 0) .nil)) (.c (.str []))) .nil)))) .nil) .nil) (.cons (.ite (.not (.v 1)) (.cons (.ret (.tup (.cons false (.c (.bl false)) (.cons false (.v 2) .nil)))) .nil) .nil) (.cons (.ite (.cmp .eq (.v 2) (.c (.str [97]))) (.cons (.ret (.tup (.cons false (.c (.bl false)) (.cons false (.bin .add (.call 10 (.cons false (.v 0) .nil)) (.c (.str [97]))) .nil)))) .nil) .nil) (.cons (.ret (.tup (.cons false (.c (.bl false)) (.cons false (.ite (.cmp .eq (.v 0) (.c (.str [108, 111, 110, 101, 115]))) (.c (.str [114, 110])) (.c (.str [110]))) .nil)))) .nil)))))))
def b_text_by : Ss := (.cons (.asg (.nm 3) (.c (.str []))) (.cons (.for (.nm 4) .val (.cons false (.v 2) .nil) (.cons (.asg (.tp (.cons (.nm 1) (.cons (.nm 5) .nil))) (.call 11 (.cons false (.v 0) (.cons false (.v 1) (.cons false (.v 4) .nil))))) (.cons (.asg (.nm 3) (.bin .add (.v 3) (.v 5))) .nil))) (.cons (.ret (.tup (.cons false (.v 1) (.cons false (.v 3) .nil)))) .nil)))
def b_read_by : Ss := (.cons (.asg (.nm 3) (.lst .nil)) (.cons (.for (.tp [4, 5]) .zip (.cons false (.v 0) (.cons false (.v 1) .nil)) (.cons (.asg (.tp (.cons (.nm 5) (.cons (.nm 2) .nil))) (.call 12 (.cons false (.v 4) (.cons false (.v 5) (.cons false (.v 2) .nil))))) (.cons (.ex (.bm .append (.v 3) (.cons false (.v 5) .nil))) .nil))) (.cons (.ret (.tup (.cons false (.blt .tuple (.cons false (.v 3) .nil)) (.cons false (.v 2) .nil)))) .nil)))
def b_ended : Ss := (.cons (.asg (.nm 2) (.c (.str []))) (.cons (.for (.tp [3, 4]) .zip (.cons false (.v 0) (.cons false (.v 1) .nil)) (.cons (.asg (.tp (.cons (.nm 4) (.cons (.nm 2) .nil))) (.call 12 (.cons false (.v 3) (.cons false (.v 4) (.cons false (.v 2) .nil))))) (.cons (.ite (.and (.v 4) (.cmp .inn (.v 3) (.c (.tup [.str [98, 111, 116, 104], .str [108, 111, 110, 101, 115], .str [112, 97, 105, 114, 115]])))) (.cons (.asg (.nm 2) (.bin .add (.v 2) (.call 10 (.cons false (.v 3) .nil)))) .nil) .nil) .nil))) (.cons (.ret (.v 2)) .nil)))
def b_made : Ss := (.cons (.asg (.tp (.cons (.nm 2) (.cons (.nm 3) .nil))) (.call 13 (.cons false (.v 0) (.cons false (.call 9 (.cons false (.v 0) .nil)) (.cons false (.v 1) .nil))))) (.cons (.ret (.bin .add (.v 3) (.call 14 (.cons false (.v 0) (.cons false (.v 2) .nil))))) .nil))
def b_check_standing : Ss := (.cons (.ex (.call 8 (.cons false (.v 0) .nil))) (.cons (.ite (.or (.not (.blt (.isi [.tuple]) (.cons false (.v 1) .nil))) (.cmp .ne (.blt .len (.cons false (.v 1) .nil)) (.blt .len (.cons false (.v 0) .nil)))) (.cons (.rse 4) .nil) .nil) (.cons (.for (.tp [2, 3]) .zip (.cons false (.v 0) (.cons false (.v 1) .nil)) (.cons (.ite (.or (.not (.blt (.isi [.bool]) (.cons false (.v 3) .nil))) (.and (.v 3) (.cmp .notin (.v 2) (.c (.tup [.str [98, 111, 116, 104], .str [99, 97, 114, 101], .str [108, 111, 110, 101, 115], .str [112, 97, 105, 114, 115]]))))) (.cons (.rse 4) .nil) .nil) .nil)) .nil)))
def b_turned : Ss := (.cons (.ex (.call 8 (.cons false (.v 0) .nil))) (.cons (.ex (.call 1 (.cons false (.v 1) .nil))) (.cons (.ret (.call 15 (.cons false (.v 0) (.cons false (.v 1) .nil)))) .nil)))
def b_first_standing : Ss := (.cons (.ex (.call 8 (.cons false (.v 0) .nil))) (.cons (.ret (.call 9 (.cons false (.v 0) .nil))) .nil))
def b_read : Ss := (.cons (.ex (.call 16 (.cons false (.v 0) (.cons false (.v 1) .nil)))) (.cons (.ite (.or (.not (.blt (.isi [.str]) (.cons false (.v 2) .nil))) (.or (.cmp .ne (.blt .len (.cons false (.v 2) .nil)) (.c (.int 1))) (.cmp .notin (.v 2) (.c (.str [97, 110, 114]))))) (.cons (.rse 5) .nil) .nil) (.cons (.ret (.call 13 (.cons false (.v 0) (.cons false (.v 1) (.cons false (.v 2) .nil))))) .nil)))
def b_at_end : Ss := (.cons (.ex (.call 16 (.cons false (.v 0) (.cons false (.v 1) .nil)))) (.cons (.ret (.call 14 (.cons false (.v 0) (.cons false (.v 1) .nil)))) .nil))
def b_all_standings : Ss := (.cons (.ex (.call 8 (.cons false (.v 0) .nil))) (.cons (.par [1, 2] (.cons false (.dct (.cons false (.call 9 (.cons false (.v 0) .nil)) (.cons false (.c (.bl true)) .nil))) (.cons false (.lst (.cons false (.call 9 (.cons false (.v 0) .nil)) .nil)) .nil))) (.cons (.whl (.cmp .ne (.v 2) (.lst .nil)) (.cons (.asg (.nm 3) (.bm .pop (.v 2) (.cons false (.c (.int 0)) .nil))) (.cons (.for (.nm 4) .val (.cons false (.blt .list (.cons false (.c (.str [97, 110, 114])) .nil)) .nil) (.cons (.asg (.nm 5) (.sub (.call 13 (.cons false (.v 0) (.cons false (.v 3) (.cons false (.v 4) .nil)))) (.c (.int 0)))) (.cons (.ite (.cmp .notin (.v 5) (.v 1)) (.cons (.asg (.sub (.v 1) (.v 5)) (.c (.bl true))) (.cons (.ex (.bm .append (.v 2) (.cons false (.v 5) .nil))) .nil)) .nil) .nil))) .nil))) (.cons (.ret (.blt .list (.cons false (.v 1) .nil))) .nil))))
def b_without_common : Ss := (.cons (.asg (.nm 2) (.c (.int 0))) (.cons (.whl (.and (.cmp .lt (.v 2) (.blt .min (.cons false (.blt .len (.cons false (.v 0) .nil)) (.cons false (.blt .len (.cons false (.v 1) .nil)) .nil)))) (.cmp .eq (.sub (.v 0) (.v 2)) (.sub (.v 1) (.v 2)))) (.cons (.aug 2 (.c (.int 1))) .nil)) (.cons (.ret (.tup (.cons false (.sl (.v 0) true (.v 2) false (.c (.non))) (.cons false (.sl (.v 1) true (.v 2) false (.c (.non))) .nil)))) .nil)))
def b_start_row : Ss := (.cons (.ret (.tup (.cons false (.call 9 (.cons false (.v 0) .nil)) (.cons false (.call 9 (.cons false (.v 1) .nil)) (.cons false (.c (.bl false)) (.cons false (.c (.str [])) (.cons false (.c (.str [])) .nil))))))) .nil)
def b_row_behind : Ss := (.cons (.asg (.tp (.cons (.nm 5) (.cons (.nm 6) .nil))) (.call 13 (.cons false (.v 0) (.cons false (.sub (.v 3) (.c (.int 0))) (.cons false (.v 4) .nil))))) (.cons (.asg (.tp (.cons (.nm 7) (.cons (.nm 8) .nil))) (.call 13 (.cons false (.v 1) (.cons false (.sub (.v 3) (.c (.int 1))) (.cons false (.v 4) .nil))))) (.cons (.asg (.tp (.cons (.nm 6) (.cons (.nm 8) .nil))) (.call 22 (.cons false (.bin .add (.sub (.v 3) (.c (.int 3))) (.v 6)) (.cons false (.bin .add (.sub (.v 3) (.c (.int 4))) (.v 8)) .nil)))) (.cons (.ite (.and (.cmp .ne (.v 6) (.c (.str []))) (.cmp .ne (.v 8) (.c (.str [])))) (.cons (.ret (.c (.non))) .nil) .nil) (.cons (.ret (.tup (.cons false (.v 5) (.cons false (.v 7) (.cons false (.call 4 (.cons false (.v 2) (.cons false (.v 4) .nil))) (.cons false (.v 6) (.cons false (.v 8) .nil))))))) .nil)))))
def b_is_even : Ss := (.cons (.ret (.or (.sub (.v 2) (.c (.int 2))) (.cmp .eq (.bin .add (.sub (.v 2) (.c (.int 3))) (.call 14 (.cons false (.v 0) (.cons false (.sub (.v 2) (.c (.int 0))) .nil)))) (.bin .add (.sub (.v 2) (.c (.int 4))) (.call 14 (.cons false (.v 1) (.cons false (.sub (.v 2) (.c (.int 1))) .nil))))))) .nil)
def b_are_rows : Ss := (.cons (.asg (.nm 4) (.dc [5] (.nm 5) .val (.cons false (.v 3) .nil) (.c (.bl true)) (.v 5) (.c (.bl true)))) (.cons (.ite (.cmp .notin (.call 23 (.cons false (.v 0) (.cons false (.v 1) .nil))) (.v 4)) (.cons (.ret (.c (.bl false))) .nil) .nil) (.cons (.for (.nm 5) .val (.cons false (.v 4) .nil) (.cons (.ite (.or (.and (.cmp .ne (.sub (.v 5) (.c (.int 3))) (.c (.str []))) (.cmp .ne (.sub (.v 5) (.c (.int 4))) (.c (.str [])))) (.not (.call 25 (.cons false (.v 0) (.cons false (.v 1) (.cons false (.v 5) .nil)))))) (.cons (.ret (.c (.bl false))) .nil) .nil) (.cons (.for (.nm 6) .val (.cons false (.lc [6] (.nm 6) .val (.cons false (.blt .list (.cons false (.c (.str [97, 110, 114])) .nil)) .nil) (.call 3 (.cons false (.v 2) (.cons false (.sub (.v 5) (.c (.int 2))) (.cons false (.v 6) .nil)))) (.v 6)) .nil) (.cons (.ite (.cmp .notin (.call 24 (.cons false (.v 0) (.cons false (.v 1) (.cons false (.v 2) (.cons false (.v 5) (.cons false (.v 6) .nil)))))) (.v 4)) (.cons (.ret (.c (.bl false))) .nil) .nil) .nil)) .nil))) (.cons (.ret (.c (.bl true))) .nil))))
def b_is_parting : Ss := (.cons (.ite (.or (.not (.blt .all (.cons false (.lc [4] (.nm 4) .val (.cons false (.blt .list (.cons false (.v 3) .nil)) .nil) (.c (.bl true)) (.cmp .inn (.v 4) (.c (.str [97, 110, 114])))) .nil))) (.not (.call 6 (.cons false (.v 3) (.cons false (.v 2) .nil))))) (.cons (.ret (.c (.bl false))) .nil) .nil) (.cons (.ret (.cmp .ne (.call 15 (.cons false (.v 0) (.cons false (.v 3) .nil))) (.call 15 (.cons false (.v 1) (.cons false (.v 3) .nil))))) .nil))
def b_Alike_init_i : Ss := (.cons (.asg (.fld (.v 0) 0) (.blt .list (.cons false (.v 1) .nil))) .nil)
def b_Alike_shows : Ss := (.cons (.ex (.call 32 (.cons false (.v 1) (.cons false (.v 2) (.cons false (.v 3) .nil))))) (.cons (.ret (.call 26 (.cons false (.v 1) (.cons false (.v 2) (.cons false (.v 3) (.cons false (.fld (.v 0) 0) .nil)))))) .nil))
def b_Parted_init_i : Ss := (.cons (.asg (.fld (.v 0) 1) (.v 1)) .nil)
def b_Parted_shows : Ss := (.cons (.ex (.call 32 (.cons false (.v 1) (.cons false (.v 2) (.cons false (.v 3) .nil))))) (.cons (.ret (.call 27 (.cons false (.v 1) (.cons false (.v 2) (.cons false (.v 3) (.cons false (.fld (.v 0) 1) .nil)))))) .nil))
def b_check_both : Ss := (.cons (.ex (.call 8 (.cons false (.v 0) .nil))) (.cons (.ex (.call 8 (.cons false (.v 1) .nil))) (.cons (.ex (.call 2 (.cons false (.v 2) .nil))) .nil)))
def b_compared : Ss := (.cons (.asg (.nm 3) (.tup (.cons false (.c (.bl false)) (.cons false (.call 23 (.cons false (.v 0) (.cons false (.v 1) .nil))) .nil)))) (.cons (.par [4, 5] (.cons false (.dct (.cons false (.v 3) (.cons false (.c (.str [])) .nil))) (.cons false (.lst (.cons false (.v 3) .nil)) .nil))) (.cons (.whl (.cmp .ne (.v 5) (.lst .nil)) (.cons (.asg (.tp (.cons (.nm 8) (.cons (.nm 9) .nil))) (.bm .pop (.v 5) (.cons false (.c (.int 0)) .nil))) (.cons (.asg (.nm 6) (.sub (.v 4) (.tup (.cons false (.v 8) (.cons false (.v 9) .nil))))) (.cons (.ite (.and (.not (.v 8)) (.or (.cmp .is (.v 9) (.c (.non))) (.not (.call 25 (.cons false (.v 0) (.cons false (.v 1) (.cons false (.v 9) .nil))))))) (.cons (.ret (.make 1 (.cons false (.v 6) .nil))) .nil) .nil) (.cons (.for (.nm 7) .val (.cons false (.lc [7] (.nm 7) .val (.cons false (.blt .list (.cons false (.c (.str [97, 110, 114])) .nil)) .nil) (.call 3 (.cons false (.v 2) (.cons false (.v 8) (.cons false (.v 7) .nil)))) (.v 7)) .nil) (.cons (.asg (.nm 10) (.ite (.cmp .is (.v 9) (.c (.non))) (.c (.non)) (.call 24 (.cons false (.v 0) (.cons false (.v 1) (.cons false (.v 2) (.cons false (.v 9) (.cons false (.v 7) .nil)))))))) (.cons (.asg (.nm 11) (.tup (.cons false (.call 4 (.cons false (.v 2) (.cons false (.v 7) .nil))) (.cons false (.v 10) .nil)))) (.cons (.ite (.cmp .notin (.v 11) (.v 4)) (.cons (.asg (.sub (.v 4) (.v 11)) (.bin .add (.v 6) (.v 7))) (.cons (.ex (.bm .append (.v 5) (.cons false (.v 11) .nil))) .nil)) .nil) .nil)))) .nil))))) (.cons (.ret (.make 0 (.cons false (.lc [8, 9] (.tp [8, 9]) .val (.cons false (.v 4) .nil) (.c (.bl true)) (.v 9)) .nil))) .nil))))
def b_compare : Ss := (.cons (.ex (.call 32 (.cons false (.v 0) (.cons false (.v 1) (.cons false (.v 2) .nil))))) (.cons (.ret (.call 33 (.cons false (.v 0) (.cons false (.v 1) (.cons false (.v 2) .nil))))) .nil))
def b_are_alike : Ss := (.cons (.ret (.blt (.isi [.cls 0]) (.cons false (.call 34 (.cons false (.v 0) (.cons false (.v 1) (.cons false (.v 2) .nil)))) .nil))) .nil)
def b_first_parting : Ss := (.cons (.asg (.nm 3) (.call 34 (.cons false (.v 0) (.cons false (.v 1) (.cons false (.v 2) .nil))))) (.cons (.ret (.ite (.blt (.isi [.cls 1]) (.cons false (.v 3) .nil)) (.blt .len (.cons false (.fld (.v 3) 1) .nil)) (.c (.non)))) .nil))
def b_returns : Ss := (.cons (.ex (.call 8 (.cons false (.v 0) .nil))) (.cons (.ex (.call 2 (.cons false (.v 1) .nil))) (.cons (.ret (.blt (.isi [.cls 0]) (.cons false (.call 33 (.cons false (.v 0) (.cons false (.tup .nil) (.cons false (.v 1) .nil)))) .nil))) .nil)))
def b_check_all : Ss := (.cons (.ex (.call 8 (.cons false (.v 0) .nil))) (.cons (.ex (.call 2 (.cons false (.v 1) .nil))) (.cons (.ex (.call 2 (.cons false (.v 2) .nil))) .nil)))
def b_place_behind : Ss := (.cons (.asg (.tp (.cons (.nm 6) (.cons (.nm 7) .nil))) (.call 13 (.cons false (.v 0) (.cons false (.sub (.v 3) (.c (.int 0))) (.cons false (.v 4) .nil))))) (.cons (.asg (.nm 5) (.call 5 (.cons false (.v 2) (.cons false (.sub (.v 3) (.c (.int 2))) (.cons false (.v 7) .nil))))) (.cons (.ret (.ite (.cmp .is (.v 5) (.c (.non))) (.c (.non)) (.tup (.cons false (.v 6) (.cons false (.call 4 (.cons false (.v 1) (.cons false (.v 4) .nil))) (.cons false (.v 5) .nil)))))) .nil)))
def b_does_end : Ss := (.cons (.ret (.cmp .is (.call 5 (.cons false (.v 1) (.cons false (.sub (.v 2) (.c (.int 2))) (.cons false (.call 14 (.cons false (.v 0) (.cons false (.sub (.v 2) (.c (.int 0))) .nil))) .nil)))) (.c (.bl false)))) .nil)
def b_Leads_init_i : Ss := (.cons (.asg (.fld (.v 0) 2) (.blt .list (.cons false (.v 1) .nil))) .nil)
def b_Leads_shows : Ss := (.cons (.ex (.call 38 (.cons false (.v 1) (.cons false (.v 2) (.cons false (.v 3) .nil))))) (.cons (.asg (.nm 4) (.dc [5] (.nm 5) .val (.cons false (.fld (.v 0) 2) .nil) (.c (.bl true)) (.v 5) (.c (.bl true)))) (.cons (.ite (.cmp .notin (.tup (.cons false (.call 9 (.cons false (.v 1) .nil)) (.cons false (.c (.bl false)) (.cons false (.c (.bl false)) .nil)))) (.v 4)) (.cons (.ret (.c (.bl false))) .nil) .nil) (.cons (.for (.nm 5) .val (.cons false (.v 4) .nil) (.cons (.ite (.and (.not (.sub (.v 5) (.c (.int 1)))) (.not (.call 40 (.cons false (.v 1) (.cons false (.v 3) (.cons false (.v 5) .nil)))))) (.cons (.ret (.c (.bl false))) .nil) .nil) (.cons (.for (.nm 6) .val (.cons false (.lc [6] (.nm 6) .val (.cons false (.blt .list (.cons false (.c (.str [97, 110, 114])) .nil)) .nil) (.call 3 (.cons false (.v 2) (.cons false (.sub (.v 5) (.c (.int 1))) (.cons false (.v 6) .nil)))) (.v 6)) .nil) (.cons (.ite (.cmp .notin (.call 39 (.cons false (.v 1) (.cons false (.v 2) (.cons false (.v 3) (.cons false (.v 5) (.cons false (.v 6) .nil)))))) (.v 4)) (.cons (.ret (.c (.bl false))) .nil) .nil) .nil)) .nil))) (.cons (.ret (.c (.bl true))) .nil)))))
def b_Strays_init_i : Ss := (.cons (.asg (.fld (.v 0) 1) (.v 1)) .nil)
def b_Strays_shows : Ss := (.cons (.ex (.call 38 (.cons false (.v 1) (.cons false (.v 2) (.cons false (.v 3) .nil))))) (.cons (.ite (.or (.not (.blt .all (.cons false (.lc [4] (.nm 4) .val (.cons false (.blt .list (.cons false (.fld (.v 0) 1) .nil)) .nil) (.c (.bl true)) (.cmp .inn (.v 4) (.c (.str [97, 110, 114])))) .nil))) (.not (.call 6 (.cons false (.fld (.v 0) 1) (.cons false (.v 2) .nil))))) (.cons (.ret (.c (.bl false))) .nil) .nil) (.cons (.ret (.not (.call 6 (.cons false (.call 15 (.cons false (.v 1) (.cons false (.fld (.v 0) 1) .nil))) (.cons false (.v 3) .nil))))) .nil)))
def b_lead : Ss := (.cons (.ex (.call 38 (.cons false (.v 0) (.cons false (.v 1) (.cons false (.v 2) .nil))))) (.cons (.asg (.nm 3) (.tup (.cons false (.c (.bl false)) (.cons false (.tup (.cons false (.call 9 (.cons false (.v 0) .nil)) (.cons false (.c (.bl false)) (.cons false (.c (.bl false)) .nil)))) .nil)))) (.cons (.par [4, 5] (.cons false (.dct (.cons false (.v 3) (.cons false (.c (.str [])) .nil))) (.cons false (.lst (.cons false (.v 3) .nil)) .nil))) (.cons (.whl (.cmp .ne (.v 5) (.lst .nil)) (.cons (.asg (.tp (.cons (.nm 8) (.cons (.nm 9) .nil))) (.bm .pop (.v 5) (.cons false (.c (.int 0)) .nil))) (.cons (.asg (.nm 6) (.sub (.v 4) (.tup (.cons false (.v 8) (.cons false (.v 9) .nil))))) (.cons (.ite (.and (.not (.v 8)) (.or (.cmp .is (.v 9) (.c (.non))) (.not (.call 40 (.cons false (.v 0) (.cons false (.v 2) (.cons false (.v 9) .nil))))))) (.cons (.ret (.make 3 (.cons false (.v 6) .nil))) .nil) .nil) (.cons (.for (.nm 7) .val (.cons false (.lc [7] (.nm 7) .val (.cons false (.blt .list (.cons false (.c (.str [97, 110, 114])) .nil)) .nil) (.call 3 (.cons false (.v 1) (.cons false (.v 8) (.cons false (.v 7) .nil)))) (.v 7)) .nil) (.cons (.asg (.nm 10) (.ite (.cmp .is (.v 9) (.c (.non))) (.c (.non)) (.call 39 (.cons false (.v 0) (.cons false (.v 1) (.cons false (.v 2) (.cons false (.v 9) (.cons false (.v 7) .nil)))))))) (.cons (.asg (.nm 11) (.tup (.cons false (.call 4 (.cons false (.v 1) (.cons false (.v 7) .nil))) (.cons false (.v 10) .nil)))) (.cons (.ite (.cmp .notin (.v 11) (.v 4)) (.cons (.asg (.sub (.v 4) (.v 11)) (.bin .add (.v 6) (.v 7))) (.cons (.ex (.bm .append (.v 5) (.cons false (.v 11) .nil))) .nil)) .nil) .nil)))) .nil))))) (.cons (.ret (.make 2 (.cons false (.lc [8, 9] (.tp [8, 9]) .val (.cons false (.v 4) .nil) (.c (.bl true)) (.v 9)) .nil))) .nil)))))
def b_does_lead : Ss := (.cons (.ret (.blt (.isi [.cls 2]) (.cons false (.call 45 (.cons false (.v 0) (.cons false (.v 1) (.cons false (.v 2) .nil)))) .nil))) .nil)
def b_first_stray : Ss := (.cons (.asg (.nm 3) (.call 45 (.cons false (.v 0) (.cons false (.v 1) (.cons false (.v 2) .nil))))) (.cons (.ret (.ite (.blt (.isi [.cls 3]) (.cons false (.v 3) .nil)) (.blt .len (.cons false (.fld (.v 3) 1) .nil)) (.c (.non)))) .nil))
def b_check_limited : Ss := (.cons (.ex (.call 8 (.cons false (.v 0) .nil))) (.cons (.ex (.call 2 (.cons false (.v 1) .nil))) (.cons (.ite (.not (.call 0 (.cons false (.v 2) (.cons false (.c (.int 0)) (.cons false (.c (.int 4)) .nil))))) (.cons (.rse 7) .nil) .nil) .nil)))
def b_are_texts : Ss := (.cons (.ite (.cmp .ne (.blt .len (.cons false (.v 2) .nil)) (.v 3)) (.cons (.ret (.c (.bl false))) .nil) .nil) (.cons (.asg (.nm 4) (.blt .listEnum (.cons false (.v 2) .nil))) (.cons (.ret (.blt .all (.cons false (.lc [5, 6] (.tp [5, 6]) .val (.cons false (.v 4) .nil) (.c (.bl true)) (.call 27 (.cons false (.bin .mul (.v 0) (.v 5)) (.cons false (.bin .mul (.v 0) (.bin .add (.v 5) (.c (.int 1)))) (.cons false (.v 1) (.cons false (.v 6) .nil)))))) .nil))) .nil)))
def b_Rests_init_i : Ss := (.cons (.asg (.fld (.v 0) 3) (.v 1)) (.cons (.asg (.fld (.v 0) 0) (.blt .list (.cons false (.v 2) .nil))) (.cons (.asg (.fld (.v 0) 4) (.blt .list (.cons false (.v 3) .nil))) .nil)))
def b_Rests_shows : Ss := (.cons (.ex (.call 48 (.cons false (.v 1) (.cons false (.v 2) (.cons false (.v 3) .nil))))) (.cons (.ite (.or (.not (.chain .le .le (.c (.int 0)) (.fld (.v 0) 3) (.v 3))) (.not (.call 49 (.cons false (.v 1) (.cons false (.v 2) (.cons false (.fld (.v 0) 4) (.cons false (.fld (.v 0) 3) .nil))))))) (.cons (.ret (.c (.bl false))) .nil) .nil) (.cons (.ret (.call 26 (.cons false (.bin .mul (.v 1) (.fld (.v 0) 3)) (.cons false (.bin .mul (.v 1) (.bin .add (.fld (.v 0) 3) (.c (.int 1)))) (.cons false (.v 2) (.cons false (.fld (.v 0) 0) .nil)))))) .nil)))
def b_Restless_init_i : Ss := (.cons (.asg (.fld (.v 0) 4) (.blt .list (.cons false (.v 1) .nil))) .nil)
def b_Restless_shows : Ss := (.cons (.ex (.call 48 (.cons false (.v 1) (.cons false (.v 2) (.cons false (.v 3) .nil))))) (.cons (.ret (.call 49 (.cons false (.v 1) (.cons false (.v 2) (.cons false (.fld (.v 0) 4) (.cons false (.bin .add (.v 3) (.c (.int 1))) .nil)))))) .nil))
def b_rounds : Ss := (.cons (.ex (.call 8 (.cons false (.v 0) .nil))) (.cons (.ex (.call 1 (.cons false (.v 1) .nil))) (.cons (.ite (.not (.call 0 (.cons false (.v 2) (.cons false (.c (.int 0)) (.cons false (.c (.int 9)) .nil))))) (.cons (.rse 6) .nil) .nil) (.cons (.asg (.nm 3) (.lst .nil)) (.cons (.for (.nm 4) .rng (.cons false (.v 2) .nil) (.cons (.asg (.nm 1) (.call 15 (.cons false (.v 0) (.cons false (.v 1) .nil)))) (.cons (.ex (.bm .append (.v 3) (.cons false (.v 1) .nil))) .nil))) (.cons (.ret (.v 3)) .nil))))))
def b_rest : Ss := (.cons (.ex (.call 48 (.cons false (.v 0) (.cons false (.v 1) (.cons false (.v 2) .nil))))) (.cons (.asg (.nm 3) (.lst .nil)) (.cons (.for (.nm 4) .rng (.cons false (.bin .add (.v 2) (.c (.int 1))) .nil) (.cons (.asg (.nm 5) (.call 33 (.cons false (.bin .mul (.v 0) (.v 4)) (.cons false (.bin .mul (.v 0) (.bin .add (.v 4) (.c (.int 1)))) (.cons false (.v 1) .nil))))) (.cons (.ite (.blt (.isi [.cls 0]) (.cons false (.v 5) .nil)) (.cons (.ret (.make 4 (.cons false (.v 4) (.cons false (.fld (.v 5) 0) (.cons false (.v 3) .nil))))) .nil) .nil) (.cons (.ex (.bm .append (.v 3) (.cons false (.fld (.v 5) 1) .nil))) .nil)))) (.cons (.ret (.make 5 (.cons false (.v 3) .nil))) .nil))))
def b_least_rounds : Ss := (.cons (.asg (.nm 3) (.call 55 (.cons false (.v 0) (.cons false (.v 1) (.cons false (.v 2) .nil))))) (.cons (.ret (.ite (.blt (.isi [.cls 4]) (.cons false (.v 3) .nil)) (.fld (.v 3) 3) (.c (.non)))) .nil))
def b__law_word : Ss := (.cons (.word 0 1 [(0, [117, 110, 99, 108, 101, 97, 114]), (1, [116, 101, 120, 116]), (2, [107, 105, 110, 100]), (3, [119, 97, 121]), (4, [115, 116, 97, 110, 100, 105, 110, 103]), (5, [115, 105, 103, 110]), (6, [114, 111, 117, 110, 100, 115]), (7, [108, 105, 109, 105, 116])]) (.cons (.ret (.c (.str [109, 97, 100, 101]))) .nil))
def b__law_all : Ss := (.cons (.for (.nm 3) .val (.cons false (.v 1) .nil) (.cons (.for (.nm 4) .val (.cons false (.v 0) .nil) (.cons (.ite (.cmp .ne (.call 57 (.cons false (.v 4) (.cons false (.v 3) .nil))) (.v 2)) (.cons (.ret (.c (.bl false))) .nil) .nil) .nil)) .nil)) (.cons (.ret (.c (.bl true))) .nil))
def b__law_ways_right : Ss := (.cons (.asg (.nm 1) (.lst (.cons false (.lam 63 0) (.cons false (.lam 64 0) (.cons false (.lam 65 0) (.cons false (.lam 66 0) .nil)))))) (.cons (.asg (.nm 1) (.bin .add (.v 1) (.lst (.cons false (.lam 67 0) (.cons false (.lam 68 0) (.cons false (.lam 69 0) .nil)))))) (.cons (.asg (.nm 1) (.bin .add (.v 1) (.lst (.cons false (.lam 70 0) (.cons false (.lam 71 0) (.cons false (.lam 72 0) .nil)))))) (.cons (.asg (.nm 1) (.bin .add (.v 1) (.lst (.cons false (.lam 73 0) (.cons false (.lam 74 0) (.cons false (.lam 75 0) .nil)))))) (.cons (.asg (.nm 1) (.bin .add (.v 1) (.lst (.cons false (.lam 76 0) (.cons false (.lam 77 0) (.cons false (.lam 78 0) .nil)))))) (.cons (.asg (.nm 1) (.bin .add (.v 1) (.lst (.cons false (.lam 79 0) (.cons false (.lam 80 0) (.cons false (.lam 81 0) .nil)))))) (.cons (.asg (.nm 1) (.bin .add (.v 1) (.lst (.cons false (.lam 82 0) (.cons false (.lam 83 0) .nil))))) (.cons (.ex (.bm .append (.v 1) (.cons false (.lam 84 0) .nil))) (.cons (.asg (.nm 2) (.lst (.cons false (.c (.non)) (.cons false (.c (.int 5)) (.cons false (.c (.str [99, 97, 114, 101])) (.cons false (.lst (.cons false (.c (.str [99, 97, 114, 101])) .nil)) (.cons false (.tup (.cons false (.c (.str [67, 97, 114, 101])) .nil)) (.cons false (.tup (.cons false (.c (.str [99, 97, 114, 101])) (.cons false (.c (.int 5)) .nil))) (.cons false (.bin .mul (.tup (.cons false (.c (.str [99, 97, 114, 101])) .nil)) (.c (.int 7))) (.cons false (.tup (.cons false (.c (.non)) .nil)) (.cons false (.dct .nil) (.cons false (.c (.bl true)) (.cons false (.tup (.cons false (.tup (.cons false (.c (.str [99, 97, 114, 101])) .nil)) .nil)) (.cons false (.tup (.cons false (.c (.str [])) .nil)) .nil)))))))))))))) (.cons (.ret (.callG 58 (.cons false (.v 1) (.cons false (.v 2) (.cons false (.c (.str [119, 97, 121])) .nil))) [0])) .nil))))))))))
def b__law_kinds_right : Ss := (.cons (.asg (.nm 1) (.lst (.cons false (.lam 85 1) (.cons false (.lam 86 1) (.cons false (.lam 87 1) .nil))))) (.cons (.asg (.nm 1) (.bin .add (.v 1) (.lst (.cons false (.lam 88 1) (.cons false (.lam 89 1) (.cons false (.lam 90 1) .nil)))))) (.cons (.asg (.nm 1) (.bin .add (.v 1) (.lst (.cons false (.lam 91 1) (.cons false (.lam 92 1) (.cons false (.lam 93 1) .nil)))))) (.cons (.asg (.nm 1) (.bin .add (.v 1) (.lst (.cons false (.lam 94 1) (.cons false (.lam 95 1) .nil))))) (.cons (.asg (.nm 1) (.bin .add (.v 1) (.lst (.cons false (.lam 96 1) (.cons false (.lam 97 1) (.cons false (.lam 98 1) .nil)))))) (.cons (.asg (.nm 1) (.bin .add (.v 1) (.lst (.cons false (.lam 99 1) (.cons false (.lam 100 1) .nil))))) (.cons (.ex (.bm .append (.v 1) (.cons false (.lam 101 1) .nil))) (.cons (.ret (.callG 58 (.cons false (.v 1) (.cons false (.lst (.cons false (.c (.non)) (.cons false (.c (.int 5)) (.cons false (.c (.str [])) (.cons false (.c (.str [65, 110, 121])) (.cons false (.c (.str [97, 110, 121, 98, 97, 114, 101])) (.cons false (.tup (.cons false (.c (.str [97, 110, 121])) .nil)) (.cons false (.lst (.cons false (.c (.str [97, 110, 121])) .nil)) (.cons false (.c (.bl true)) (.cons false (.dct .nil) .nil)))))))))) (.cons false (.c (.str [107, 105, 110, 100])) .nil))) [0])) .nil))))))))
def b__law_rest_right : Ss := (.cons (.asg (.nm 1) (.lst (.cons false (.lam 102 2) (.cons false (.lam 103 2) (.cons false (.lam 104 2) .nil))))) (.cons (.ite (.not (.callG 58 (.cons false (.v 1) (.cons false (.lst (.cons false (.c (.non)) (.cons false (.c (.int 5)) (.cons false (.c (.str [98])) (.cons false (.c (.str [114, 78])) (.cons false (.c (.str [97, 32, 110])) (.cons false (.lst (.cons false (.c (.str [97])) .nil)) (.cons false (.tup (.cons false (.c (.str [97])) (.cons false (.c (.str [110])) .nil))) (.cons false (.dct .nil) (.cons false (.c (.bl true)) (.cons false (.c (.str [97, 110, 10])) .nil))))))))))) (.cons false (.c (.str [116, 101, 120, 116])) .nil))) [0])) (.cons (.ret (.c (.bl false))) .nil) .nil) (.cons (.asg (.nm 1) (.lst (.cons false (.lam 105 2) (.cons false (.lam 106 2) .nil)))) (.cons (.asg (.nm 2) (.lst (.cons false (.c (.non)) (.cons false (.c (.int 5)) (.cons false (.tup .nil) (.cons false (.tup (.cons false (.c (.bl false)) .nil)) (.cons false (.bin .mul (.tup (.cons false (.c (.bl false)) .nil)) (.c (.int 3))) (.cons false (.lst (.cons false (.c (.bl false)) (.cons false (.c (.bl false)) .nil))) (.cons false (.tup (.cons false (.c (.int 0)) (.cons false (.c (.int 0)) .nil))) (.cons false (.tup (.cons false (.c (.bl false)) (.cons false (.c (.non)) .nil))) (.cons false (.tup (.cons false (.c (.bl false)) (.cons false (.c (.bl true)) .nil))) (.cons false (.tup (.cons false (.c (.str [])) (.cons false (.c (.str [])) .nil))) (.cons false (.c (.bl true)) (.cons false (.dct .nil) .nil)))))))))))))) (.cons (.ite (.or (.not (.callG 58 (.cons false (.v 1) (.cons false (.v 2) (.cons false (.c (.str [115, 116, 97, 110, 100, 105, 110, 103])) .nil))) [0])) (.cmp .ne (.callG 57 (.cons false (.lam 107 2) (.cons false (.tup (.cons false (.c (.bl true)) (.cons false (.c (.bl false)) .nil))) .nil)) [0]) (.c (.str [109, 97, 100, 101])))) (.cons (.ret (.c (.bl false))) .nil) .nil) (.cons (.ite (.not (.callG 58 (.cons false (.lst (.cons false (.lam 108 2) .nil)) (.cons false (.lst (.cons false (.c (.non)) (.cons false (.c (.int 5)) (.cons false (.c (.str [])) (.cons false (.c (.str [97, 110])) (.cons false (.c (.str [120])) (.cons false (.c (.str [78])) (.cons false (.lst (.cons false (.c (.str [97])) .nil)) (.cons false (.c (.bl true)) .nil))))))))) (.cons false (.c (.str [115, 105, 103, 110])) .nil))) [0])) (.cons (.ret (.c (.bl false))) .nil) .nil) (.cons (.ite (.not (.callG 58 (.cons false (.lst (.cons false (.lam 109 2) .nil)) (.cons false (.lst (.cons false (.c (.non)) (.cons false (.neg (.c (.int 1))) (.cons false (.c (.int 10)) (.cons false (.c (.bl true)) (.cons false (.c (.str [49])) (.cons false (.tup (.cons false (.c (.int 1)) .nil)) .nil))))))) (.cons false (.c (.str [114, 111, 117, 110, 100, 115])) .nil))) [0])) (.cons (.ret (.c (.bl false))) .nil) .nil) (.cons (.asg (.nm 1) (.lst (.cons false (.lam 110 2) (.cons false (.lam 111 2) (.cons false (.lam 112 2) .nil))))) (.cons (.ex (.bm .append (.v 1) (.cons false (.lam 113 2) .nil))) (.cons (.ret (.callG 58 (.cons false (.v 1) (.cons false (.lst (.cons false (.c (.non)) (.cons false (.neg (.c (.int 1))) (.cons false (.c (.int 5)) (.cons false (.c (.bl true)) (.cons false (.c (.str [49])) (.cons false (.tup (.cons false (.c (.int 1)) .nil)) .nil))))))) (.cons false (.c (.str [108, 105, 109, 105, 116])) .nil))) [0])) .nil))))))))))
def b_law : Ss := (.cons (.par [1, 2] (.cons false (.tup (.cons false (.c (.str [112, 97, 105, 114, 115])) (.cons false (.c (.str [97, 108, 108])) .nil))) (.cons false (.bin .mod (.blt .int (.cons false (.blt .sum (.cons false (.lc [3] (.nm 3) .val (.cons false (.sl (.v 0) false (.c (.non)) true (.c (.int 9))) .nil) (.c (.bl true)) (.blt .abs (.cons false (.v 3) .nil))) .nil)) .nil)) (.c (.int 3))) .nil))) (.cons (.ite (.cmp .eq (.v 2) (.c (.int 0))) (.cons (.ret (.callM 59 (.cons false (.v 1) .nil))) .nil) .nil) (.cons (.ret (.ite (.cmp .eq (.v 2) (.c (.int 1))) (.callM 60 (.cons false (.v 1) .nil)) (.callM 61 (.cons false (.v 1) .nil)))) .nil)))
def lam_0 : Ex := (.call 17 (.cons false (.v 0) (.cons false (.c (.int 5)) .nil)))
def lam_1 : Ex := (.call 18 (.cons false (.v 0) .nil))
def lam_2 : Ex := (.call 19 (.cons false (.v 0) (.cons false (.c (.int 5)) (.cons false (.c (.int 5)) .nil))))
def lam_3 : Ex := (.call 20 (.cons false (.v 0) (.cons false (.c (.int 5)) .nil)))
def lam_4 : Ex := (.call 21 (.cons false (.v 0) .nil))
def lam_5 : Ex := (.call 34 (.cons false (.v 0) (.cons false (.c (.int 5)) (.cons false (.c (.int 5)) .nil))))
def lam_6 : Ex := (.need (.call 34 (.cons false (.cap 0) (.cons false (.v 0) (.cons false (.c (.int 5)) .nil)))))
def lam_7 : Ex := (.need (.call 35 (.cons false (.v 0) (.cons false (.cap 0) (.cons false (.c (.int 5)) .nil)))))
def lam_8 : Ex := (.need (.call 36 (.cons false (.cap 0) (.cons false (.v 0) (.cons false (.c (.int 5)) .nil)))))
def lam_9 : Ex := (.call 37 (.cons false (.v 0) (.cons false (.c (.int 5)) .nil)))
def lam_10 : Ex := (.meth (.make 0 (.cons false (.lst .nil) .nil)) 5 (.cons false (.v 0) (.cons false (.c (.int 5)) (.cons false (.c (.int 5)) .nil))))
def lam_11 : Ex := (.need (.meth (.make 1 (.cons false (.c (.str [])) .nil)) 5 (.cons false (.cap 0) (.cons false (.v 0) (.cons false (.c (.int 5)) .nil)))))
def lam_12 : Ex := (.call 45 (.cons false (.v 0) (.cons false (.c (.int 5)) (.cons false (.c (.int 5)) .nil))))
def lam_13 : Ex := (.call 46 (.cons false (.v 0) (.cons false (.c (.int 5)) (.cons false (.c (.int 5)) .nil))))
def lam_14 : Ex := (.call 47 (.cons false (.v 0) (.cons false (.c (.int 5)) (.cons false (.c (.int 5)) .nil))))
def lam_15 : Ex := (.meth (.make 2 (.cons false (.lst .nil) .nil)) 5 (.cons false (.v 0) (.cons false (.c (.int 5)) (.cons false (.c (.int 5)) .nil))))
def lam_16 : Ex := (.meth (.make 3 (.cons false (.c (.str [])) .nil)) 5 (.cons false (.v 0) (.cons false (.c (.int 5)) (.cons false (.c (.int 5)) .nil))))
def lam_17 : Ex := (.call 54 (.cons false (.v 0) (.cons false (.c (.int 5)) (.cons false (.c (.int 99)) .nil))))
def lam_18 : Ex := (.call 55 (.cons false (.v 0) (.cons false (.c (.int 5)) (.cons false (.c (.int 99)) .nil))))
def lam_19 : Ex := (.call 56 (.cons false (.v 0) (.cons false (.c (.int 5)) (.cons false (.c (.int 99)) .nil))))
def lam_20 : Ex := (.meth (.make 4 (.cons false (.c (.int 0)) (.cons false (.lst .nil) (.cons false (.lst .nil) .nil)))) 5 (.cons false (.v 0) (.cons false (.c (.int 5)) (.cons false (.c (.int 99)) .nil))))
def lam_21 : Ex := (.meth (.make 5 (.cons false (.lst .nil) .nil)) 5 (.cons false (.v 0) (.cons false (.c (.int 5)) (.cons false (.c (.int 99)) .nil))))
def lam_22 : Ex := (.need (.call 34 (.cons false (.cap 0) (.cons false (.cap 0) (.cons false (.v 0) .nil)))))
def lam_23 : Ex := (.need (.call 35 (.cons false (.cap 0) (.cons false (.cap 0) (.cons false (.v 0) .nil)))))
def lam_24 : Ex := (.need (.call 36 (.cons false (.cap 0) (.cons false (.cap 0) (.cons false (.v 0) .nil)))))
def lam_25 : Ex := (.need (.call 37 (.cons false (.cap 0) (.cons false (.v 0) .nil))))
def lam_26 : Ex := (.need (.meth (.make 0 (.cons false (.lst .nil) .nil)) 5 (.cons false (.cap 0) (.cons false (.cap 0) (.cons false (.v 0) .nil)))))
def lam_27 : Ex := (.need (.meth (.make 1 (.cons false (.c (.str [])) .nil)) 5 (.cons false (.cap 0) (.cons false (.cap 0) (.cons false (.v 0) .nil)))))
def lam_28 : Ex := (.need (.call 45 (.cons false (.cap 0) (.cons false (.v 0) (.cons false (.c (.int 5)) .nil)))))
def lam_29 : Ex := (.need (.call 45 (.cons false (.cap 0) (.cons false (.c (.str [97, 110, 121])) (.cons false (.v 0) .nil)))))
def lam_30 : Ex := (.need (.call 46 (.cons false (.cap 0) (.cons false (.v 0) (.cons false (.c (.int 5)) .nil)))))
def lam_31 : Ex := (.need (.call 47 (.cons false (.cap 0) (.cons false (.c (.str [98, 97, 114, 101])) (.cons false (.v 0) .nil)))))
def lam_32 : Ex := (.need (.meth (.make 2 (.cons false (.lst .nil) .nil)) 5 (.cons false (.cap 0) (.cons false (.v 0) (.cons false (.c (.int 5)) .nil)))))
def lam_33 : Ex := (.need (.meth (.make 3 (.cons false (.c (.str [])) .nil)) 5 (.cons false (.cap 0) (.cons false (.c (.str [108, 111, 110, 101])) (.cons false (.v 0) .nil)))))
def lam_34 : Ex := (.need (.call 55 (.cons false (.cap 0) (.cons false (.v 0) (.cons false (.c (.int 99)) .nil)))))
def lam_35 : Ex := (.need (.call 56 (.cons false (.cap 0) (.cons false (.v 0) (.cons false (.c (.int 99)) .nil)))))
def lam_36 : Ex := (.need (.meth (.make 4 (.cons false (.c (.int 0)) (.cons false (.lst .nil) (.cons false (.lst .nil) .nil)))) 5 (.cons false (.cap 0) (.cons false (.v 0) (.cons false (.c (.int 99)) .nil)))))
def lam_37 : Ex := (.need (.meth (.make 5 (.cons false (.lst .nil) .nil)) 5 (.cons false (.cap 0) (.cons false (.v 0) (.cons false (.c (.int 99)) .nil)))))
def lam_38 : Ex := (.call 7 (.cons false (.c (.str [114, 110])) (.cons false (.v 0) .nil)))
def lam_39 : Ex := (.need (.call 17 (.cons false (.cap 0) (.cons false (.v 0) .nil))))
def lam_40 : Ex := (.need (.call 54 (.cons false (.cap 0) (.cons false (.v 0) (.cons false (.c (.int 99)) .nil)))))
def lam_41 : Ex := (.call 7 (.cons false (.v 0) (.cons false (.c (.int 5)) .nil)))
def lam_42 : Ex := (.need (.call 19 (.cons false (.cap 0) (.cons false (.v 0) (.cons false (.c (.int 5)) .nil)))))
def lam_43 : Ex := (.need (.call 20 (.cons false (.cap 0) (.cons false (.v 0) .nil))))
def lam_44 : Ex := (.need (.call 20 (.cons false (.cap 0) (.cons false (.v 0) .nil))))
def lam_45 : Ex := (.need (.call 19 (.cons false (.cap 0) (.cons false (.tup (.cons false (.c (.bl false)) (.cons false (.c (.bl false)) .nil))) (.cons false (.v 0) .nil)))))
def lam_46 : Ex := (.need (.call 54 (.cons false (.cap 0) (.cons false (.c (.str [97, 110])) (.cons false (.v 0) .nil)))))
def lam_47 : Ex := (.need (.call 55 (.cons false (.cap 0) (.cons false (.c (.str [97, 110, 121])) (.cons false (.v 0) .nil)))))
def lam_48 : Ex := (.need (.call 56 (.cons false (.cap 0) (.cons false (.c (.str [97, 110, 121])) (.cons false (.v 0) .nil)))))
def lam_49 : Ex := (.need (.meth (.make 5 (.cons false (.lst .nil) .nil)) 5 (.cons false (.cap 0) (.cons false (.c (.str [97, 110, 121])) (.cons false (.v 0) .nil)))))
def lam_50 : Ex := (.need (.meth (.make 4 (.cons false (.c (.int 0)) (.cons false (.lst .nil) (.cons false (.lst .nil) .nil)))) 5 (.cons false (.cap 0) (.cons false (.c (.str [97, 110, 121])) (.cons false (.v 0) .nil)))))
def T : Tbl := ⟨[⟨3, 3, b_is_number⟩, ⟨1, 2, b_check_text⟩, ⟨1, 1, b_check_kind⟩, ⟨3, 3, b_can_come⟩, ⟨2, 2, b_is_open_behind⟩, ⟨3, 4, b_goes_on⟩, ⟨2, 2, b_is_kind_of⟩, ⟨2, 2, b_is_of⟩, ⟨1, 2, b_check_way⟩, ⟨1, 1, b_start_of⟩, ⟨1, 1, b_left⟩, ⟨3, 3, b_sign_by⟩, ⟨3, 6, b_text_by⟩, ⟨3, 6, b_read_by⟩, ⟨2, 5, b_ended⟩, ⟨2, 4, b_made⟩, ⟨2, 4, b_check_standing⟩, ⟨2, 2, b_turned⟩, ⟨1, 1, b_first_standing⟩, ⟨3, 3, b_read⟩, ⟨2, 2, b_at_end⟩, ⟨1, 6, b_all_standings⟩, ⟨2, 3, b_without_common⟩, ⟨2, 2, b_start_row⟩, ⟨5, 9, b_row_behind⟩, ⟨3, 3, b_is_even⟩, ⟨4, 7, b_are_rows⟩, ⟨4, 5, b_is_parting⟩, ⟨2, 2, b_Alike_init_i⟩, ⟨4, 4, b_Alike_shows⟩, ⟨2, 2, b_Parted_init_i⟩, ⟨4, 4, b_Parted_shows⟩, ⟨3, 3, b_check_both⟩, ⟨3, 12, b_compared⟩, ⟨3, 3, b_compare⟩, ⟨3, 3, b_are_alike⟩, ⟨3, 4, b_first_parting⟩, ⟨2, 2, b_returns⟩, ⟨3, 3, b_check_all⟩, ⟨5, 8, b_place_behind⟩, ⟨3, 3, b_does_end⟩, ⟨2, 2, b_Leads_init_i⟩, ⟨4, 7, b_Leads_shows⟩, ⟨2, 2, b_Strays_init_i⟩, ⟨4, 5, b_Strays_shows⟩, ⟨3, 12, b_lead⟩, ⟨3, 3, b_does_lead⟩, ⟨3, 4, b_first_stray⟩, ⟨3, 3, b_check_limited⟩, ⟨4, 7, b_are_texts⟩, ⟨4, 4, b_Rests_init_i⟩, ⟨4, 4, b_Rests_shows⟩, ⟨2, 2, b_Restless_init_i⟩, ⟨4, 4, b_Restless_shows⟩, ⟨3, 5, b_rounds⟩, ⟨3, 6, b_rest⟩, ⟨3, 4, b_least_rounds⟩, ⟨2, 4, b__law_word⟩, ⟨3, 5, b__law_all⟩, ⟨1, 3, b__law_ways_right⟩, ⟨1, 2, b__law_kinds_right⟩, ⟨1, 3, b__law_rest_right⟩, ⟨1, 4, b_law⟩, ⟨1, 1, .cons (.ret lam_0) .nil⟩, ⟨1, 1, .cons (.ret lam_1) .nil⟩, ⟨1, 1, .cons (.ret lam_2) .nil⟩, ⟨1, 1, .cons (.ret lam_3) .nil⟩, ⟨1, 1, .cons (.ret lam_4) .nil⟩, ⟨1, 1, .cons (.ret lam_5) .nil⟩, ⟨1, 1, .cons (.ret lam_6) .nil⟩, ⟨1, 1, .cons (.ret lam_7) .nil⟩, ⟨1, 1, .cons (.ret lam_8) .nil⟩, ⟨1, 1, .cons (.ret lam_9) .nil⟩, ⟨1, 1, .cons (.ret lam_10) .nil⟩, ⟨1, 1, .cons (.ret lam_11) .nil⟩, ⟨1, 1, .cons (.ret lam_12) .nil⟩, ⟨1, 1, .cons (.ret lam_13) .nil⟩, ⟨1, 1, .cons (.ret lam_14) .nil⟩, ⟨1, 1, .cons (.ret lam_15) .nil⟩, ⟨1, 1, .cons (.ret lam_16) .nil⟩, ⟨1, 1, .cons (.ret lam_17) .nil⟩, ⟨1, 1, .cons (.ret lam_18) .nil⟩, ⟨1, 1, .cons (.ret lam_19) .nil⟩, ⟨1, 1, .cons (.ret lam_20) .nil⟩, ⟨1, 1, .cons (.ret lam_21) .nil⟩, ⟨1, 1, .cons (.ret lam_22) .nil⟩, ⟨1, 1, .cons (.ret lam_23) .nil⟩, ⟨1, 1, .cons (.ret lam_24) .nil⟩, ⟨1, 1, .cons (.ret lam_25) .nil⟩, ⟨1, 1, .cons (.ret lam_26) .nil⟩, ⟨1, 1, .cons (.ret lam_27) .nil⟩, ⟨1, 1, .cons (.ret lam_28) .nil⟩, ⟨1, 1, .cons (.ret lam_29) .nil⟩, ⟨1, 1, .cons (.ret lam_30) .nil⟩, ⟨1, 1, .cons (.ret lam_31) .nil⟩, ⟨1, 1, .cons (.ret lam_32) .nil⟩, ⟨1, 1, .cons (.ret lam_33) .nil⟩, ⟨1, 1, .cons (.ret lam_34) .nil⟩, ⟨1, 1, .cons (.ret lam_35) .nil⟩, ⟨1, 1, .cons (.ret lam_36) .nil⟩, ⟨1, 1, .cons (.ret lam_37) .nil⟩, ⟨1, 1, .cons (.ret lam_38) .nil⟩, ⟨1, 1, .cons (.ret lam_39) .nil⟩, ⟨1, 1, .cons (.ret lam_40) .nil⟩, ⟨1, 1, .cons (.ret lam_41) .nil⟩, ⟨1, 1, .cons (.ret lam_42) .nil⟩, ⟨1, 1, .cons (.ret lam_43) .nil⟩, ⟨1, 1, .cons (.ret lam_44) .nil⟩, ⟨1, 1, .cons (.ret lam_45) .nil⟩, ⟨1, 1, .cons (.ret lam_46) .nil⟩, ⟨1, 1, .cons (.ret lam_47) .nil⟩, ⟨1, 1, .cons (.ret lam_48) .nil⟩, ⟨1, 1, .cons (.ret lam_49) .nil⟩, ⟨1, 1, .cons (.ret lam_50) .nil⟩], [⟨142, [(5, 29, [])], none⟩, ⟨144, [(5, 31, [])], none⟩, ⟨155, [(5, 42, [])], none⟩, ⟨157, [(5, 44, [])], none⟩, ⟨164, [(5, 51, [])], none⟩, ⟨166, [(5, 53, [])], none⟩], false, none⟩
end Lk07
namespace Lk07
open PySem PySem.Spec PyProof.Rows L2 VI
theorem c_is_number : dfB tx 60 T 0 d_is_number := ⟨by kernel_rfl, rfl, b_is_number, rfl, by kernel_rfl⟩
theorem c_check_text : dfB tx 60 T 1 d_check_text := ⟨by kernel_rfl, rfl, b_check_text, rfl, by kernel_rfl⟩
theorem c_check_kind : dfB tx 60 T 2 d_check_kind := ⟨by kernel_rfl, rfl, b_check_kind, rfl, by kernel_rfl⟩
theorem c_can_come : dfB tx 60 T 3 d_can_come := ⟨by kernel_rfl, rfl, b_can_come, rfl, by kernel_rfl⟩
theorem c_is_open_behind : dfB tx 60 T 4 d_is_open_behind := ⟨by kernel_rfl, rfl, b_is_open_behind, rfl, by kernel_rfl⟩
theorem c_goes_on : dfB tx 60 T 5 d_goes_on := ⟨by kernel_rfl, rfl, b_goes_on, rfl, by kernel_rfl⟩
theorem c_is_kind_of : dfB tx 60 T 6 d_is_kind_of := ⟨by kernel_rfl, rfl, b_is_kind_of, rfl, by kernel_rfl⟩
theorem c_is_of : dfB tx 60 T 7 d_is_of := ⟨by kernel_rfl, rfl, b_is_of, rfl, by kernel_rfl⟩
theorem c_check_way : dfB tx 60 T 8 d_check_way := ⟨by kernel_rfl, rfl, b_check_way, rfl, by kernel_rfl⟩
theorem c_start_of : dfB tx 60 T 9 d_start_of := ⟨by kernel_rfl, rfl, b_start_of, rfl, by kernel_rfl⟩
theorem c_left : dfB tx 60 T 10 d_left := ⟨by kernel_rfl, rfl, b_left, rfl, by kernel_rfl⟩
theorem c_sign_by : dfB tx 60 T 11 d_sign_by := ⟨by kernel_rfl, rfl, b_sign_by, rfl, by kernel_rfl⟩
theorem c_text_by : dfB tx 60 T 12 d_text_by := ⟨by kernel_rfl, rfl, b_text_by, rfl, by kernel_rfl⟩
theorem c_read_by : dfB tx 60 T 13 d_read_by := ⟨by kernel_rfl, rfl, b_read_by, rfl, by kernel_rfl⟩
theorem c_ended : dfB tx 60 T 14 d_ended := ⟨by kernel_rfl, rfl, b_ended, rfl, by kernel_rfl⟩
theorem c_made : dfB tx 60 T 15 d_made := ⟨by kernel_rfl, rfl, b_made, rfl, by kernel_rfl⟩
theorem c_check_standing : dfB tx 60 T 16 d_check_standing := ⟨by kernel_rfl, rfl, b_check_standing, rfl, by kernel_rfl⟩
theorem c_turned : dfB tx 60 T 17 d_turned := ⟨by kernel_rfl, rfl, b_turned, rfl, by kernel_rfl⟩
theorem c_first_standing : dfB tx 60 T 18 d_first_standing := ⟨by kernel_rfl, rfl, b_first_standing, rfl, by kernel_rfl⟩
theorem c_read : dfB tx 60 T 19 d_read := ⟨by kernel_rfl, rfl, b_read, rfl, by kernel_rfl⟩
theorem c_at_end : dfB tx 60 T 20 d_at_end := ⟨by kernel_rfl, rfl, b_at_end, rfl, by kernel_rfl⟩
theorem c_all_standings : dfB tx 60 T 21 d_all_standings := ⟨by kernel_rfl, rfl, b_all_standings, rfl, by kernel_rfl⟩
theorem c_without_common : dfB tx 60 T 22 d_without_common := ⟨by kernel_rfl, rfl, b_without_common, rfl, by kernel_rfl⟩
theorem c_start_row : dfB tx 60 T 23 d_start_row := ⟨by kernel_rfl, rfl, b_start_row, rfl, by kernel_rfl⟩
theorem c_row_behind : dfB tx 60 T 24 d_row_behind := ⟨by kernel_rfl, rfl, b_row_behind, rfl, by kernel_rfl⟩
theorem c_is_even : dfB tx 60 T 25 d_is_even := ⟨by kernel_rfl, rfl, b_is_even, rfl, by kernel_rfl⟩
theorem c_are_rows : dfB tx 60 T 26 d_are_rows := ⟨by kernel_rfl, rfl, b_are_rows, rfl, by kernel_rfl⟩
theorem c_is_parting : dfB tx 60 T 27 d_is_parting := ⟨by kernel_rfl, rfl, b_is_parting, rfl, by kernel_rfl⟩
theorem c_Alike_init_i : dfB tx 60 T 28 d_Alike_init_i := ⟨by kernel_rfl, rfl, b_Alike_init_i, rfl, by kernel_rfl⟩
theorem c_Alike_shows : dfB tx 60 T 29 d_Alike_shows := ⟨by kernel_rfl, rfl, b_Alike_shows, rfl, by kernel_rfl⟩
theorem c_Parted_init_i : dfB tx 60 T 30 d_Parted_init_i := ⟨by kernel_rfl, rfl, b_Parted_init_i, rfl, by kernel_rfl⟩
theorem c_Parted_shows : dfB tx 60 T 31 d_Parted_shows := ⟨by kernel_rfl, rfl, b_Parted_shows, rfl, by kernel_rfl⟩
theorem c_check_both : dfB tx 60 T 32 d_check_both := ⟨by kernel_rfl, rfl, b_check_both, rfl, by kernel_rfl⟩
theorem c_compared : dfB tx 60 T 33 d_compared := ⟨by kernel_rfl, rfl, b_compared, rfl, by kernel_rfl⟩
theorem c_compare : dfB tx 60 T 34 d_compare := ⟨by kernel_rfl, rfl, b_compare, rfl, by kernel_rfl⟩
theorem c_are_alike : dfB tx 60 T 35 d_are_alike := ⟨by kernel_rfl, rfl, b_are_alike, rfl, by kernel_rfl⟩
theorem c_first_parting : dfB tx 60 T 36 d_first_parting := ⟨by kernel_rfl, rfl, b_first_parting, rfl, by kernel_rfl⟩
theorem c_returns : dfB tx 60 T 37 d_returns := ⟨by kernel_rfl, rfl, b_returns, rfl, by kernel_rfl⟩
theorem c_check_all : dfB tx 60 T 38 d_check_all := ⟨by kernel_rfl, rfl, b_check_all, rfl, by kernel_rfl⟩
theorem c_place_behind : dfB tx 60 T 39 d_place_behind := ⟨by kernel_rfl, rfl, b_place_behind, rfl, by kernel_rfl⟩
theorem c_does_end : dfB tx 60 T 40 d_does_end := ⟨by kernel_rfl, rfl, b_does_end, rfl, by kernel_rfl⟩
theorem c_Leads_init_i : dfB tx 60 T 41 d_Leads_init_i := ⟨by kernel_rfl, rfl, b_Leads_init_i, rfl, by kernel_rfl⟩
theorem c_Leads_shows : dfB tx 60 T 42 d_Leads_shows := ⟨by kernel_rfl, rfl, b_Leads_shows, rfl, by kernel_rfl⟩
theorem c_Strays_init_i : dfB tx 60 T 43 d_Strays_init_i := ⟨by kernel_rfl, rfl, b_Strays_init_i, rfl, by kernel_rfl⟩
theorem c_Strays_shows : dfB tx 60 T 44 d_Strays_shows := ⟨by kernel_rfl, rfl, b_Strays_shows, rfl, by kernel_rfl⟩
theorem c_lead : dfB tx 60 T 45 d_lead := ⟨by kernel_rfl, rfl, b_lead, rfl, by kernel_rfl⟩
theorem c_does_lead : dfB tx 60 T 46 d_does_lead := ⟨by kernel_rfl, rfl, b_does_lead, rfl, by kernel_rfl⟩
theorem c_first_stray : dfB tx 60 T 47 d_first_stray := ⟨by kernel_rfl, rfl, b_first_stray, rfl, by kernel_rfl⟩
theorem c_check_limited : dfB tx 60 T 48 d_check_limited := ⟨by kernel_rfl, rfl, b_check_limited, rfl, by kernel_rfl⟩
theorem c_are_texts : dfB tx 60 T 49 d_are_texts := ⟨by kernel_rfl, rfl, b_are_texts, rfl, by kernel_rfl⟩
theorem c_Rests_init_i : dfB tx 60 T 50 d_Rests_init_i := ⟨by kernel_rfl, rfl, b_Rests_init_i, rfl, by kernel_rfl⟩
theorem c_Rests_shows : dfB tx 60 T 51 d_Rests_shows := ⟨by kernel_rfl, rfl, b_Rests_shows, rfl, by kernel_rfl⟩
theorem c_Restless_init_i : dfB tx 60 T 52 d_Restless_init_i := ⟨by kernel_rfl, rfl, b_Restless_init_i, rfl, by kernel_rfl⟩
theorem c_Restless_shows : dfB tx 60 T 53 d_Restless_shows := ⟨by kernel_rfl, rfl, b_Restless_shows, rfl, by kernel_rfl⟩
theorem c_rounds : dfB tx 60 T 54 d_rounds := ⟨by kernel_rfl, rfl, b_rounds, rfl, by kernel_rfl⟩
theorem c_rest : dfB tx 60 T 55 d_rest := ⟨by kernel_rfl, rfl, b_rest, rfl, by kernel_rfl⟩
theorem c_least_rounds : dfB tx 60 T 56 d_least_rounds := ⟨by kernel_rfl, rfl, b_least_rounds, rfl, by kernel_rfl⟩
theorem c__law_word : dfB tx 60 T 57 d__law_word := ⟨by kernel_rfl, rfl, b__law_word, rfl, by kernel_rfl⟩
theorem c__law_all : dfB tx 60 T 58 d__law_all := ⟨by kernel_rfl, rfl, b__law_all, rfl, by kernel_rfl⟩
theorem c__law_ways_right : dfB tx 60 T 59 d__law_ways_right := ⟨by kernel_rfl, rfl, b__law_ways_right, rfl, by kernel_rfl⟩
theorem c__law_kinds_right : dfB tx 60 T 60 d__law_kinds_right := ⟨by kernel_rfl, rfl, b__law_kinds_right, rfl, by kernel_rfl⟩
theorem c__law_rest_right : dfB tx 60 T 61 d__law_rest_right := ⟨by kernel_rfl, rfl, b__law_rest_right, rfl, by kernel_rfl⟩
theorem c_law : dfB tx 60 T 62 d_law := ⟨by kernel_rfl, rfl, b_law, rfl, by kernel_rfl⟩
theorem hd : ∀ i d, tx.ds[i]? = some d → dfB tx 60 T i d
  | 0, d, h => by
    have e : d_is_number = d := Option.some.inj h
    subst e
    exact c_is_number
  | 1, d, h => by
    have e : d_check_text = d := Option.some.inj h
    subst e
    exact c_check_text
  | 2, d, h => by
    have e : d_check_kind = d := Option.some.inj h
    subst e
    exact c_check_kind
  | 3, d, h => by
    have e : d_can_come = d := Option.some.inj h
    subst e
    exact c_can_come
  | 4, d, h => by
    have e : d_is_open_behind = d := Option.some.inj h
    subst e
    exact c_is_open_behind
  | 5, d, h => by
    have e : d_goes_on = d := Option.some.inj h
    subst e
    exact c_goes_on
  | 6, d, h => by
    have e : d_is_kind_of = d := Option.some.inj h
    subst e
    exact c_is_kind_of
  | 7, d, h => by
    have e : d_is_of = d := Option.some.inj h
    subst e
    exact c_is_of
  | 8, d, h => by
    have e : d_check_way = d := Option.some.inj h
    subst e
    exact c_check_way
  | 9, d, h => by
    have e : d_start_of = d := Option.some.inj h
    subst e
    exact c_start_of
  | 10, d, h => by
    have e : d_left = d := Option.some.inj h
    subst e
    exact c_left
  | 11, d, h => by
    have e : d_sign_by = d := Option.some.inj h
    subst e
    exact c_sign_by
  | 12, d, h => by
    have e : d_text_by = d := Option.some.inj h
    subst e
    exact c_text_by
  | 13, d, h => by
    have e : d_read_by = d := Option.some.inj h
    subst e
    exact c_read_by
  | 14, d, h => by
    have e : d_ended = d := Option.some.inj h
    subst e
    exact c_ended
  | 15, d, h => by
    have e : d_made = d := Option.some.inj h
    subst e
    exact c_made
  | 16, d, h => by
    have e : d_check_standing = d := Option.some.inj h
    subst e
    exact c_check_standing
  | 17, d, h => by
    have e : d_turned = d := Option.some.inj h
    subst e
    exact c_turned
  | 18, d, h => by
    have e : d_first_standing = d := Option.some.inj h
    subst e
    exact c_first_standing
  | 19, d, h => by
    have e : d_read = d := Option.some.inj h
    subst e
    exact c_read
  | 20, d, h => by
    have e : d_at_end = d := Option.some.inj h
    subst e
    exact c_at_end
  | 21, d, h => by
    have e : d_all_standings = d := Option.some.inj h
    subst e
    exact c_all_standings
  | 22, d, h => by
    have e : d_without_common = d := Option.some.inj h
    subst e
    exact c_without_common
  | 23, d, h => by
    have e : d_start_row = d := Option.some.inj h
    subst e
    exact c_start_row
  | 24, d, h => by
    have e : d_row_behind = d := Option.some.inj h
    subst e
    exact c_row_behind
  | 25, d, h => by
    have e : d_is_even = d := Option.some.inj h
    subst e
    exact c_is_even
  | 26, d, h => by
    have e : d_are_rows = d := Option.some.inj h
    subst e
    exact c_are_rows
  | 27, d, h => by
    have e : d_is_parting = d := Option.some.inj h
    subst e
    exact c_is_parting
  | 28, d, h => by
    have e : d_Alike_init_i = d := Option.some.inj h
    subst e
    exact c_Alike_init_i
  | 29, d, h => by
    have e : d_Alike_shows = d := Option.some.inj h
    subst e
    exact c_Alike_shows
  | 30, d, h => by
    have e : d_Parted_init_i = d := Option.some.inj h
    subst e
    exact c_Parted_init_i
  | 31, d, h => by
    have e : d_Parted_shows = d := Option.some.inj h
    subst e
    exact c_Parted_shows
  | 32, d, h => by
    have e : d_check_both = d := Option.some.inj h
    subst e
    exact c_check_both
  | 33, d, h => by
    have e : d_compared = d := Option.some.inj h
    subst e
    exact c_compared
  | 34, d, h => by
    have e : d_compare = d := Option.some.inj h
    subst e
    exact c_compare
  | 35, d, h => by
    have e : d_are_alike = d := Option.some.inj h
    subst e
    exact c_are_alike
  | 36, d, h => by
    have e : d_first_parting = d := Option.some.inj h
    subst e
    exact c_first_parting
  | 37, d, h => by
    have e : d_returns = d := Option.some.inj h
    subst e
    exact c_returns
  | 38, d, h => by
    have e : d_check_all = d := Option.some.inj h
    subst e
    exact c_check_all
  | 39, d, h => by
    have e : d_place_behind = d := Option.some.inj h
    subst e
    exact c_place_behind
  | 40, d, h => by
    have e : d_does_end = d := Option.some.inj h
    subst e
    exact c_does_end
  | 41, d, h => by
    have e : d_Leads_init_i = d := Option.some.inj h
    subst e
    exact c_Leads_init_i
  | 42, d, h => by
    have e : d_Leads_shows = d := Option.some.inj h
    subst e
    exact c_Leads_shows
  | 43, d, h => by
    have e : d_Strays_init_i = d := Option.some.inj h
    subst e
    exact c_Strays_init_i
  | 44, d, h => by
    have e : d_Strays_shows = d := Option.some.inj h
    subst e
    exact c_Strays_shows
  | 45, d, h => by
    have e : d_lead = d := Option.some.inj h
    subst e
    exact c_lead
  | 46, d, h => by
    have e : d_does_lead = d := Option.some.inj h
    subst e
    exact c_does_lead
  | 47, d, h => by
    have e : d_first_stray = d := Option.some.inj h
    subst e
    exact c_first_stray
  | 48, d, h => by
    have e : d_check_limited = d := Option.some.inj h
    subst e
    exact c_check_limited
  | 49, d, h => by
    have e : d_are_texts = d := Option.some.inj h
    subst e
    exact c_are_texts
  | 50, d, h => by
    have e : d_Rests_init_i = d := Option.some.inj h
    subst e
    exact c_Rests_init_i
  | 51, d, h => by
    have e : d_Rests_shows = d := Option.some.inj h
    subst e
    exact c_Rests_shows
  | 52, d, h => by
    have e : d_Restless_init_i = d := Option.some.inj h
    subst e
    exact c_Restless_init_i
  | 53, d, h => by
    have e : d_Restless_shows = d := Option.some.inj h
    subst e
    exact c_Restless_shows
  | 54, d, h => by
    have e : d_rounds = d := Option.some.inj h
    subst e
    exact c_rounds
  | 55, d, h => by
    have e : d_rest = d := Option.some.inj h
    subst e
    exact c_rest
  | 56, d, h => by
    have e : d_least_rounds = d := Option.some.inj h
    subst e
    exact c_least_rounds
  | 57, d, h => by
    have e : d__law_word = d := Option.some.inj h
    subst e
    exact c__law_word
  | 58, d, h => by
    have e : d__law_all = d := Option.some.inj h
    subst e
    exact c__law_all
  | 59, d, h => by
    have e : d__law_ways_right = d := Option.some.inj h
    subst e
    exact c__law_ways_right
  | 60, d, h => by
    have e : d__law_kinds_right = d := Option.some.inj h
    subst e
    exact c__law_kinds_right
  | 61, d, h => by
    have e : d__law_rest_right = d := Option.some.inj h
    subst e
    exact c__law_rest_right
  | 62, d, h => by
    have e : d_law = d := Option.some.inj h
    subst e
    exact c_law
  | n + 63, d, h => by cases (show (none : Option Df) = some d from h)
def lmR : List (List Str × Ex) := [((["ka"] : List Str), lam_0), ((["kb"] : List Str), lam_1), ((["kc"] : List Str), lam_2), ((["kd"] : List Str), lam_3), ((["ke"] : List Str), lam_4), ((["kf"] : List Str), lam_5), ((["kg"] : List Str), lam_6), ((["kh"] : List Str), lam_7), ((["ki"] : List Str), lam_8), ((["kj"] : List Str), lam_9), ((["kk"] : List Str), lam_10), ((["kl"] : List Str), lam_11), ((["km"] : List Str), lam_12), ((["kn"] : List Str), lam_13), ((["ko"] : List Str), lam_14), ((["kp"] : List Str), lam_15), ((["kq"] : List Str), lam_16), ((["kr"] : List Str), lam_17), ((["ks"] : List Str), lam_18), ((["kt"] : List Str), lam_19), ((["ku"] : List Str), lam_20), ((["kv"] : List Str), lam_21), ((["ka"] : List Str), lam_22), ((["kb"] : List Str), lam_23), ((["kc"] : List Str), lam_24), ((["kd"] : List Str), lam_25), ((["ke"] : List Str), lam_26), ((["kf"] : List Str), lam_27), ((["kg"] : List Str), lam_28), ((["kh"] : List Str), lam_29), ((["ki"] : List Str), lam_30), ((["kj"] : List Str), lam_31), ((["kk"] : List Str), lam_32), ((["kl"] : List Str), lam_33), ((["km"] : List Str), lam_34), ((["kn"] : List Str), lam_35), ((["ko"] : List Str), lam_36), ((["kp"] : List Str), lam_37), ((["kq"] : List Str), lam_38), ((["ka"] : List Str), lam_39), ((["kb"] : List Str), lam_40), ((["kc"] : List Str), lam_41), ((["ka"] : List Str), lam_42), ((["kb"] : List Str), lam_43), ((["ka"] : List Str), lam_44), ((["ka"] : List Str), lam_45), ((["ka"] : List Str), lam_46), ((["ka"] : List Str), lam_47), ((["kb"] : List Str), lam_48), ((["kc"] : List Str), lam_49), ((["kd"] : List Str), lam_50)]
theorem hlm : ∀ j L, (lamsT tx)[j]? = some L → lmB tx 60 T j L := hlm_of (R := lmR) (by kernel_rfl) (by rfl)
theorem bi_is_number : BindD d_is_number := ⟨fun _ _ _ _ _ _ _ us hl => match us, hl with | [_, _, _], _ => rfl, fun z => absurd rfl z, fun z => absurd rfl z, rfl, by decide⟩
theorem bi_check_text : BindD d_check_text := ⟨fun _ _ _ _ _ _ _ us hl => match us, hl with | [_], _ => rfl, fun z => absurd rfl z, fun z => absurd rfl z, rfl, by decide⟩
theorem bi_check_kind : BindD d_check_kind := ⟨fun _ _ _ _ _ _ _ us hl => match us, hl with | [_], _ => rfl, fun z => absurd rfl z, fun z => absurd rfl z, rfl, by decide⟩
theorem bi_can_come : BindD d_can_come := ⟨fun _ _ _ _ _ _ _ us hl => match us, hl with | [_, _, _], _ => rfl, fun z => absurd rfl z, fun z => absurd rfl z, rfl, by decide⟩
theorem bi_is_open_behind : BindD d_is_open_behind := ⟨fun _ _ _ _ _ _ _ us hl => match us, hl with | [_, _], _ => rfl, fun z => absurd rfl z, fun z => absurd rfl z, rfl, by decide⟩
theorem bi_goes_on : BindD d_goes_on := ⟨fun _ _ _ _ _ _ _ us hl => match us, hl with | [_, _, _], _ => rfl, fun z => absurd rfl z, fun z => absurd rfl z, rfl, by decide⟩
theorem bi_is_kind_of : BindD d_is_kind_of := ⟨fun _ _ _ _ _ _ _ us hl => match us, hl with | [_, _], _ => rfl, fun z => absurd rfl z, fun z => absurd rfl z, rfl, by decide⟩
theorem bi_is_of : BindD d_is_of := ⟨fun _ _ _ _ _ _ _ us hl => match us, hl with | [_, _], _ => rfl, fun z => absurd rfl z, fun z => absurd rfl z, rfl, by decide⟩
theorem bi_check_way : BindD d_check_way := ⟨fun _ _ _ _ _ _ _ us hl => match us, hl with | [_], _ => rfl, fun z => absurd rfl z, fun z => absurd rfl z, rfl, by decide⟩
theorem bi_start_of : BindD d_start_of := ⟨fun _ _ _ _ _ _ _ us hl => match us, hl with | [_], _ => rfl, fun z => absurd rfl z, fun z => absurd rfl z, rfl, by decide⟩
theorem bi_left : BindD d_left := ⟨fun _ _ _ _ _ _ _ us hl => match us, hl with | [_], _ => rfl, fun z => absurd rfl z, fun z => absurd rfl z, rfl, by decide⟩
theorem bi_sign_by : BindD d_sign_by := ⟨fun _ _ _ _ _ _ _ us hl => match us, hl with | [_, _, _], _ => rfl, fun z => absurd rfl z, fun z => absurd rfl z, rfl, by decide⟩
theorem bi_text_by : BindD d_text_by := ⟨fun _ _ _ _ _ _ _ us hl => match us, hl with | [_, _, _], _ => rfl, fun z => absurd rfl z, fun z => absurd rfl z, rfl, by decide⟩
theorem bi_read_by : BindD d_read_by := ⟨fun _ _ _ _ _ _ _ us hl => match us, hl with | [_, _, _], _ => rfl, fun z => absurd rfl z, fun z => absurd rfl z, rfl, by decide⟩
theorem bi_ended : BindD d_ended := ⟨fun _ _ _ _ _ _ _ us hl => match us, hl with | [_, _], _ => rfl, fun z => absurd rfl z, fun z => absurd rfl z, rfl, by decide⟩
theorem bi_made : BindD d_made := ⟨fun _ _ _ _ _ _ _ us hl => match us, hl with | [_, _], _ => rfl, fun z => absurd rfl z, fun z => absurd rfl z, rfl, by decide⟩
theorem bi_check_standing : BindD d_check_standing := ⟨fun _ _ _ _ _ _ _ us hl => match us, hl with | [_, _], _ => rfl, fun z => absurd rfl z, fun z => absurd rfl z, rfl, by decide⟩
theorem bi_turned : BindD d_turned := ⟨fun _ _ _ _ _ _ _ us hl => match us, hl with | [_, _], _ => rfl, fun z => absurd rfl z, fun z => absurd rfl z, rfl, by decide⟩
theorem bi_first_standing : BindD d_first_standing := ⟨fun _ _ _ _ _ _ _ us hl => match us, hl with | [_], _ => rfl, fun z => absurd rfl z, fun z => absurd rfl z, rfl, by decide⟩
theorem bi_read : BindD d_read := ⟨fun _ _ _ _ _ _ _ us hl => match us, hl with | [_, _, _], _ => rfl, fun z => absurd rfl z, fun z => absurd rfl z, rfl, by decide⟩
theorem bi_at_end : BindD d_at_end := ⟨fun _ _ _ _ _ _ _ us hl => match us, hl with | [_, _], _ => rfl, fun z => absurd rfl z, fun z => absurd rfl z, rfl, by decide⟩
theorem bi_all_standings : BindD d_all_standings := ⟨fun _ _ _ _ _ _ _ us hl => match us, hl with | [_], _ => rfl, fun z => absurd rfl z, fun z => absurd rfl z, rfl, by decide⟩
theorem bi_without_common : BindD d_without_common := ⟨fun _ _ _ _ _ _ _ us hl => match us, hl with | [_, _], _ => rfl, fun z => absurd rfl z, fun z => absurd rfl z, rfl, by decide⟩
theorem bi_start_row : BindD d_start_row := ⟨fun _ _ _ _ _ _ _ us hl => match us, hl with | [_, _], _ => rfl, fun z => absurd rfl z, fun z => absurd rfl z, rfl, by decide⟩
theorem bi_row_behind : BindD d_row_behind := ⟨fun _ _ _ _ _ _ _ us hl => match us, hl with | [_, _, _, _, _], _ => rfl, fun z => absurd rfl z, fun z => absurd rfl z, rfl, by decide⟩
theorem bi_is_even : BindD d_is_even := ⟨fun _ _ _ _ _ _ _ us hl => match us, hl with | [_, _, _], _ => rfl, fun z => absurd rfl z, fun z => absurd rfl z, rfl, by decide⟩
theorem bi_are_rows : BindD d_are_rows := ⟨fun _ _ _ _ _ _ _ us hl => match us, hl with | [_, _, _, _], _ => rfl, fun z => absurd rfl z, fun z => absurd rfl z, rfl, by decide⟩
theorem bi_is_parting : BindD d_is_parting := ⟨fun _ _ _ _ _ _ _ us hl => match us, hl with | [_, _, _, _], _ => rfl, fun z => absurd rfl z, fun z => absurd rfl z, rfl, by decide⟩
theorem bi_Alike_init_i : BindD d_Alike_init_i := ⟨fun _ _ _ _ _ _ _ us hl => match us, hl with | [_, _], _ => rfl, fun z => absurd rfl z, fun z => absurd rfl z, rfl, by decide⟩
theorem bi_Alike_shows : BindD d_Alike_shows := ⟨fun _ _ _ _ _ _ _ us hl => match us, hl with | [_, _, _, _], _ => rfl, fun z => absurd rfl z, fun z => absurd rfl z, rfl, by decide⟩
theorem bi_Parted_init_i : BindD d_Parted_init_i := ⟨fun _ _ _ _ _ _ _ us hl => match us, hl with | [_, _], _ => rfl, fun z => absurd rfl z, fun z => absurd rfl z, rfl, by decide⟩
theorem bi_Parted_shows : BindD d_Parted_shows := ⟨fun _ _ _ _ _ _ _ us hl => match us, hl with | [_, _, _, _], _ => rfl, fun z => absurd rfl z, fun z => absurd rfl z, rfl, by decide⟩
theorem bi_check_both : BindD d_check_both := ⟨fun _ _ _ _ _ _ _ us hl => match us, hl with | [_, _, _], _ => rfl, fun z => absurd rfl z, fun z => absurd rfl z, rfl, by decide⟩
theorem bi_compared : BindD d_compared := ⟨fun _ _ _ _ _ _ _ us hl => match us, hl with | [_, _, _], _ => rfl, fun z => absurd rfl z, fun z => absurd rfl z, rfl, by decide⟩
theorem bi_compare : BindD d_compare := ⟨fun _ _ _ _ _ _ _ us hl => match us, hl with | [_, _, _], _ => rfl, fun z => absurd rfl z, fun z => absurd rfl z, rfl, by decide⟩
theorem bi_are_alike : BindD d_are_alike := ⟨fun _ _ _ _ _ _ _ us hl => match us, hl with | [_, _, _], _ => rfl, fun z => absurd rfl z, fun z => absurd rfl z, rfl, by decide⟩
theorem bi_first_parting : BindD d_first_parting := ⟨fun _ _ _ _ _ _ _ us hl => match us, hl with | [_, _, _], _ => rfl, fun z => absurd rfl z, fun z => absurd rfl z, rfl, by decide⟩
theorem bi_returns : BindD d_returns := ⟨fun _ _ _ _ _ _ _ us hl => match us, hl with | [_, _], _ => rfl, fun z => absurd rfl z, fun z => absurd rfl z, rfl, by decide⟩
theorem bi_check_all : BindD d_check_all := ⟨fun _ _ _ _ _ _ _ us hl => match us, hl with | [_, _, _], _ => rfl, fun z => absurd rfl z, fun z => absurd rfl z, rfl, by decide⟩
theorem bi_place_behind : BindD d_place_behind := ⟨fun _ _ _ _ _ _ _ us hl => match us, hl with | [_, _, _, _, _], _ => rfl, fun z => absurd rfl z, fun z => absurd rfl z, rfl, by decide⟩
theorem bi_does_end : BindD d_does_end := ⟨fun _ _ _ _ _ _ _ us hl => match us, hl with | [_, _, _], _ => rfl, fun z => absurd rfl z, fun z => absurd rfl z, rfl, by decide⟩
theorem bi_Leads_init_i : BindD d_Leads_init_i := ⟨fun _ _ _ _ _ _ _ us hl => match us, hl with | [_, _], _ => rfl, fun z => absurd rfl z, fun z => absurd rfl z, rfl, by decide⟩
theorem bi_Leads_shows : BindD d_Leads_shows := ⟨fun _ _ _ _ _ _ _ us hl => match us, hl with | [_, _, _, _], _ => rfl, fun z => absurd rfl z, fun z => absurd rfl z, rfl, by decide⟩
theorem bi_Strays_init_i : BindD d_Strays_init_i := ⟨fun _ _ _ _ _ _ _ us hl => match us, hl with | [_, _], _ => rfl, fun z => absurd rfl z, fun z => absurd rfl z, rfl, by decide⟩
theorem bi_Strays_shows : BindD d_Strays_shows := ⟨fun _ _ _ _ _ _ _ us hl => match us, hl with | [_, _, _, _], _ => rfl, fun z => absurd rfl z, fun z => absurd rfl z, rfl, by decide⟩
theorem bi_lead : BindD d_lead := ⟨fun _ _ _ _ _ _ _ us hl => match us, hl with | [_, _, _], _ => rfl, fun z => absurd rfl z, fun z => absurd rfl z, rfl, by decide⟩
theorem bi_does_lead : BindD d_does_lead := ⟨fun _ _ _ _ _ _ _ us hl => match us, hl with | [_, _, _], _ => rfl, fun z => absurd rfl z, fun z => absurd rfl z, rfl, by decide⟩
theorem bi_first_stray : BindD d_first_stray := ⟨fun _ _ _ _ _ _ _ us hl => match us, hl with | [_, _, _], _ => rfl, fun z => absurd rfl z, fun z => absurd rfl z, rfl, by decide⟩
theorem bi_check_limited : BindD d_check_limited := ⟨fun _ _ _ _ _ _ _ us hl => match us, hl with | [_, _, _], _ => rfl, fun z => absurd rfl z, fun z => absurd rfl z, rfl, by decide⟩
theorem bi_are_texts : BindD d_are_texts := ⟨fun _ _ _ _ _ _ _ us hl => match us, hl with | [_, _, _, _], _ => rfl, fun z => absurd rfl z, fun z => absurd rfl z, rfl, by decide⟩
theorem bi_Rests_init_i : BindD d_Rests_init_i := ⟨fun _ _ _ _ _ _ _ us hl => match us, hl with | [_, _, _, _], _ => rfl, fun z => absurd rfl z, fun z => absurd rfl z, rfl, by decide⟩
theorem bi_Rests_shows : BindD d_Rests_shows := ⟨fun _ _ _ _ _ _ _ us hl => match us, hl with | [_, _, _, _], _ => rfl, fun z => absurd rfl z, fun z => absurd rfl z, rfl, by decide⟩
theorem bi_Restless_init_i : BindD d_Restless_init_i := ⟨fun _ _ _ _ _ _ _ us hl => match us, hl with | [_, _], _ => rfl, fun z => absurd rfl z, fun z => absurd rfl z, rfl, by decide⟩
theorem bi_Restless_shows : BindD d_Restless_shows := ⟨fun _ _ _ _ _ _ _ us hl => match us, hl with | [_, _, _, _], _ => rfl, fun z => absurd rfl z, fun z => absurd rfl z, rfl, by decide⟩
theorem bi_rounds : BindD d_rounds := ⟨fun _ _ _ _ _ _ _ us hl => match us, hl with | [_, _, _], _ => rfl, fun z => absurd rfl z, fun z => absurd rfl z, rfl, by decide⟩
theorem bi_rest : BindD d_rest := ⟨fun _ _ _ _ _ _ _ us hl => match us, hl with | [_, _, _], _ => rfl, fun z => absurd rfl z, fun z => absurd rfl z, rfl, by decide⟩
theorem bi_least_rounds : BindD d_least_rounds := ⟨fun _ _ _ _ _ _ _ us hl => match us, hl with | [_, _, _], _ => rfl, fun z => absurd rfl z, fun z => absurd rfl z, rfl, by decide⟩
theorem bi__law_word : BindD d__law_word := ⟨fun _ _ _ _ _ _ _ us hl => match us, hl with | [_, _], _ => rfl, fun z => absurd rfl z, fun z => absurd rfl z, rfl, by decide⟩
theorem bi__law_all : BindD d__law_all := ⟨fun _ _ _ _ _ _ _ us hl => match us, hl with | [_, _, _], _ => rfl, fun z => absurd rfl z, fun z => absurd rfl z, rfl, by decide⟩
theorem bi__law_ways_right : BindD d__law_ways_right := ⟨fun _ _ _ _ _ _ _ us hl => match us, hl with | [_], _ => rfl, fun z => absurd rfl z, fun z => absurd rfl z, rfl, by decide⟩
theorem bi__law_kinds_right : BindD d__law_kinds_right := ⟨fun _ _ _ _ _ _ _ us hl => match us, hl with | [_], _ => rfl, fun z => absurd rfl z, fun z => absurd rfl z, rfl, by decide⟩
theorem bi__law_rest_right : BindD d__law_rest_right := ⟨fun _ _ _ _ _ _ _ us hl => match us, hl with | [_], _ => rfl, fun z => absurd rfl z, fun z => absurd rfl z, rfl, by decide⟩
theorem bi_law : BindD d_law := ⟨fun _ _ _ _ _ _ _ us hl => match us, hl with | [_], _ => rfl, fun z => absurd rfl z, fun z => absurd rfl z, rfl, by decide⟩
theorem bd : BindOk tx := List.forall_mem_cons.mpr ⟨bi_is_number, List.forall_mem_cons.mpr ⟨bi_check_text, List.forall_mem_cons.mpr ⟨bi_check_kind, List.forall_mem_cons.mpr ⟨bi_can_come, List.forall_mem_cons.mpr ⟨bi_is_open_behind, List.forall_mem_cons.mpr ⟨bi_goes_on, List.forall_mem_cons.mpr ⟨bi_is_kind_of, List.forall_mem_cons.mpr ⟨bi_is_of, List.forall_mem_cons.mpr ⟨bi_check_way, List.forall_mem_cons.mpr ⟨bi_start_of, List.forall_mem_cons.mpr ⟨bi_left, List.forall_mem_cons.mpr ⟨bi_sign_by, List.forall_mem_cons.mpr ⟨bi_text_by, List.forall_mem_cons.mpr ⟨bi_read_by, List.forall_mem_cons.mpr ⟨bi_ended, List.forall_mem_cons.mpr ⟨bi_made, List.forall_mem_cons.mpr ⟨bi_check_standing, List.forall_mem_cons.mpr ⟨bi_turned, List.forall_mem_cons.mpr ⟨bi_first_standing, List.forall_mem_cons.mpr ⟨bi_read, List.forall_mem_cons.mpr ⟨bi_at_end, List.forall_mem_cons.mpr ⟨bi_all_standings, List.forall_mem_cons.mpr ⟨bi_without_common, List.forall_mem_cons.mpr ⟨bi_start_row, List.forall_mem_cons.mpr ⟨bi_row_behind, List.forall_mem_cons.mpr ⟨bi_is_even, List.forall_mem_cons.mpr ⟨bi_are_rows, List.forall_mem_cons.mpr ⟨bi_is_parting, List.forall_mem_cons.mpr ⟨bi_Alike_init_i, List.forall_mem_cons.mpr ⟨bi_Alike_shows, List.forall_mem_cons.mpr ⟨bi_Parted_init_i, List.forall_mem_cons.mpr ⟨bi_Parted_shows, List.forall_mem_cons.mpr ⟨bi_check_both, List.forall_mem_cons.mpr ⟨bi_compared, List.forall_mem_cons.mpr ⟨bi_compare, List.forall_mem_cons.mpr ⟨bi_are_alike, List.forall_mem_cons.mpr ⟨bi_first_parting, List.forall_mem_cons.mpr ⟨bi_returns, List.forall_mem_cons.mpr ⟨bi_check_all, List.forall_mem_cons.mpr ⟨bi_place_behind, List.forall_mem_cons.mpr ⟨bi_does_end, List.forall_mem_cons.mpr ⟨bi_Leads_init_i, List.forall_mem_cons.mpr ⟨bi_Leads_shows, List.forall_mem_cons.mpr ⟨bi_Strays_init_i, List.forall_mem_cons.mpr ⟨bi_Strays_shows, List.forall_mem_cons.mpr ⟨bi_lead, List.forall_mem_cons.mpr ⟨bi_does_lead, List.forall_mem_cons.mpr ⟨bi_first_stray, List.forall_mem_cons.mpr ⟨bi_check_limited, List.forall_mem_cons.mpr ⟨bi_are_texts, List.forall_mem_cons.mpr ⟨bi_Rests_init_i, List.forall_mem_cons.mpr ⟨bi_Rests_shows, List.forall_mem_cons.mpr ⟨bi_Restless_init_i, List.forall_mem_cons.mpr ⟨bi_Restless_shows, List.forall_mem_cons.mpr ⟨bi_rounds, List.forall_mem_cons.mpr ⟨bi_rest, List.forall_mem_cons.mpr ⟨bi_least_rounds, List.forall_mem_cons.mpr ⟨bi__law_word, List.forall_mem_cons.mpr ⟨bi__law_all, List.forall_mem_cons.mpr ⟨bi__law_ways_right, List.forall_mem_cons.mpr ⟨bi__law_kinds_right, List.forall_mem_cons.mpr ⟨bi__law_rest_right, List.forall_mem_cons.mpr ⟨bi_law, List.forall_mem_nil _⟩⟩⟩⟩⟩⟩⟩⟩⟩⟩⟩⟩⟩⟩⟩⟩⟩⟩⟩⟩⟩⟩⟩⟩⟩⟩⟩⟩⟩⟩⟩⟩⟩⟩⟩⟩⟩⟩⟩⟩⟩⟩⟩⟩⟩⟩⟩⟩⟩⟩⟩⟩⟩⟩⟩⟩⟩⟩⟩⟩⟩⟩⟩
theorem hcb : clB tx = true := by kernel_rfl
theorem hcg : clG tx = true := by kernel_rfl
theorem hmm : clM tx = true := by kernel_rfl
theorem hcls : T.cls = clsOf tx := by kernel_rfl
end Lk07
namespace Lk07
open VI
def way : D := .tup [.str [112, 97, 105, 114, 115], .str [97, 108, 108]]
def six (a b c : Ob) : Store := (((((Store.nil.add a).add (.tab 0)).add (.tab 1)).add (.tab 2)).add b).add c
theorem a59 (a b c : Ob) : heads 6 (callI ⟨T.fns, T.cls, true, none⟩ 4000 22 59 [way] (six a b c)) = some [some a, some (.tab 0), some (.tab 1), some (.tab 2), some b, some c] := by kernel_rfl
theorem a60 (a b c : Ob) : heads 6 (callI ⟨T.fns, T.cls, true, none⟩ 4000 22 60 [way] (six a b c)) = some [some a, some (.tab 0), some (.tab 1), some (.tab 2), some b, some c] := by kernel_rfl
theorem a61 (a b c : Ob) : heads 6 (callI ⟨T.fns, T.cls, true, none⟩ 4000 22 61 [way] (six a b c)) = some [some a, some (.tab 0), some (.tab 1), some (.tab 2), some b, some c] := by kernel_rfl
theorem clean6 (ns ys zs : List Int) : ∀ o, some o ∈ [some (Ob.flst (ns.map .int)), some (.tab 0), some (.tab 1), some (.tab 2), some (.lst (ys.map .int)), some (.lst (zs.map .int))] → cleanO 6 o = true := fun o h => by
  simp only [List.mem_cons, Option.some.injEq, List.not_mem_nil, or_false] at h
  rcases h with rfl | rfl | rfl | rfl | rfl | rfl
  · rfl
  · rfl
  · rfl
  · rfl
  · exact clean_ints' 6 ys
  · exact clean_ints' 6 zs
theorem ev (ns : List Int) (hn : ns.length ≤ 63) : ∃ st, callI T 4000 24 62 [.ref 0] (scriptT ns 3) = .ok (.bl true) st :=
  law_three (N := 9) (x0 := 59) (x1 := 60) (x2 := 61) (k := 3) (n := 22) rfl rfl (by decide) (fun x hx ns ys zs => by
    rcases hx with rfl | rfl | rfl
    · exact leave_ok (a59 _ _ _) (clean6 ns ys zs)
    · exact leave_ok (a60 _ _ _) (clean6 ns ys zs)
    · exact leave_ok (a61 _ _ _) (clean6 ns ys zs)) ns hn
end Lk07
open PySem PySem.W PySem.Calls PyProof.Rows
theorem PySem.Challenge.cw_turnedends_k07_refused_holds : PySem.Challenge.rw_turnedends_k07_refused.Holds := by
  w_on; o_law
  refine HandSHeadRun.head_any (r := OpenLaw.row PySem.Challenge.rw_turnedends_k07_refused) (q := view (OpenLaw.row PySem.Challenge.rw_turnedends_k07_refused).prog [80]) (H := Lk07.hkX) (ob := Lk07.obX) (M := 8000) (loose := Lk07.nms) (d := HandSHeadRun.topDef (OpenLaw.row PySem.Challenge.rw_turnedends_k07_refused).prog 80) (kwd := []) Lk07.obX_eq
    (by kernel_rfl) (fun s => by kernel_rfl) Lk07.run (by kernel_rfl) (by kernel_rfl) (by kernel_rfl) (by rfl) (by first | assumption | decide +kernel) (by decide +kernel) ⟨rfl, rfl, rfl, rfl, rfl, by decide +kernel⟩ ?hw ?hc
  case hw => w_witness2
  case hc =>
    refine LamX.walk_ofTsE (l := PySem.Challenge.rw_turnedends_k07_refused) (n := 63) (k := 25) (x := "script") (CX := fun _ => VI.CXa (PySem.Challenge.rw_turnedends_k07_refused).prog) rfl (by decide) (by kernel_rfl) ⟨rfl, by decide, by decide⟩ ?F (fun _ => VI.cx_no _)
    intro w mg fa h Y G hmg0
    have hmg : mg ("law" : PySem.Str) = some (.ref fa) := by
      have e : (HandSHeadRun.topDef (OpenLaw.row PySem.Challenge.rw_turnedends_k07_refused).prog 80).name = ("law" : PySem.Str) := by kernel_rfl
      rw [← e]
      exact hmg0
    exact VI.law_endT (l := PySem.Challenge.rw_turnedends_k07_refused) (t := Lk07.tx) (T := Lk07.T) (F := 4000) (fuel := 60) (n := 24) (i := 62) (most := 63) (d := Lk07.d_law) (x := "script") Lk07.hcb Lk07.hcg Lk07.hmm ⟨rfl, rfl⟩ rfl ⟨rfl, rfl⟩ (by kernel_rfl) Lk07.hcls Lk07.hd Lk07.hlm Lk07.bd rfl rfl rfl rfl Lk07.ev w mg fa h Y G hmg
