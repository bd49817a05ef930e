import PyProof.Rows.All
import Wide.All
import OpenK.AllK
import Wide.FinOn
import HandS.ForMost
import HandS.ForExc
import HandS.Conv
import HandS.Deep
import HandS.IsInst
import HandS.Iter
import HandS.Style
import HandS.Text
import HandS.TupAny
import HandS.TupMul
import HandS.Zip
import KE.KDictCopyH
import KE.KDictKeyed
import KE.KDictWalk
import PyProof.ListStr
import HandS.HeadEnd
import HandS.HeadHook4
import KE.KStateDown
import HandS.Head0
import HandS.Head1
import HandS.Head2
import PySem.Challenge.RW_turnedends_k02_whole_standings
set_option linter.all false
set_option Elab.async false
set_option maxRecDepth 100000
set_option maxHeartbeats 0
/-! VIa: a small evaluator for the part of Python that the program uses; plain Lean, no machine in sight. -/
namespace VI

/-- data; tuples are plain values, lists, dicts and instances stand in the store -/
inductive D where
  | non | bl (b : Bool) | int (i : Int) | str (s : List Nat) | tup (xs : List D) | ref (n : Nat)

instance : Inhabited D := ⟨.non⟩

mutual
/-- == of things without references (True is 1) -/
def D.eqv : D → D → Bool
  | .non, .non => true
  | .bl a, .bl b => a == b
  | .bl a, .int j => (if a then 1 else 0) == j
  | .int i, .bl b => i == (if b then 1 else 0)
  | .int i, .int j => i == j
  | .str x, .str y => x == y
  | .tup xs, .tup ys => D.eqvs xs ys
  | .ref i, .ref j => i == j
  | .non, .bl _ | .non, .int _ | .non, .str _ | .non, .tup _ | .non, .ref _ => false
  | .bl _, .non | .bl _, .str _ | .bl _, .tup _ | .bl _, .ref _ => false
  | .int _, .non | .int _, .str _ | .int _, .tup _ | .int _, .ref _ => false
  | .str _, .non | .str _, .bl _ | .str _, .int _ | .str _, .tup _ | .str _, .ref _ => false
  | .tup _, .non | .tup _, .bl _ | .tup _, .int _ | .tup _, .str _ | .tup _, .ref _ => false
  | .ref _, .non | .ref _, .bl _ | .ref _, .int _ | .ref _, .str _ | .ref _, .tup _ => false
def D.eqvs : List D → List D → Bool
  | [], [] => true
  | x :: xs, y :: ys => D.eqv x y && D.eqvs xs ys
  | [], _ :: _ => false
  | _ :: _, [] => false
end

mutual
/-- no reference within -/
def D.flat : D → Bool
  | .non | .bl _ | .int _ | .str _ => true
  | .tup xs => D.flats xs
  | .ref _ => false
def D.flats : List D → Bool
  | [] => true
  | x :: xs => D.flat x && D.flats xs
end
mutual
def D.depth : D → Nat
  | .non | .bl _ | .int _ | .str _ | .ref _ => 0
  | .tup xs => D.depths xs + 1
def D.depths : List D → Nat
  | [] => 0
  | x :: xs => max (D.depth x) (D.depths xs)
end

/-- a thing in the store -/
inductive Ob where
  | lst (xs : List D)
  /-- a list that is only read -/
  | flst (xs : List D)
  /-- a dict; locked while it is walked -/
  | dct (lk : Bool) (kvs : List (D × D))
  | ins (c : Nat) (fs : List (Nat × D))

/-- the store: a tree by the bits of the index -/
inductive Tr where
  | lf
  | nd (o : Option Ob) (l r : Tr)
def Tr.get : Tr → Nat → Option Ob
  | .lf, _ => none
  | .nd o l r, n => if n = 0 then o else if n % 2 = 1 then l.get (n / 2) else r.get (n / 2 - 1)
def Tr.put : Nat → Tr → Nat → Ob → Tr
  | 0, t, _, _ => t
  | f + 1, .lf, n, ob => if n = 0 then .nd (some ob) .lf .lf else if n % 2 = 1 then .nd none (Tr.put f .lf (n / 2) ob) .lf else .nd none .lf (Tr.put f .lf (n / 2 - 1) ob)
  | f + 1, .nd o l r, n, ob => if n = 0 then .nd (some ob) l r else if n % 2 = 1 then .nd o (Tr.put f l (n / 2) ob) r else .nd o l (Tr.put f r (n / 2 - 1) ob)
structure Store where
  sz : Nat
  t : Tr
def Store.nil : Store := ⟨0, .lf⟩
def Store.get (s : Store) (n : Nat) : Option Ob := if n < s.sz then s.t.get n else none
def Store.set (s : Store) (n : Nat) (ob : Ob) : Store := ⟨s.sz, Tr.put (n + 1) s.t n ob⟩
def Store.add (s : Store) (ob : Ob) : Store := ⟨s.sz + 1, Tr.put (s.sz + 1) s.t s.sz ob⟩

theorem Tr.get_put_self : ∀ (f : Nat) (t : Tr) (n : Nat) (ob : Ob), n < f → (Tr.put f t n ob).get n = some ob
  | 0, _, _, _, h => absurd h (Nat.not_lt_zero _)
  | f + 1, .lf, n, ob, h => by
    unfold Tr.put
    by_cases h0 : n = 0
    · simp [h0, Tr.get]
    · by_cases h1 : n % 2 = 1
      · simp only [h0, h1, if_true, if_false, Tr.get]
        exact Tr.get_put_self f .lf (n / 2) ob (by omega)
      · simp only [h0, h1, if_false, Tr.get]
        exact Tr.get_put_self f .lf (n / 2 - 1) ob (by omega)
  | f + 1, .nd o l r, n, ob, h => by
    unfold Tr.put
    by_cases h0 : n = 0
    · simp [h0, Tr.get]
    · by_cases h1 : n % 2 = 1
      · simp only [h0, h1, if_true, if_false, Tr.get]
        exact Tr.get_put_self f l (n / 2) ob (by omega)
      · simp only [h0, h1, if_false, Tr.get]
        exact Tr.get_put_self f r (n / 2 - 1) ob (by omega)
theorem Tr.get_put_ne : ∀ (f : Nat) (t : Tr) (n m : Nat) (ob : Ob), n ≠ m → (Tr.put f t n ob).get m = t.get m
  | 0, _, _, _, _, _ => rfl
  | f + 1, .lf, n, m, ob, h => by
    unfold Tr.put
    by_cases h0 : n = 0
    · subst h0
      have : ¬ m = 0 := fun e => h e.symm
      simp only [if_true, Tr.get, this, if_false]
      split <;> rfl
    · by_cases h1 : n % 2 = 1
      · simp only [h0, h1, if_true, if_false, Tr.get]
        by_cases m0 : m = 0
        · simp [m0]
        · simp only [m0, if_false]
          by_cases m1 : m % 2 = 1
          · simp only [m1, if_true]
            rw [Tr.get_put_ne f .lf (n / 2) (m / 2) ob (by omega)]; rfl
          · simp only [m1, if_false]
      · simp only [h0, h1, if_false, Tr.get]
        by_cases m0 : m = 0
        · simp [m0]
        · simp only [m0, if_false]
          by_cases m1 : m % 2 = 1
          · simp only [m1, if_true]
          · simp only [m1, if_false]
            rw [Tr.get_put_ne f .lf (n / 2 - 1) (m / 2 - 1) ob (by omega)]; rfl
  | f + 1, .nd o l r, n, m, ob, h => by
    unfold Tr.put
    by_cases h0 : n = 0
    · subst h0
      have : ¬ m = 0 := fun e => h e.symm
      simp only [if_true, Tr.get, this, if_false]
    · by_cases h1 : n % 2 = 1
      · simp only [h0, h1, if_true, if_false, Tr.get]
        by_cases m0 : m = 0
        · simp [m0]
        · simp only [m0, if_false]
          by_cases m1 : m % 2 = 1
          · simp only [m1, if_true]
            rw [Tr.get_put_ne f l (n / 2) (m / 2) ob (by omega)]
          · simp only [m1, if_false]
      · simp only [h0, h1, if_false, Tr.get]
        by_cases m0 : m = 0
        · simp [m0]
        · simp only [m0, if_false]
          by_cases m1 : m % 2 = 1
          · simp only [m1, if_true]
          · simp only [m1, if_false]
            rw [Tr.get_put_ne f r (n / 2 - 1) (m / 2 - 1) ob (by omega)]
theorem Store.get_lt {s : Store} {n : Nat} {o : Ob} (h : s.get n = some o) : n < s.sz := by
  unfold Store.get at h
  split at h
  · assumption
  · cases h
theorem Store.get_ge {s : Store} {n : Nat} (h : s.sz ≤ n) : s.get n = none := by
  unfold Store.get
  rw [if_neg (by omega)]
theorem Store.set_sz (s : Store) (n : Nat) (ob : Ob) : (s.set n ob).sz = s.sz := rfl
theorem Store.add_sz (s : Store) (ob : Ob) : (s.add ob).sz = s.sz + 1 := rfl
theorem Store.get_set_self {s : Store} {n : Nat} {ob : Ob} (h : n < s.sz) : (s.set n ob).get n = some ob := by
  unfold Store.get Store.set
  rw [if_pos h]
  exact Tr.get_put_self _ _ _ _ (Nat.lt_succ_self _)
theorem Store.get_set_ne {s : Store} {n m : Nat} {ob : Ob} (h : m ≠ n) : (s.set n ob).get m = s.get m := by
  unfold Store.get Store.set
  simp only
  split
  · exact Tr.get_put_ne _ _ _ _ _ (Ne.symm h)
  · rfl
theorem Store.get_add_self {s : Store} {ob : Ob} : (s.add ob).get s.sz = some ob := by
  unfold Store.get Store.add
  simp only
  rw [if_pos (Nat.lt_succ_self _)]
  exact Tr.get_put_self _ _ _ _ (Nat.lt_succ_self _)
theorem Store.get_add_ne {s : Store} {m : Nat} {ob : Ob} (h : m ≠ s.sz) : (s.add ob).get m = s.get m := by
  unfold Store.get Store.add
  simp only
  by_cases hm : m < s.sz
  · rw [if_pos (Nat.lt_succ_of_lt hm), if_pos hm]
    exact Tr.get_put_ne _ _ _ _ _ (Ne.symm h)
  · rw [if_neg (by omega), if_neg hm]
theorem Store.get_add_lt {s : Store} {m : Nat} {ob : Ob} (h : m < s.sz) : (s.add ob).get m = s.get m := Store.get_add_ne (by omega)


/-! ### results -/
inductive R (α : Type) where
  | ok (a : α) (s : Store)
  | exc (c : Nat) (x : D) (s : Store)
  | stuck
def R.bind {α β : Type} (r : R α) (f : α → Store → R β) : R β := match r with
  | .ok a s => f a s
  | .exc c x s => .exc c x s
  | .stuck => .stuck
/-- what raises counts as stuck -/
def R.noexc {α : Type} (r : R α) : R α := match r with
  | .ok a s => .ok a s
  | .exc _ _ _ => .stuck
  | .stuck => .stuck
def ofOpt {α : Type} (o : Option α) (s : Store) : R α := match o with
  | some a => .ok a s
  | none => .stuck

/-! ### data read as a whole: lists within -/
inductive Pd where
  | non | bl (b : Bool) | int (i : Int) | str (s : List Nat) | tup (xs : List Pd) | lst (xs : List Pd)
mutual
def Pd.eqv : Pd → Pd → Bool
  | .non, .non => true
  | .bl a, .bl b => a == b
  | .bl a, .int j => (if a then 1 else 0) == j
  | .int i, .bl b => i == (if b then 1 else 0)
  | .int i, .int j => i == j
  | .str x, .str y => x == y
  | .tup xs, .tup ys => Pd.eqvs xs ys
  | .lst xs, .lst ys => Pd.eqvs xs ys
  | .non, .bl _ | .non, .int _ | .non, .str _ | .non, .tup _ | .non, .lst _ => false
  | .bl _, .non | .bl _, .str _ | .bl _, .tup _ | .bl _, .lst _ => false
  | .int _, .non | .int _, .str _ | .int _, .tup _ | .int _, .lst _ => false
  | .str _, .non | .str _, .bl _ | .str _, .int _ | .str _, .tup _ | .str _, .lst _ => false
  | .tup _, .non | .tup _, .bl _ | .tup _, .int _ | .tup _, .str _ | .tup _, .lst _ => false
  | .lst _, .non | .lst _, .bl _ | .lst _, .int _ | .lst _, .str _ | .lst _, .tup _ => false
def Pd.eqvs : List Pd → List Pd → Bool
  | [], [] => true
  | x :: xs, y :: ys => Pd.eqv x y && Pd.eqvs xs ys
  | [], _ :: _ => false
  | _ :: _, [] => false
end
def goodCp (c : Nat) : Bool := decide (c < 55296)
def allOpt {α β : Type} (f : α → Option β) : List α → Option (List β)
  | [] => some []
  | x :: xs => match f x, allOpt f xs with
    | some y, some ys => some (y :: ys)
    | _, _ => none
/-- a thing with the lists in it, to a depth -/
def dat : Nat → Store → D → Option Pd
  | _, _, .non => some .non
  | _, _, .bl b => some (.bl b)
  | _, _, .int i => some (.int i)
  | _, _, .str x => if x.all goodCp then some (.str x) else none
  | 0, _, .tup _ => none
  | 0, _, .ref _ => none
  | f + 1, s, .tup xs => (allOpt (dat f s) xs).map .tup
  | f + 1, s, .ref n => match s.get n with
    | some (.lst xs) => (allOpt (dat f s) xs).map .lst
    | some (.flst xs) => (allOpt (dat f s) xs).map .lst
    | _ => none
def eqS (s : Store) (a b : D) : Option Bool := match dat 60 s a, dat 60 s b with
  | some x, some y => some (x.eqv y)
  | _, _ => none

/-! ### the form -/
inductive Bop where | add | sub | mul | fdiv | mod
inductive Cop where | eq | ne | lt | le | gt | ge | is | isnot | inn | notin
inductive Ty where | str | tuple | int | bool | dict | list | cls (c : Nat)
inductive Blt where
  | len | sum | all | any | int | abs | list | tuple | dict | min | max | listEnum | listRange | isi (ts : List Ty)
inductive Bm where
  | append | pop | extend | clear | reverse | count | index | get | join | split | replace
inductive Itk where | val | rng | enum | zip | items | values
inductive Tg where
  | nm (i : Nat)
  | tp (is : List Nat)
mutual
inductive Ex where
  | c (d : D)
  | v (i : Nat)
  | tup (es : Xs)
  | lst (es : Xs)
  | dct (es : Xs)
  | bin (o : Bop) (a b : Ex)
  | cmp (o : Cop) (a b : Ex)
  | chain (o p : Cop) (a b c : Ex)
  | and (a b : Ex)
  | or (a b : Ex)
  | not (a : Ex)
  | neg (a : Ex)
  | ite (c a b : Ex)
  | sub (a i : Ex)
  | sl (a : Ex) (hl : Bool) (lo : Ex) (hh : Bool) (hi : Ex)
  | rev (a : Ex)
  | call (f : Nat) (es : Xs)
  | make (c : Nat) (es : Xs)
  | fld (a : Ex) (n : Nat)
  | meth (a : Ex) (m : Nat) (es : Xs)
  | blt (b : Blt) (es : Xs)
  | bm (m : Bm) (a : Ex) (es : Xs)
  | wget (kvs : List (D × D)) (i : Ex)
  | lc (own : List Nat) (t : Tg) (k : Itk) (es : Xs) (cond elt : Ex)
  | lc2 (own : List Nat) (t : Tg) (k : Itk) (es : Xs) (t2 : Tg) (k2 : Itk) (es2 : Xs) (elt : Ex)
  | dc (own : List Nat) (t : Tg) (k : Itk) (es : Xs) (cond key val : Ex)
inductive Xs where
  | nil
  | cons (star : Bool) (e : Ex) (r : Xs)
end
/-- how many arguments, if none has a star -/
def Xs.plain : Xs → Option Nat
  | .nil => some 0
  | .cons true _ _ => none
  | .cons false _ r => r.plain.map (· + 1)
mutual
inductive As where
  | nm (i : Nat)
  | sub (a i : Ex)
  | fld (a : Ex) (n : Nat)
  | tp (ts : Ats)
inductive Ats where
  | nil
  | cons (t : As) (r : Ats)
end
def Ats.len : Ats → Nat
  | .nil => 0
  | .cons _ r => r.len + 1
mutual
inductive St where
  | ex (e : Ex)
  | asg (t : As) (e : Ex)
  | par (is : List Nat) (es : Xs)
  | aug (i : Nat) (e : Ex)
  | ite (c : Ex) (a b : Ss)
  | whl (c : Ex) (b : Ss)
  | for (t : Tg) (k : Itk) (es : Xs) (b : Ss)
  | ret (e : Ex)
  | bad
inductive Ss where
  | nil
  | cons (s : St) (r : Ss)
end

/-! ### operations by values -/
def line : Nat := 16777216
def lists? (s : Store) (n : Nat) : Option (List D) := match s.get n with
  | some (.lst xs) => some xs
  | some (.flst xs) => some xs
  | _ => none
def small64 (i : Int) : Bool := decide (-18446744073709551616 < i) && decide (i < 18446744073709551616)
def small3 (i : Int) : Bool := decide (-1000 ≤ i) && decide (i ≤ 1000)
def rep {α : Type} (n : Nat) (xs : List α) : List α := (List.replicate n xs).flatten
def binV (o : Bop) (a b : D) (s : Store) : R D := match o, a, b with
  | .add, .int i, .int j => .ok (.int (i + j)) s
  | .add, .str x, .str y => if x.length + y.length ≤ line then .ok (.str (x ++ y)) s else .stuck
  | .add, .tup x, .tup y => if x.length + y.length ≤ line then .ok (.tup (x ++ y)) s else .stuck
  | .add, .ref m, .ref n => match s.get m, s.get n with
    | some (.lst x), some (.lst y) => if x.length + y.length ≤ line then .ok (.ref s.sz) (s.add (.lst (x ++ y))) else .stuck
    | _, _ => .stuck
  | .sub, .int i, .int j => .ok (.int (i - j)) s
  | .mul, .int i, .int j => if small64 i || small64 j then .ok (.int (i * j)) s else .stuck
  | .mul, .tup x, .int n => if x.length ≤ 1000 ∧ small3 n then .ok (.tup (rep n.toNat x)) s else .stuck
  | .mul, .str x, .int n => if x.length ≤ 1000 ∧ small3 n then .ok (.str (rep n.toNat x)) s else .stuck
  | .mul, .ref m, .int n => match s.get m with
    | some (.lst x) => if x.length ≤ 1000 ∧ small3 n then .ok (.ref s.sz) (s.add (.lst (rep n.toNat x))) else .stuck
    | _ => .stuck
  | .fdiv, .int i, .int j => if 0 < j ∧ j < 1073741824 then .ok (.int (i / j)) s else .stuck
  | .mod, .int i, .int j => if 0 < j then .ok (.int (i % j)) s else .stuck
  | _, _, _ => .stuck

/-- keys of dicts: 1 an int or a text, 2 a tuple; 0 none of these -/
def kk : D → Nat
  | .int _ => 1
  | .str x => if x.all goodCp then 1 else 0
  | .tup xs => if D.flats xs && decide (D.depths xs < 8) then 2 else 0
  | _ => 0
def kkOk (kvs : List (D × D)) (k : D) : Bool := match kvs with
  | [] => kk k != 0
  | p :: _ => kk k != 0 && kk k == kk p.1
def lookD (kvs : List (D × D)) (k : D) : Option D := match kvs with
  | [] => none
  | p :: r => if D.eqv p.1 k then some p.2 else lookD r k
def putD (kvs : List (D × D)) (k v : D) : List (D × D) :=
  if (lookD kvs k).isSome then kvs.map fun p => if D.eqv p.1 k then (p.1, v) else p else kvs ++ [(k, v)]
def anyEq (x : D) : List Pd → Option Pd → Option Bool
  | _, none => none
  | ys, some x => some (ys.any fun y => y.eqv x)
/-- x in xs -/
def memS (s : Store) (x : D) (xs : List D) : Option Bool := match dat 58 s x, allOpt (dat 58 s) xs with
  | some a, some bs => some (bs.any fun b => b.eqv a)
  | _, _ => none
def inV (a b : D) (s : Store) : Option Bool := match b with
  | .str z => match a with
    | .str [c] => some (decide (c ∈ z))
    | _ => none
  | .tup xs => memS s a xs
  | .ref n => match s.get n with
    | some (.lst xs) => memS s a xs
    | some (.flst xs) => memS s a xs
    | some (.dct _ kvs) => if kkOk kvs a then some (lookD kvs a).isSome else none
    | _ => none
  | _ => none
def isV (a b : D) : Option Bool := match a, b with
  | .non, .non => some true
  | .bl x, .bl y => some (x == y)
  | .non, .bl _ | .bl _, .non | .int _, .non | .str _, .non | .tup _, .non | .ref _, .non => some false
  | _, _ => none
def cmpV (o : Cop) (a b : D) (s : Store) : R D := match o with
  | .eq => ofOpt ((eqS s a b).map .bl) s
  | .ne => ofOpt ((eqS s a b).map fun b => .bl !b) s
  | .lt => match a, b with | .int i, .int j => .ok (.bl (decide (i < j))) s | _, _ => .stuck
  | .le => match a, b with | .int i, .int j => .ok (.bl (decide (i ≤ j))) s | _, _ => .stuck
  | .gt => match a, b with | .int i, .int j => .ok (.bl (decide (j < i))) s | _, _ => .stuck
  | .ge => match a, b with | .int i, .int j => .ok (.bl (decide (j ≤ i))) s | _, _ => .stuck
  | .is => ofOpt ((isV a b).map .bl) s
  | .isnot => ofOpt ((isV a b).map fun b => .bl !b) s
  | .inn => ofOpt ((inV a b s).map .bl) s
  | .notin => ofOpt ((inV a b s).map fun b => .bl !b) s

/-- the place that an index means -/
def ixP (n : Nat) (i : Int) : Option Nat := if 0 ≤ i then (if i < n then some i.toNat else none) else if -(n : Int) ≤ i then some (i + n).toNat else none
def atP {α : Type} (xs : List α) (i : Int) : Option α := match ixP xs.length i with
  | some j => xs[j]?
  | none => none
def subV (a i : D) (s : Store) : R D := match a, i with
  | .tup xs, .int i => ofOpt (atP xs i) s
  | .str x, .int i => if x.length ≤ line then ofOpt ((atP x i).map fun c => .str [c]) s else .stuck
  | .ref n, i => match s.get n with
    | some (.lst xs) => match i with | .int i => ofOpt (atP xs i) s | _ => .stuck
    | some (.flst xs) => match i with | .int i => ofOpt (atP xs i) s | _ => .stuck
    | some (.dct _ kvs) => if kkOk kvs i then ofOpt (lookD kvs i) s else .stuck
    | _ => .stuck
  | _, _ => .stuck
/-- a part of a slice -/
def partV (d : D) (s : Store) : R (Option Int) := match d with
  | .int i => .ok (some i) s
  | _ => .stuck
def sIx (n : Nat) (d : Nat) : Option Int → Nat
  | none => d
  | some i => if i < 0 then (i + n).toNat else min i.toNat n
def cut {α : Type} (xs : List α) (lo hi : Option Int) : List α := (xs.drop (sIx xs.length 0 lo)).take (sIx xs.length xs.length hi - sIx xs.length 0 lo)
def slV (a : D) (l h : Option Int) (s : Store) : R D := match a with
  | .tup xs => .ok (.tup (cut xs l h)) s
  | .str x => if x.length ≤ line then .ok (.str (cut x l h)) s else .stuck
  | .ref n => match lists? s n with
    | some xs => .ok (.ref s.sz) (s.add (.lst (cut xs l h)))
    | none => .stuck
  | _ => .stuck
def revV (a : D) (s : Store) : R D := match a with
  | .ref n => match s.get n with
    | some (.lst xs) => .ok (.ref s.sz) (s.add (.lst xs.reverse))
    | _ => .stuck
  | _ => .stuck

def intOf : D → Option Int | .int i => some i | _ => none
def blOf : D → Option Bool | .bl b => some b | _ => none
def strOf : D → Option (List Nat) | .str b => some b | _ => none
def isTy (s : Store) (d : D) : Ty → Option Bool
  | .str => some (match d with | .str _ => true | _ => false)
  | .tuple => some (match d with | .tup _ => true | _ => false)
  | .int => some (match d with | .int _ => true | .bl _ => true | _ => false)
  | .bool => some (match d with | .bl _ => true | _ => false)
  | .dict => match d with
    | .ref n => match s.get n with | some (.dct ..) => some true | some _ => some false | none => none
    | _ => some false
  | .list => match d with
    | .ref n => match s.get n with | some (.lst _) => some true | some (.flst _) => some true | some _ => some false | none => none
    | _ => some false
  | .cls c => match d with
    | .ref n => match s.get n with | some (.ins c' _) => some (c == c') | some _ => some false | none => none
    | _ => some false
def isTys (s : Store) (d : D) : List Ty → Option Bool
  | [] => some false
  | t :: r => match isTy s d t, isTys s d r with
    | some a, some b => some (a || b)
    | _, _ => none
def minL : List Int → Option Int
  | [] => none
  | x :: xs => some (xs.foldl (fun a b => if b < a then b else a) x)
def maxL : List Int → Option Int
  | [] => none
  | x :: xs => some (xs.foldl (fun a b => if b > a then b else a) x)
def numbered : Nat → List D → List D
  | _, [] => []
  | i, x :: xs => .tup [.int i, x] :: numbered (i + 1) xs
def lenV (as : List D) (s : Store) : R D := match as with
  | [.tup xs] => .ok (.int xs.length) s
  | [.str x] => if x.length ≤ line then .ok (.int x.length) s else .stuck
  | [.ref n] => match s.get n with
    | some (.lst xs) => .ok (.int xs.length) s
    | some (.flst xs) => .ok (.int xs.length) s
    | some (.dct _ kvs) => .ok (.int kvs.length) s
    | _ => .stuck
  | _ => .stuck
def sumV (as : List D) (s : Store) : R D := match as with
  | [.ref n] => match lists? s n with
    | some xs => ofOpt ((allOpt intOf xs).map fun is => .int is.sum) s
    | none => .stuck
  | _ => .stuck
def allV (as : List D) (s : Store) : R D := match as with
  | [.ref n] => match lists? s n with
    | some xs => ofOpt ((allOpt blOf xs).map fun bs => .bl (bs.all id)) s
    | none => .stuck
  | _ => .stuck
def anyV (as : List D) (s : Store) : R D := match as with
  | [.ref n] => match lists? s n with
    | some xs => ofOpt ((allOpt blOf xs).map fun bs => .bl (bs.any id)) s
    | none => .stuck
  | _ => .stuck
def intV (as : List D) (s : Store) : R D := match as with
  | [.int i] => .ok (.int i) s
  | _ => .stuck
def absV (as : List D) (s : Store) : R D := match as with
  | [.int i] => .ok (.int (if i < 0 then -i else i)) s
  | _ => .stuck
def listV (as : List D) (s : Store) : R D := match as with
  | [.tup xs] => .ok (.ref s.sz) (s.add (.lst xs))
  | [.str x] => if x.length ≤ line then .ok (.ref s.sz) (s.add (.lst (x.map fun c => .str [c]))) else .stuck
  | [.ref n] => match s.get n with
    | some (.lst xs) => .ok (.ref s.sz) (s.add (.lst xs))
    | some (.flst xs) => .ok (.ref s.sz) (s.add (.lst xs))
    | some (.dct _ kvs) => .ok (.ref s.sz) (s.add (.lst (kvs.map (·.1))))
    | _ => .stuck
  | _ => .stuck
def tupleV (as : List D) (s : Store) : R D := match as with
  | [.tup xs] => .ok (.tup xs) s
  | [.ref n] => match s.get n with
    | some (.lst xs) => .ok (.tup xs) s
    | _ => .stuck
  | _ => .stuck
def dictV (as : List D) (s : Store) : R D := match as with
  | [.ref n] => match s.get n with
    | some (.dct _ kvs) => .ok (.ref s.sz) (s.add (.dct false kvs))
    | _ => .stuck
  | _ => .stuck
def minV (as : List D) (s : Store) : R D := match as with
  | [.int i, .int j] => .ok (.int (if j < i then j else i)) s
  | [.ref n] => match lists? s n with
    | some xs => ofOpt (((allOpt intOf xs).bind minL).map .int) s
    | none => .stuck
  | _ => .stuck
def maxV (as : List D) (s : Store) : R D := match as with
  | [.ref n] => match lists? s n with
    | some xs => ofOpt (((allOpt intOf xs).bind maxL).map .int) s
    | none => .stuck
  | _ => .stuck
def listEnumV (as : List D) (s : Store) : R D := match as with
  | [.ref n] => match s.get n with
    | some (.lst xs) => .ok (.ref s.sz) (s.add (.lst (numbered 0 xs)))
    | _ => .stuck
  | _ => .stuck
def listRangeV (as : List D) (s : Store) : R D := match as with
  | [.int n] => if -4611686018427387904 ≤ n ∧ n ≤ 16777216 then .ok (.ref s.sz) (s.add (.lst ((List.range n.toNat).map fun (i : Nat) => .int (i : Int)))) else .stuck
  | _ => .stuck
def isiV (ts : List Ty) (as : List D) (s : Store) : R D := match as with
  | [d] => ofOpt ((isTys s d ts).map .bl) s
  | _ => .stuck
def bltV (b : Blt) (as : List D) (s : Store) : R D := match b with
  | .len => lenV as s
  | .sum => sumV as s
  | .all => allV as s
  | .any => anyV as s
  | .int => intV as s
  | .abs => absV as s
  | .list => listV as s
  | .tuple => tupleV as s
  | .dict => dictV as s
  | .min => minV as s
  | .max => maxV as s
  | .listEnum => listEnumV as s
  | .listRange => listRangeV as s
  | .isi ts => isiV ts as s
def joinS (sep : List Nat) : List (List Nat) → List Nat
  | [] => []
  | [x] => x
  | x :: r => x ++ sep ++ joinS sep r
def countEq (a : Pd) : List Pd → Int
  | [] => 0
  | b :: r => (if b.eqv a then 1 else 0) + countEq a r
def indexEq (a : Pd) : List Pd → Option Int
  | [] => none
  | b :: r => if b.eqv a then some 0 else (indexEq a r).map (· + 1)
def appendV (a : D) (as : List D) (s : Store) : R D := match a, as with
  | .ref n, [x] => match s.get n with
    | some (.lst xs) => if xs.length < line then .ok .non (s.set n (.lst (xs ++ [x]))) else .stuck
    | _ => .stuck
  | _, _ => .stuck
def popV (a : D) (as : List D) (s : Store) : R D := match a, as with
  | .ref n, [] => match s.get n with
    | some (.lst xs) => match xs[xs.length - 1]? with
      | some y => .ok y (s.set n (.lst xs.dropLast))
      | none => .stuck
    | _ => .stuck
  | .ref n, [.int i] => match s.get n with
    | some (.lst xs) => match ixP xs.length i with
      | some j => match xs[j]? with
        | some y => .ok y (s.set n (.lst (xs.eraseIdx j)))
        | none => .stuck
      | none => .stuck
    | _ => .stuck
  | _, _ => .stuck
def extendV (a : D) (as : List D) (s : Store) : R D := match a, as with
  | .ref n, [.ref m] => match s.get n, s.get m with
    | some (.lst xs), some (.lst ys) => if xs.length + ys.length ≤ line then .ok .non (s.set n (.lst (xs ++ ys))) else .stuck
    | _, _ => .stuck
  | _, _ => .stuck
def clearV (a : D) (as : List D) (s : Store) : R D := match a, as with
  | .ref n, [] => match s.get n with
    | some (.lst _) => .ok .non (s.set n (.lst []))
    | _ => .stuck
  | _, _ => .stuck
def reverseV (a : D) (as : List D) (s : Store) : R D := match a, as with
  | .ref n, [] => match s.get n with
    | some (.lst xs) => .ok .non (s.set n (.lst xs.reverse))
    | _ => .stuck
  | _, _ => .stuck
def countV (a : D) (as : List D) (s : Store) : R D := match a, as with
  | .ref n, [x] => match s.get n with
    | some (.lst xs) => match dat 58 s x, allOpt (dat 58 s) xs with
      | some p, some ps => .ok (.int (countEq p ps)) s
      | _, _ => .stuck
    | _ => .stuck
  | _, _ => .stuck
def indexV (a : D) (as : List D) (s : Store) : R D := match a, as with
  | .ref n, [x] => match s.get n with
    | some (.lst xs) => match dat 58 s x, allOpt (dat 58 s) xs with
      | some p, some ps => ofOpt ((indexEq p ps).map .int) s
      | _, _ => .stuck
    | _ => .stuck
  | _, _ => .stuck
def getV (a : D) (as : List D) (s : Store) : R D := match a, as with
  | .ref n, [k] => match s.get n with
    | some (.dct _ kvs) => if kkOk kvs k then .ok ((lookD kvs k).getD .non) s else .stuck
    | _ => .stuck
  | .ref n, [k, x] => match s.get n with
    | some (.dct _ kvs) => if kkOk kvs k then .ok ((lookD kvs k).getD x) s else .stuck
    | _ => .stuck
  | _, _ => .stuck
def joinV (a : D) (as : List D) (s : Store) : R D := match a, as with
  | .str z, [.ref n] => match lists? s n with
    | some xs => match allOpt strOf xs with
      | some ts => if (ts.map (·.length)).sum + ts.length * z.length ≤ line then .ok (.str (joinS z ts)) s else .stuck
      | none => .stuck
    | none => .stuck
  | _, _ => .stuck
def bmV (m : Bm) (a : D) (as : List D) (s : Store) : R D := match m with
  | .append => appendV a as s
  | .pop => popV a as s
  | .extend => extendV a as s
  | .clear => clearV a as s
  | .reverse => reverseV a as s
  | .count => countV a as s
  | .index => indexV a as s
  | .get => getV a as s
  | .join => joinV a as s
  | .split => .stuck
  | .replace => .stuck

/-- what a method is asked of -/
def recvOk (m : Bm) (x : D) (s : Store) : Bool := match m with
  | .append | .pop | .extend | .clear | .reverse | .count | .index => match x with
    | .ref n => match s.get n with | some (.lst _) => true | _ => false
    | _ => false
  | .get => match x with
    | .ref n => match s.get n with | some (.dct _ _) => true | _ => false
    | _ => false
  | .join | .split | .replace => match x with
    | .str _ => true
    | _ => false
/-- the i-th thing of what is walked -/
inductive Nxt where
  | stop
  | item (d : D)
  | bad
def nth {α : Type} (xs : List α) (i : Nat) (f : α → D) : Nxt := match xs[i]? with
  | some x => .item (f x)
  | none => .stop
def itVal (d : D) (i : Nat) (s : Store) : Nxt := match d with
  | .tup xs => nth xs i id
  | .str x => nth x i fun c => .str [c]
  | .ref n => match s.get n with
    | some (.lst xs) => nth xs i id
    | some (.flst xs) => nth xs i id
    | _ => .bad
  | _ => .bad
def itAt (k : Itk) (ds : List D) (i : Nat) (s : Store) : Nxt := match k, ds with
  | .val, [d] => itVal d i s
  | .rng, [.int n] => if -4611686018427387904 ≤ n ∧ n < 4611686018427387904 then (if (i : Int) < n then .item (.int i) else .stop) else .bad
  | .enum, [d] => match d with
    | .ref n => match s.get n with
      | some (.lst xs) => nth xs i fun x => .tup [.int i, x]
      | _ => .bad
    | .tup xs => nth xs i fun x => .tup [.int i, x]
    | .str xs => nth xs i fun c => .tup [.int i, .str [c]]
    | _ => .bad
  | .zip, [a, b] => match a, b with
    | .tup xs, .tup ys => match xs[i]?, ys[i]? with
      | some x, some y => .item (.tup [x, y])
      | _, _ => .stop
    | _, _ => .bad
  | .items, [.ref n] => match s.get n with
    | some (.dct true kvs) => nth kvs i fun p => .tup [p.1, p.2]
    | _ => .bad
  | .values, [.ref n] => match s.get n with
    | some (.dct true kvs) => nth kvs i (·.2)
    | _ => .bad
  | _, _ => .bad
/-- which dict is locked by a walk, and what it was -/
def lockOf (k : Itk) (ds : List D) (s : Store) : Option (Nat × List (D × D)) := match ds with
  | [.ref n] => match s.get n with
    | some (.dct false kvs) => some (n, kvs)
    | _ => none
  | _ => none
def lock (l : Option (Nat × List (D × D))) (s : Store) : Store := match l with
  | some (n, kvs) => s.set n (.dct true kvs)
  | none => s
def unlock (l : Option (Nat × List (D × D))) (s : Store) : Store := match l with
  | some (n, kvs) => s.set n (.dct false kvs)
  | none => s
def R.unl {α : Type} (l : Option (Nat × List (D × D))) : R α → R α
  | .ok a s => .ok a (unlock l s)
  | .exc c x s => .exc c x (unlock l s)
  | .stuck => .stuck

abbrev Env := List (Option D)
def setTg (t : Tg) (d : D) (env : Env) : Option Env := match t with
  | .nm i => some (env.set i (some d))
  | .tp is => match d with
    | .tup xs => if xs.length = is.length then some ((is.zip xs).foldl (fun e p => e.set p.1 (some p.2)) env) else none
    | _ => none
def wipeE (env : Env) : List Nat → Env
  | [] => env
  | v :: vs => (wipeE env vs).set v none

/-- a turn after another: f hands on an accumulator -/
def walk {α : Type} (k : Itk) (ds : List D) (f : D → α → Store → R α) : Nat → Nat → α → Store → R α
  | 0, _, _, _ => .stuck
  | n + 1, i, a, s => match itAt k ds i s with
    | .bad => .stuck
    | .stop => .ok a s
    | .item d => (f d a s).bind fun a' s' => walk k ds f n (i + 1) a' s'

/-- what a program has: its defs' bodies, its classes' methods -/
structure Fn where
  np : Nat
  nn : Nat
  body : Ss
structure Cl where
  init : Nat
  ms : List (Nat × Nat)
  eq : Option Nat
structure Tbl where
  fns : List Fn
  cls : List Cl

abbrev Caller := Nat → List D → Store → R D
def boolOf (d : D) (s : Store) : R Bool := match d with
  | .bl b => .ok b s
  | _ => .stuck
/-- the class of an instance -/
def clsAt (s : Store) : D → Option Nat
  | .ref n => match s.get n with | some (.ins c _) => some c | _ => none
  | _ => none

def lookF (fs : List (Nat × D)) (n : Nat) : Option D := match fs with
  | [] => none
  | p :: r => if p.1 = n then some p.2 else lookF r n
def putF (fs : List (Nat × D)) (n : Nat) (v : D) : List (Nat × D) := match fs with
  | [] => [(n, v)]
  | p :: r => if p.1 = n then (n, v) :: r else p :: putF r n v

/-- what a star hands on -/
def starOf (x : D) (s : Store) : Option (List D) := match x with
  | .tup xs => some xs
  | .ref n => match s.get n with
    | some (.lst xs) => some xs
    | _ => none
  | _ => none
def setItemV (a i v : D) (s : Store) : R Unit := match a with
  | .ref n => match s.get n with
    | some (.lst xs) => match i with
      | .int i => match ixP xs.length i with
        | some j => .ok () (s.set n (.lst (xs.set j v)))
        | none => .stuck
      | _ => .stuck
    | some (.dct false kvs) => if kkOk kvs i && decide (kvs.length < line) then .ok () (s.set n (.dct false (putD kvs i v))) else .stuck
    | _ => .stuck
  | _ => .stuck
/-- the pairs of a display are put in -/
def mkDict : List D → Nat → Store → R D
  | [], n, s => .ok (.ref n) s
  | [_], _, _ => .stuck
  | k :: v :: r, n, s => (setItemV (.ref n) k v s).bind fun _ s => mkDict r n s
/-- a comparison, by an own __eq__ where there is one -/
def cmpC (T : Tbl) (call : Caller) (o : Cop) (x y : D) (s : Store) : R D := match clsAt s x, o with
  | some c, .eq => match (T.cls[c]?).bind (·.eq) with
    | some f => call f [x, y] s
    | none => .stuck
  | some c, .ne => match (T.cls[c]?).bind (·.eq) with
    | some f => (call f [x, y] s).bind fun r s => (boolOf r s).bind fun k s => .ok (.bl !k) s
    | none => .stuck
  | _, _ => cmpV o x y s

mutual
def evE (T : Tbl) (F : Nat) (call : Caller) : Ex → Env → Store → R D
  | .c d, _, s => .ok d s
  | .v i, env, s => match env[i]? with
    | some (some d) => .ok d s
    | _ => .stuck
  | .tup es, env, s => (evX T F call es env s).bind fun ds s => if ds.length ≤ line then .ok (.tup ds) s else .stuck
  | .lst es, env, s => (evX T F call es env s).bind fun ds s => if ds.length ≤ line then .ok (.ref s.sz) (s.add (.lst ds)) else .stuck
  | .dct es, env, s => (evX T F call es env s).bind fun ds s => mkDict ds s.sz (s.add (.dct false []))
  | .bin o a b, env, s => (evE T F call a env s).bind fun x s => (evE T F call b env s).bind fun y s => binV o x y s
  | .cmp o a b, env, s => (evE T F call a env s).bind fun x s => (evE T F call b env s).bind fun y s => cmpC T call o x y s
  | .chain o p a b c, env, s => (evE T F call a env s).bind fun x s => (evE T F call b env s).bind fun y s => (cmpV o x y s).bind fun r s =>
      (boolOf r s).bind fun k s => if k then (evE T F call c env s).bind fun z s => cmpV p y z s else .ok (.bl false) s
  | .and a b, env, s => (evE T F call a env s).bind fun x s => (boolOf x s).bind fun k s => if k then evE T F call b env s else .ok (.bl false) s
  | .or a b, env, s => (evE T F call a env s).bind fun x s => (boolOf x s).bind fun k s => if k then .ok (.bl true) s else evE T F call b env s
  | .not a, env, s => (evE T F call a env s).bind fun x s => (boolOf x s).bind fun k s => .ok (.bl !k) s
  | .neg a, env, s => (evE T F call a env s).bind fun x s => match x with
    | .int i => .ok (.int (-i)) s
    | _ => .stuck
  | .ite c a b, env, s => (evE T F call c env s).bind fun x s => (boolOf x s).bind fun k s => if k then evE T F call a env s else evE T F call b env s
  | .sub a i, env, s => (evE T F call a env s).bind fun x s => (evE T F call i env s).bind fun y s => subV x y s
  | .sl a hl lo hh hi, env, s => (evE T F call a env s).bind fun x s => (if hl then (evE T F call lo env s).bind partV else .ok none s).bind fun l s => (if hh then (evE T F call hi env s).bind partV else .ok none s).bind fun h s => slV x l h s
  | .rev a, env, s => (evE T F call a env s).bind fun x s => revV x s
  | .call f es, env, s => (evX T F call es env s).bind fun ds s => call f ds s
  | .make c es, env, s => (evX T F call es env s).bind fun ds s => match T.cls[c]? with
    | some k => (call k.init (.ref s.sz :: ds) (s.add (.ins c []))).bind fun r s' => match r with
      | .non => .ok (.ref s.sz) s'
      | _ => .stuck
    | none => .stuck
  | .fld a n, env, s => (evE T F call a env s).bind fun x s => match x with
    | .ref m => match s.get m with
      | some (.ins _ fs) => ofOpt (lookF fs n) s
      | _ => .stuck
    | _ => .stuck
  | .meth a m es, env, s => (evE T F call a env s).bind fun x s => match clsAt s x with
    | some c => match T.cls[c]? with
      | some k => match k.ms.lookup m with
        | some f => (evX T F call es env s).bind fun ds s => call f (x :: ds) s
        | none => .stuck
      | none => .stuck
    | none => .stuck
  | .blt b es, env, s => (evX T F call es env s).bind fun ds s => bltV b ds s
  | .bm m a es, env, s => (evE T F call a env s).bind fun x s => if recvOk m x s then (evX T F call es env s).bind fun ds s => bmV m x ds s else .stuck
  | .wget kvs i, env, s => (evE T F call i env s).bind fun x s => ofOpt (lookD kvs x) s
  | .lc own t k es cond elt, env, s => (evX T F call es env s).bind fun ds s =>
      R.unl (lockOf k ds s) ((walk k ds (fun d acc s => match setTg t d (wipeE env own) with
        | some e => (evE T F call cond e s).bind fun x s => (boolOf x s).bind fun b s =>
            if b then (evE T F call elt e s).bind fun y s => if acc.length < line then .ok (acc ++ [y]) s else .stuck else .ok acc s
        | none => .stuck) F 0 [] (lock (lockOf k ds s) s)).noexc.bind fun acc s => .ok (.ref s.sz) (s.add (.lst acc)))
  | .lc2 own t k es t2 k2 es2 elt, env, s => (evX T F call es env s).bind fun ds s =>
      R.unl (lockOf k ds s) ((walk k ds (fun d acc s => match setTg t d (wipeE env own) with
        | some e => (evX T F call es2 e s).bind fun ds2 s => walk k2 ds2 (fun d2 acc s => match setTg t2 d2 e with
            | some e2 => (evE T F call elt e2 s).bind fun y s => if acc.length < line then .ok (acc ++ [y]) s else .stuck
            | none => .stuck) F 0 acc s
        | none => .stuck) F 0 [] (lock (lockOf k ds s) s)).noexc.bind fun acc s => .ok (.ref s.sz) (s.add (.lst acc)))
  | .dc own t k es cond key val, env, s => (evX T F call es env s).bind fun ds s =>
      R.unl (lockOf k ds s) ((walk k ds (fun d acc s => match setTg t d (wipeE env own) with
        | some e => (evE T F call cond e s).bind fun x s => (boolOf x s).bind fun b s =>
            if b then (evE T F call key e s).bind fun x s => (evE T F call val e s).bind fun y s => if kkOk acc x && decide (acc.length < line) then .ok (putD acc x y) s else .stuck else .ok acc s
        | none => .stuck) F 0 [] (lock (lockOf k ds s) s)).noexc.bind fun acc s => .ok (.ref s.sz) (s.add (.dct false acc)))
def evX (T : Tbl) (F : Nat) (call : Caller) : Xs → Env → Store → R (List D)
  | .nil, _, s => .ok [] s
  | .cons st e r, env, s => (evE T F call e env s).bind fun x s =>
      if st then match starOf x s with
        | some xs => (evX T F call r env s).bind fun ys s => .ok (xs ++ ys) s
        | none => .stuck
      else (evX T F call r env s).bind fun ys s => .ok (x :: ys) s
end

/-- how a statement ends -/
inductive Fl where
  | nx (e : Env)
  | rt (d : D)
mutual
def asgI (T : Tbl) (F : Nat) (call : Caller) : As → D → Env → Store → R Env
  | .nm i, d, env, s => .ok (env.set i (some d)) s
  | .sub a i, d, env, s => (evE T F call a env s).bind fun x s => (evE T F call i env s).bind fun y s => (setItemV x y d s).bind fun _ s => .ok env s
  | .fld a n, d, env, s => (evE T F call a env s).bind fun x s => match x with
    | .ref m => match s.get m with
      | some (.ins c fs) => if fs.length < 900 then .ok env (s.set m (.ins c (putF fs n d))) else .stuck
      | _ => .stuck
    | _ => .stuck
  | .tp ts, d, env, s => match d with
    | .tup xs => if xs.length = ts.len then asgs T F call ts xs env s else .stuck
    | _ => .stuck
def asgs (T : Tbl) (F : Nat) (call : Caller) : Ats → List D → Env → Store → R Env
  | .nil, [], env, s => .ok env s
  | .cons t r, x :: xs, env, s => (asgI T F call t x env s).bind fun env s => asgs T F call r xs env s
  | .nil, _ :: _, _, _ => .stuck
  | .cons .., [], _, _ => .stuck
end
def setAll : List Nat → List D → Env → Env
  | i :: is, d :: ds, env => setAll is ds (env.set i (some d))
  | _, _, env => env
def loop (c : Env → Store → R Bool) (b : Env → Store → R Fl) : Nat → Env → Store → R Fl
  | 0, _, _ => .stuck
  | n + 1, env, s => (c env s).bind fun k s => if k then (b env s).bind fun f s => match f with
      | .nx env => loop c b n env s
      | .rt d => .ok (.rt d) s
    else .ok (.nx env) s
def turns (k : Itk) (ds : List D) (f : D → Env → Store → R Fl) : Nat → Nat → Env → Store → R Fl
  | 0, _, _, _ => .stuck
  | n + 1, i, env, s => match itAt k ds i s with
    | .bad => .stuck
    | .stop => .ok (.nx env) s
    | .item d => (f d env s).bind fun fl s => match fl with
      | .nx env => turns k ds f n (i + 1) env s
      | .rt d => .ok (.rt d) s
mutual
def exS (T : Tbl) (F : Nat) (call : Caller) : St → Env → Store → R Fl
  | .ex e, env, s => (evE T F call e env s).bind fun _ s => .ok (.nx env) s
  | .asg t e, env, s => (evE T F call e env s).bind fun d s => (asgI T F call t d env s).bind fun env s => .ok (.nx env) s
  | .par is es, env, s => (evX T F call es env s).bind fun ds s => if ds.length = is.length then .ok (.nx (setAll is ds env)) s else .stuck
  | .aug i e, env, s => match env[i]? with
    | some (some x) => (evE T F call e env s).bind fun y s => match x, y with
      | .int a, .int b => .ok (.nx (env.set i (some (.int (a + b))))) s
      | _, _ => .stuck
    | _ => .stuck
  | .ite c a b, env, s => (evE T F call c env s).bind fun x s => (boolOf x s).bind fun k s => if k then exSs T F call a env s else exSs T F call b env s
  | .whl c b, env, s => loop (fun env s => (evE T F call c env s).bind fun x s => boolOf x s) (fun env s => exSs T F call b env s) F env s
  | .for t k es b, env, s => (evX T F call es env s).bind fun ds s =>
      R.unl (lockOf k ds s) (turns k ds (fun d env s => match setTg t d env with
        | some e => exSs T F call b e s
        | none => .stuck) F 0 env (lock (lockOf k ds s) s))
  | .ret e, env, s => (evE T F call e env s).bind fun d s => .ok (.rt d) s
  | .bad, _, _ => .stuck
def exSs (T : Tbl) (F : Nat) (call : Caller) : Ss → Env → Store → R Fl
  | .nil, env, s => .ok (.nx env) s
  | .cons st r, env, s => (exS T F call st env s).bind fun f s => match f with
    | .nx env => exSs T F call r env s
    | .rt d => .ok (.rt d) s
end

def entry (nn : Nat) (as : List D) : Env := as.map some ++ List.replicate (nn - as.length) none
/-- a call, to a depth -/
def callI (T : Tbl) (F : Nat) : Nat → Caller
  | 0, _, _, _ => .stuck
  | n + 1, f, as, s => match T.fns[f]? with
    | some fn => if as.length = fn.np then (exSs T F (callI T F n) fn.body (entry fn.nn as) s).bind fun fl s => match fl with
        | .nx _ => .ok .non s
        | .rt d => .ok d s
      else .stuck
    | none => .stuck
end VI
/-! VIb: what the evaluator's data stand for on the machine. -/
namespace VI
open PySem PySem.Spec PyProof.Rows L2

def toS (x : List Nat) : Str := ⟨x.toArray⟩
theorem toS_len (x : List Nat) : (toS x).length = x.length := by simp [toS, Str.length]
theorem toS_list (x : List Nat) : (toS x).cps.toList = x := by simp [toS]
theorem toS_inj {x y : List Nat} (h : toS x = toS y) : x = y := by
  have := congrArg (fun z : Str => z.cps.toList) h
  simpa [toS] using this
theorem toS_app (x y : List Nat) : toS x ++ toS y = toS (x ++ y) := by
  show Str.append _ _ = _
  simp [Str.append, toS]

/-- where the classes stand, what the attributes are called -/
structure Nm where
  cA : List Addr
  aN : List Str

mutual
inductive Rep (K : PySem.W.Frag) (ρ : List Addr) (H : Hp) : D → V → Prop
  | non : Rep K ρ H .non .non
  | bl (b : Bool) : Rep K ρ H (.bl b) (.bl b)
  | int (i : Int) : Rep K ρ H (.int i) (.int i)
  | str (x : List Nat) : Rep K ρ H (.str x) (.str (toS x))
  | tup {xs : List D} {a : Addr} {vs : List V} : SqT K H a vs → Reps K ρ H xs vs → Rep K ρ H (.tup xs) (.ref a)
  | ref {n : Nat} {a : Addr} : ρ[n]? = some a → Rep K ρ H (.ref n) (.ref a)
inductive Reps (K : PySem.W.Frag) (ρ : List Addr) (H : Hp) : List D → List V → Prop
  | nil : Reps K ρ H [] []
  | cons {x : D} {v : V} {xs : List D} {vs : List V} : Rep K ρ H x v → Reps K ρ H xs vs → Reps K ρ H (x :: xs) (v :: vs)
end

/-- a key that is an int or a text -/
def leafK : D → Option Key
  | .int i => some (.inl i)
  | .str x => some (.inr (toS x))
  | _ => none
mutual
/-- a key as the library has it -/
def nkey : D → NestedKey
  | .non => .none
  | .bl b => .num (if b = true then 1 else 0)
  | .int i => .num i
  | .str x => .text (toS x)
  | .tup xs => .tup (nkeys xs)
  | .ref _ => .none
def nkeys : List D → List NestedKey
  | [] => []
  | x :: xs => nkey x :: nkeys xs
end
/-- a dict's entries, by its own object alone -/
def rawD (P : Program) (w : World) (a : Addr) (xs : List (NestedKey × Addr × Value)) (h : Heap) : Prop :=
  ∃ o es ep, h.get? a = some o ∧ o.ExactDict ∧ o.data = .dict es ep ∧ es.toList = xs.map (entryOfKey (nestedKind P w))
/-- the pairs of a dict with int and text keys -/
def LPairs (K : PySem.W.Frag) (ρ : List Addr) (H : Hp) : List (D × D) → List (Key × V) → Prop := Paired fun p q => leafK p.1 = some q.1 ∧ Rep K ρ H p.2 q.2
/-- .. with tuple keys -/
def TPairs (K : PySem.W.Frag) (ρ : List Addr) (H : Hp) : List (D × D) → List (NestedKey × Addr × Value) → Prop :=
  Paired fun p q => kk p.1 = 2 ∧ q.1 = nkey p.1 ∧ Rep K ρ H p.1 (.ref q.2.1) ∧ ∃ v, RelV v q.2.2 ∧ Rep K ρ H p.2 v
/-- what is written at an address, open or locked -/
def At (H : Hp) (lk : Bool) (a : Addr) (u : HO) : Prop := if lk = true then ∃ o, H a = some (.frz o u) else H a = some u
def DRep (P : Program) (w : World) (K : PySem.W.Frag) (ρ : List Addr) (H : Hp) (lk : Bool) (kvs : List (D × D)) (a : Addr) : Prop :=
  kvs.length ≤ sizeLine ∧ (a == sysModules) = false ∧
  ((∃ kv, At H lk a (.dK kv) ∧ LPairs K ρ H kvs kv) ∨ (kvs ≠ [] ∧ ∃ xs, At H lk a (.ext (rawD P w a xs)) ∧ TPairs K ρ H kvs xs ∧ (xs.map (·.1)).Nodup))
def FRep (nm : Nm) (K : PySem.W.Frag) (ρ : List Addr) (H : Hp) : List (Nat × D) → List (Str × V) → Prop :=
  Paired fun p q => nm.aN[p.1]? = some q.1 ∧ Rep K ρ H p.2 q.2
def ORep (nm : Nm) (P : Program) (w : World) (K : PySem.W.Frag) (ρ : List Addr) (H : Hp) : Ob → Addr → Prop
  | .lst xs, a => ∃ vs, H a = some (.lst vs) ∧ Reps K ρ H xs vs
  | .flst xs, a => ∃ o vs, H a = some (.frz o (.lst vs)) ∧ Reps K ρ H xs vs
  | .dct lk kvs, a => DRep P w K ρ H lk kvs a
  | .ins c fs, a => ∃ C dx fv, nm.cA[c]? = some C ∧ H a = some (.ins C dx fv) ∧ FRep nm K ρ H fs fv
structure SRel (nm : Nm) (P : Program) (w : World) (K : PySem.W.Frag) (ρ : List Addr) (H : Hp) (st : Store) : Prop where
  nd : ρ.Nodup
  sz : st.sz = ρ.length
  ob : ∀ (n : Nat) (a : Addr), ρ[n]? = some a → ∃ o, st.get n = some o ∧ ORep nm P w K ρ H o a

/-- from one moment to a later one -/
structure Step (ρ : List Addr) (H : Hp) (ρ' : List Addr) (H' : Hp) : Prop where
  ext : ∀ (n : Nat) (a : Addr), ρ[n]? = some a → ρ'[n]? = some a
  keep : ∀ a o, H a = some o → a ∉ ρ → H' a = some o ∧ a ∉ ρ'
theorem Step.refl (ρ : List Addr) (H : Hp) : Step ρ H ρ H := ⟨fun _ _ h => h, fun _ _ h n => ⟨h, n⟩⟩
theorem Step.trans {ρ ρ1 ρ2 : List Addr} {H H1 H2 : Hp} (a : Step ρ H ρ1 H1) (b : Step ρ1 H1 ρ2 H2) : Step ρ H ρ2 H2 :=
  ⟨fun n x h => b.ext n x (a.ext n x h), fun x o h n => let ⟨h1, n1⟩ := a.keep x o h n; b.keep x o h1 n1⟩

section
variable {nm : Nm} {P : Program} {w : World} {K : PySem.W.Frag} {ρ ρ' : List Addr} {H H' : Hp} {st : Store}
/-- what an address of the store may hold -/
theorem SRel.kind (S : SRel nm P w K ρ H st) {a : Addr} (h : a ∈ ρ) : ∃ o, H a = some o ∧ (∀ xs, o ≠ .tup xs) ∧ (∀ u xs, o ≠ .frz u (.tup xs)) ∧ ∀ x, o ≠ .own x := by
  obtain ⟨n, hn⟩ := List.getElem?_of_mem h
  obtain ⟨o, _, r⟩ := S.ob n a hn
  cases o with
  | lst xs => obtain ⟨vs, e, _⟩ := r; exact ⟨_, e, (fun _ z => by cases z), (fun _ _ z => by cases z), (fun _ z => by cases z)⟩
  | flst xs => obtain ⟨u, vs, e, _⟩ := r; exact ⟨_, e, (fun _ z => by cases z), (fun _ _ z => by cases z), (fun _ z => by cases z)⟩
  | dct lk kvs =>
    obtain ⟨_, _, r⟩ := r
    rcases r with ⟨kv, e, _⟩ | ⟨_, xs, e, _⟩
    · cases lk with
      | false => exact ⟨_, e, (fun _ z => by cases z), (fun _ _ z => by cases z), (fun _ z => by cases z)⟩
      | true => obtain ⟨u, e⟩ := e; exact ⟨_, e, (fun _ z => by cases z), (fun _ _ z => by cases z), (fun _ z => by cases z)⟩
    · cases lk with
      | false => exact ⟨_, e, (fun _ z => by cases z), (fun _ _ z => by cases z), (fun _ z => by cases z)⟩
      | true => obtain ⟨u, e⟩ := e; exact ⟨_, e, (fun _ z => by cases z), (fun _ _ z => by cases z), (fun _ z => by cases z)⟩
  | ins c fs => obtain ⟨C, dx, fv, _, e, _⟩ := r; exact ⟨_, e, (fun _ z => by cases z), (fun _ _ z => by cases z), (fun _ z => by cases z)⟩
theorem SRel.notup (S : SRel nm P w K ρ H st) {a : Addr} {xs : List V} (h : Rd H a (.tup xs)) : a ∉ ρ := fun hm => by
  obtain ⟨o, e, h1, h2, _⟩ := S.kind hm
  rcases h with h | ⟨u, h⟩
  · rw [e] at h; exact h1 _ (Option.some.inj h)
  · rw [e] at h; exact h2 _ _ (Option.some.inj h)
theorem SRel.live (S : SRel nm P w K ρ H st) {a : Addr} (h : a ∈ ρ) : H a ≠ none := by
  obtain ⟨o, e, _⟩ := S.kind h
  rw [e]; intro z; cases z
theorem Step.tup (S : SRel nm P w K ρ H st) (h : Step ρ H ρ' H') {a : Addr} {xs : List V} (q : SqT K H a xs) : SqT K H' a xs := by
  rcases q with q | q
  · have hn := S.notup q
    rcases q with q | ⟨o, q⟩
    · exact .inl (.inl (h.keep a _ q hn).1)
    · exact .inl (.inr ⟨o, (h.keep a _ q hn).1⟩)
  · exact .inr q
mutual
theorem Rep.mono (S : SRel nm P w K ρ H st) (h : Step ρ H ρ' H') : ∀ (d : D) (v : V), Rep K ρ H d v → Rep K ρ' H' d v
  | .non, _, .non => .non
  | .bl b, _, .bl _ => .bl b
  | .int i, _, .int _ => .int i
  | .str x, _, .str _ => .str x
  | .tup xs, _, .tup q r => .tup (h.tup S q) (Reps.mono S h xs _ r)
  | .ref n, _, .ref q => .ref (h.ext n _ q)
theorem Reps.mono (S : SRel nm P w K ρ H st) (h : Step ρ H ρ' H') : ∀ (d : List D) (v : List V), Reps K ρ H d v → Reps K ρ' H' d v
  | [], _, .nil => .nil
  | x :: xs, _, .cons a b => .cons (Rep.mono S h x _ a) (Reps.mono S h xs _ b)
end
theorem Reps.length : ∀ {d : List D} {v : List V}, Reps K ρ H d v → d.length = v.length
  | [], _, .nil => rfl
  | _ :: _, _, .cons _ b => congrArg (· + 1) (Reps.length b)
theorem Reps.append : ∀ {d e : List D} {v u : List V}, Reps K ρ H d v → Reps K ρ H e u → Reps K ρ H (d ++ e) (v ++ u)
  | [], _, _, _, .nil, q => q
  | _ :: _, _, _, _, .cons a b, q => .cons a (Reps.append b q)
theorem Reps.get : ∀ {d : List D} {v : List V} {i : Nat} {x : D}, Reps K ρ H d v → d[i]? = some x → ∃ u, v[i]? = some u ∧ Rep K ρ H x u
  | [], _, _, _, .nil, e => by simp at e
  | _ :: _, _, 0, _, .cons a _, e => by simp at e; subst e; exact ⟨_, rfl, a⟩
  | _ :: _, _, i + 1, x, .cons _ b, e => by
    obtain ⟨u, h1, h2⟩ := Reps.get (i := i) (x := x) b (by simpa using e)
    exact ⟨u, by simpa using h1, h2⟩
theorem Reps.getV : ∀ {d : List D} {v : List V} {i : Nat} {u : V}, Reps K ρ H d v → v[i]? = some u → ∃ x, d[i]? = some x ∧ Rep K ρ H x u
  | [], _, _, _, .nil, e => by simp at e
  | _ :: _, _, 0, _, .cons a _, e => by simp at e; subst e; exact ⟨_, rfl, a⟩
  | _ :: _, _, i + 1, x, .cons _ b, e => by
    obtain ⟨u, h1, h2⟩ := Reps.getV (i := i) (u := x) b (by simpa using e)
    exact ⟨u, by simpa using h1, h2⟩
theorem Reps.set {x : D} {u : V} (r : Rep K ρ H x u) : ∀ {d : List D} {v : List V} (i : Nat), Reps K ρ H d v → Reps K ρ H (d.set i x) (v.set i u)
  | _, _, _, .nil => .nil
  | _, _, 0, .cons _ t => .cons r t
  | _, _, i + 1, .cons q t => .cons q (Reps.set r i t)
theorem Reps.drop : ∀ {d : List D} {v : List V} (n : Nat), Reps K ρ H d v → Reps K ρ H (d.drop n) (v.drop n)
  | _, _, 0, r => r
  | _, _, _ + 1, .nil => .nil
  | _, _, n + 1, .cons _ t => Reps.drop n t
theorem Reps.take : ∀ {d : List D} {v : List V} (n : Nat), Reps K ρ H d v → Reps K ρ H (d.take n) (v.take n)
  | _, _, 0, _ => .nil
  | _, _, _ + 1, .nil => .nil
  | _, _, n + 1, .cons r t => .cons r (Reps.take n t)
theorem Reps.eraseIdx : ∀ {d : List D} {v : List V} (n : Nat), Reps K ρ H d v → Reps K ρ H (d.eraseIdx n) (v.eraseIdx n)
  | _, _, _, .nil => by simp; exact .nil
  | _, _, 0, .cons _ t => by simpa using t
  | _, _, n + 1, .cons r t => by simp only [List.eraseIdx_cons_succ]; exact .cons r (Reps.eraseIdx n t)
theorem Reps.reverse : ∀ {d : List D} {v : List V}, Reps K ρ H d v → Reps K ρ H d.reverse v.reverse
  | _, _, .nil => .nil
  | _, _, .cons r t => by
    simp only [List.reverse_cons]
    exact (Reps.reverse t).append (.cons r .nil)
theorem Reps.dropLast : ∀ {d : List D} {v : List V}, Reps K ρ H d v → Reps K ρ H d.dropLast v.dropLast := fun {d v} r => by
  rw [List.dropLast_eq_take, List.dropLast_eq_take, ← r.length]
  exact r.take _
theorem Reps.replicate : ∀ (n : Nat) {d : List D} {v : List V}, Reps K ρ H d v → Reps K ρ H (List.replicate n d).flatten (List.replicate n v).flatten
  | 0, _, _, _ => .nil
  | n + 1, _, _, r => by
    simp only [List.replicate_succ, List.flatten_cons]
    exact r.append (Reps.replicate n r)
theorem paired_imp {α β : Type} {F G : α → β → Prop} : ∀ {l : List α} {m : List β}, Paired F l m → (∀ a b, F a b → G a b) → Paired G l m
  | _, _, .nil, _ => .nil
  | _, _, .cons r t, f => .cons (f _ _ r) (paired_imp t f)
/-- what is not changed stays what it was -/
theorem ORep.mono (S : SRel nm P w K ρ H st) (h : Step ρ H ρ' H') {o : Ob} {a : Addr} (e : H' a = H a) (r : ORep nm P w K ρ H o a) : ORep nm P w K ρ' H' o a := by
  cases o with
  | lst xs => obtain ⟨vs, q, r⟩ := r; exact ⟨vs, e.trans q, Reps.mono S h _ _ r⟩
  | flst xs => obtain ⟨u, vs, q, r⟩ := r; exact ⟨u, vs, e.trans q, Reps.mono S h _ _ r⟩
  | dct lk kvs =>
    obtain ⟨z, y, r⟩ := r
    have hat : ∀ u, At H lk a u → At H' lk a u := fun u q => by
      unfold At at q ⊢
      rw [e]; exact q
    refine ⟨z, y, ?_⟩
    rcases r with ⟨kv, q, r⟩ | ⟨ne, xs, q, r, n⟩
    · exact .inl ⟨kv, hat _ q, paired_imp r fun p q z => ⟨z.1, Rep.mono S h _ _ z.2⟩⟩
    · exact .inr ⟨ne, xs, hat _ q, paired_imp r fun p q z => ⟨z.1, z.2.1, Rep.mono S h _ _ z.2.2.1, let ⟨v, h1, h2⟩ := z.2.2.2; ⟨v, h1, Rep.mono S h _ _ h2⟩⟩, n⟩
  | ins c fs => obtain ⟨C, dx, fv, c1, q, r⟩ := r; exact ⟨C, dx, fv, c1, e.trans q, paired_imp r fun p q z => ⟨z.1, Rep.mono S h _ _ z.2⟩⟩

/-! ### the store grows, an object is changed -/
theorem get_app {ρ : List Addr} {p a : Addr} {n : Nat} (h : (ρ ++ [p])[n]? = some a) : (n < ρ.length ∧ ρ[n]? = some a) ∨ (n = ρ.length ∧ a = p) := by
  by_cases hn : n < ρ.length
  · rw [List.getElem?_append_left hn] at h; exact .inl ⟨hn, h⟩
  · rw [List.getElem?_append_right (by omega)] at h
    have : n - ρ.length = 0 := by
      cases q : n - ρ.length with
      | zero => rfl
      | succ m => rw [q] at h; simp at h
    rw [this] at h
    simp at h
    exact .inr ⟨by omega, h.symm⟩
/-- a new object p, tracked as o, is put at the store's end; hH: only p differs -/
theorem SRel.grow (S : SRel nm P w K ρ H st) {p : Addr} {ob : Ob} (hp : H p = none) (hs : ∀ a, a ≠ p → H a ≠ none → H' a = H a) (r : Step ρ H (ρ ++ [p]) H' → ORep nm P w K (ρ ++ [p]) H' ob p) (hne : H' p ≠ none := by rw [upd_same]; intro z; cases z) :
    SRel nm P w K (ρ ++ [p]) H' (st.add ob) ∧ Step ρ H (ρ ++ [p]) H' := by
  have hnp : p ∉ ρ := fun z => S.live z hp
  have stp : Step ρ H (ρ ++ [p]) H' := ⟨fun n a h => by rw [List.getElem?_append_left (List.getElem?_eq_some_iff.mp h).1]; exact h, fun a o h n => by
    have ne : a ≠ p := ne_of_none h hp
    refine ⟨(hs a ne (by rw [h]; intro z; cases z)).trans h, fun z => ?_⟩
    rcases List.mem_append.mp z with z | z
    · exact n z
    · exact ne (by simpa using z)⟩
  refine ⟨⟨?_, ?_, fun n a h => ?_⟩, stp⟩
  · rw [List.nodup_append]
    refine ⟨S.nd, by simp, fun a ha b hb => ?_⟩
    simp at hb
    subst hb
    exact fun e => hnp (e ▸ ha)
  · rw [Store.add_sz, S.sz]; simp
  · rcases get_app h with ⟨hl, h⟩ | ⟨rfl, rfl⟩
    · obtain ⟨o, g, q⟩ := S.ob n a h
      refine ⟨o, ?_, ?_⟩
      · rw [Store.get_add_ne (by rw [S.sz]; omega)]; exact g
      · have hm : a ∈ ρ := List.mem_of_getElem? h
        have ne : a ≠ p := fun e => hnp (e ▸ hm)
        exact ORep.mono S stp (hs a ne (S.live hm)) q
    · refine ⟨ob, ?_, r stp⟩
      rw [← S.sz]
      exact Store.get_add_self
/-- the object at the n-th place is changed -/
theorem SRel.change (S : SRel nm P w K ρ H st) {n : Nat} {a : Addr} {ob : Ob} (ha : ρ[n]? = some a) (hs : ∀ b, b ≠ a → H' b = H b) (r : Step ρ H ρ H' → ORep nm P w K ρ H' ob a) :
    SRel nm P w K ρ H' (st.set n ob) ∧ Step ρ H ρ H' := by
  have hm : a ∈ ρ := List.mem_of_getElem? ha
  have stp : Step ρ H ρ H' := ⟨fun _ _ h => h, fun b o h nb => by
    have ne : b ≠ a := fun e => nb (e ▸ hm)
    exact ⟨(hs b ne).trans h, nb⟩⟩
  have hlt : n < st.sz := by rw [S.sz]; exact (List.getElem?_eq_some_iff.mp ha).1
  refine ⟨⟨S.nd, by rw [Store.set_sz, S.sz], fun m b h => ?_⟩, stp⟩
  by_cases e : m = n
  · subst e
    rw [ha] at h
    cases h
    exact ⟨ob, Store.get_set_self hlt, r stp⟩
  · obtain ⟨o, g, q⟩ := S.ob m b h
    refine ⟨o, ?_, ?_⟩
    · rw [Store.get_set_ne e]; exact g
    · refine ORep.mono S stp (hs b fun z => ?_) q
      subst z
      obtain ⟨h1, e1⟩ := List.getElem?_eq_some_iff.mp ha
      obtain ⟨h2, e2⟩ := List.getElem?_eq_some_iff.mp h
      exact e ((List.getElem_inj S.nd).mp (e2.trans e1.symm))
end
end VI
/-! VIc: results, and operations by values. -/
namespace VI
open PySem PySem.Spec PyProof.Rows L2

/-- what the program has, as it stands on the machine -/
structure Md where
  nm : Nm
  T : Tbl
  F : Nat
  call : Caller
  /-- where the exceptions' classes stand -/
  xA : List Addr

def XRep (K : PySem.W.Frag) (ρ : List Addr) (H : Hp) (x : D) (o : Option Addr) : Prop :=
  (x = .non ∧ o = none) ∨ ∃ d v, o = some d ∧ H d = some (.xd [("row", v)]) ∧ Rep K ρ H x v

section
variable (m : Md) (E : XK) (X : Cx)
abbrev Rel (ρ : List Addr) (H : Hp) (st : Store) : Prop := SRel m.nm X.prog X.w X.K ρ H st
/-- what is wanted behind a result -/
def Fin {α β : Type} (ρ : List Addr) (H : Hp) (r : R α) (rep : List Addr → Hp → α → β → Prop) (Q : β → Hp → Prop) : Prop := match r with
  | .ok a st => ∀ ρ' H' b, Step ρ H ρ' H' → Rel m X ρ' H' st → rep ρ' H' a b → Q b H'
  | .exc c x st => ∀ ρ' H' o C, Step ρ H ρ' H' → Rel m X ρ' H' st → m.xA[c]? = some C → XRep X.K ρ' H' x o → E (.ref C) o H'
  | .stuck => False
abbrev rD (ρ : List Addr) (H : Hp) (d : D) (v : V) : Prop := Rep X.K ρ H d v
abbrev rDs (ρ : List Addr) (H : Hp) (d : List D) (v : List V) : Prop := Reps X.K ρ H d v
abbrev rB (ρ : List Addr) (H : Hp) (d : Bool) (v : Bool) : Prop := v = d
structure ERel (ρ : List Addr) (H : Hp) (env : Env) (σ : L2.St) : Prop where
  len : env.length = σ.length
  at_ : ∀ (i : Nat) (d : D), env[i]? = some (some d) → ∃ v, σ[i]? = some (some v) ∧ Rep X.K ρ H d v
end

section
variable {m : Md} {E : XK} {X : Cx} {ρ ρ1 : List Addr} {H H1 : Hp} {st : Store}
theorem Fin.step {α β : Type} {r : R α} {rep : List Addr → Hp → α → β → Prop} {Q : β → Hp → Prop} (h : Fin m E X ρ H r rep Q) (s : Step ρ H ρ1 H1) : Fin m E X ρ1 H1 r rep Q := by
  cases r with
  | ok a st => exact fun ρ' H' b s' => h ρ' H' b (s.trans s')
  | exc c x st => exact fun ρ' H' o C s' => h ρ' H' o C (s.trans s')
  | stuck => exact h
theorem Fin.bind {α α2 β β2 : Type} {r : R α} {f : α → Store → R α2} {rep : List Addr → Hp → α → β → Prop} {rep2 : List Addr → Hp → α2 → β2 → Prop} {Q : β2 → Hp → Prop} {Q1 : β → Hp → Prop}
    (h : Fin m E X ρ H (r.bind f) rep2 Q) (hq : ∀ a st1 ρ1 H1 b, Step ρ H ρ1 H1 → Rel m X ρ1 H1 st1 → rep ρ1 H1 a b → Fin m E X ρ1 H1 (f a st1) rep2 Q → Q1 b H1) : Fin m E X ρ H r rep Q1 := by
  cases r with
  | ok a st => exact fun ρ' H' b s S rp => hq a st ρ' H' b s S rp (Fin.step h s)
  | exc c x st => exact h
  | stuck => exact h
theorem Fin.opt {α β : Type} {o : Option α} {rep : List Addr → Hp → α → β → Prop} {Q : β → Hp → Prop} (h : Fin m E X ρ H (ofOpt o st) rep Q) : ∃ a, o = some a ∧ Fin m E X ρ H (.ok a st) rep Q := by
  cases o with
  | none => exact h.elim
  | some a => exact ⟨a, rfl, h⟩
theorem ERel.mono {env : Env} {σ : L2.St} (S : Rel m X ρ H st) (s : Step ρ H ρ1 H1) (e : ERel X ρ H env σ) : ERel X ρ1 H1 env σ :=
  ⟨e.len, fun i d h => let ⟨v, h1, h2⟩ := e.at_ i d h; ⟨v, h1, Rep.mono S s _ _ h2⟩⟩
/-- nothing is new -/
theorem Fin.now {α β : Type} {a : α} {b : β} {rep : List Addr → Hp → α → β → Prop} {Q : β → Hp → Prop} (h : Fin m E X ρ H (.ok a st) rep Q) (S : Rel m X ρ H st) (r : rep ρ H a b) : Q b H := h ρ H b (Step.refl _ _) S r
/-- something is laid that the store doesn't hold -/
theorem SRel.other {nm : Nm} {P : Program} {w : World} {K : PySem.W.Frag} (S : SRel nm P w K ρ H st) {p : Addr} {o : HO} (hp : H p = none) : SRel nm P w K ρ (upd H p o) st ∧ Step ρ H ρ (upd H p o) := by
  have hnp : p ∉ ρ := fun z => S.live z hp
  have stp : Step ρ H ρ (upd H p o) := ⟨fun _ _ h => h, fun a u h n => ⟨by rw [upd_ne (ne_of_none h hp)]; exact h, n⟩⟩
  refine ⟨⟨S.nd, S.sz, fun n a h => ?_⟩, stp⟩
  obtain ⟨ob, g, q⟩ := S.ob n a h
  refine ⟨ob, g, ORep.mono S stp (upd_ne fun e => ?_) q⟩
  subst e
  exact hnp (List.mem_of_getElem? h)
theorem Fin.tup {xs : List D} {vs : List V} {Q : VK} (h : Fin m E X ρ H (.ok (.tup xs) st) (rD X) Q) (S : Rel m X ρ H st) (r : Reps X.K ρ H xs vs) {p : Addr} (hp : H p = none) : Q (.ref p) (upd H p (.tup vs)) := by
  obtain ⟨S', s⟩ := SRel.other (o := .tup vs) S hp
  exact h ρ _ _ s S' (.tup (SqT.of upd_same) (Reps.mono S s _ _ r))
theorem Fin.lst {xs : List D} {vs : List V} {Q : VK} (h : Fin m E X ρ H (.ok (.ref st.sz) (st.add (.lst xs))) (rD X) Q) (S : Rel m X ρ H st) (r : Reps X.K ρ H xs vs) {p : Addr} (hp : H p = none) : Q (.ref p) (upd H p (.lst vs)) := by
  obtain ⟨S', s⟩ := SRel.grow (H' := upd H p (.lst vs)) (ob := .lst xs) S hp (fun a ha _ => upd_ne ha) (fun s => ⟨vs, upd_same, Reps.mono S s _ _ r⟩)
  refine h _ _ _ s S' (.ref ?_)
  rw [S.sz, List.getElem?_append_right (Nat.le_refl _)]
  simp
/-- a list of the store is changed -/
theorem SRel.lset {nm : Nm} {P : Program} {w : World} {K : PySem.W.Frag} (S : SRel nm P w K ρ H st) {n : Nat} {a : Addr} {ys : List D} {us : List V} (ha : ρ[n]? = some a) (r : Reps K ρ H ys us) :
    SRel nm P w K ρ (upd H a (.lst us)) (st.set n (.lst ys)) ∧ (∀ vs, H a = some (.lst vs) → Step ρ H ρ (upd H a (.lst us))) := by
  obtain ⟨S', s⟩ := SRel.change (H' := upd H a (.lst us)) (ob := .lst ys) S ha (fun b hb => upd_ne hb) (fun s => ⟨us, upd_same, Reps.mono S s _ _ r⟩)
  exact ⟨S', fun _ _ => s⟩
/-- what a reference is -/
theorem SRel.lst_at {nm : Nm} {P : Program} {w : World} {K : PySem.W.Frag} (S : SRel nm P w K ρ H st) {n : Nat} {a : Addr} {xs : List D} (ha : ρ[n]? = some a) (g : st.get n = some (.lst xs)) : ∃ vs, H a = some (.lst vs) ∧ Reps K ρ H xs vs := by
  obtain ⟨o, g', r⟩ := S.ob n a ha
  rw [g] at g'; cases g'
  exact r
theorem SRel.flst_at {nm : Nm} {P : Program} {w : World} {K : PySem.W.Frag} (S : SRel nm P w K ρ H st) {n : Nat} {a : Addr} {xs : List D} (ha : ρ[n]? = some a) (g : st.get n = some (.flst xs)) : ∃ o vs, H a = some (.frz o (.lst vs)) ∧ Reps K ρ H xs vs := by
  obtain ⟨o, g', r⟩ := S.ob n a ha
  rw [g] at g'; cases g'
  exact r
theorem SRel.lists {nm : Nm} {P : Program} {w : World} {K : PySem.W.Frag} (S : SRel nm P w K ρ H st) {n : Nat} {a : Addr} {xs : List D} (ha : ρ[n]? = some a) (g : lists? st n = some xs) : ∃ vs, SqL K H a vs ∧ Reps K ρ H xs vs := by
  unfold lists? at g
  split at g
  · cases g
    obtain ⟨vs, h, r⟩ := S.lst_at ha (by assumption)
    exact ⟨vs, SqL.of h, r⟩
  · cases g
    obtain ⟨o, vs, h, r⟩ := S.flst_at ha (by assumption)
    exact ⟨vs, .inl (.inr ⟨o, h⟩), r⟩
  · cases g

/-! ### by values: what is asked -/
/-- two values -/
def R2D (m : Md) (E : XK) (X : Cx) (f : D → D → Store → R D) : R2 := fun x y H Q => ∃ ρ st d e, Rel m X ρ H st ∧ Rep X.K ρ H d x ∧ Rep X.K ρ H e y ∧ Fin m E X ρ H (f d e st) (rD X) Q
/-- some values -/
def RLD (m : Md) (E : XK) (X : Cx) (f : List D → Store → R D) : List V → Hp → VK → Prop := fun xs H Q => ∃ ρ st ds, Rel m X ρ H st ∧ Reps X.K ρ H ds xs ∧ Fin m E X ρ H (f ds st) (rD X) Q

theorem line_eq : line = sizeLine := by rw [sizeLine_eq]; rfl
theorem small64_ok {i : Int} (h : small64 i = true) : -(2 ^ 64) < i ∧ i < 2 ^ 64 := by
  unfold small64 at h
  simp only [Bool.and_eq_true, decide_eq_true_eq] at h
  exact ⟨by omega, by omega⟩
end
end VI
/-! VId: the operators by values. -/
namespace VI
open PySem PySem.Spec PyProof.Rows L2
section
variable {m : Md} {E : XK} {X : Cx}

theorem bin_add : OpR X (binaryOp .Add) (R2D m E X (binV .add)) := by
  intro pins s σ H x y v u Q I rx ry h
  obtain ⟨ρ, st, d, e, S, r1, r2, hf⟩ := h
  cases r1 with
  | int i =>
    cases r2 with
    | int j => exact L2.op_add pins s σ H _ _ v u Q I rx ry ⟨i, j, rfl, rfl, hf.now S (.int _)⟩
    | _ => exact hf.elim
  | str x =>
    cases r2 with
    | str y =>
      unfold binV at hf
      simp only at hf
      split at hf
      · rename_i hl
        refine L2.op_add_str pins s σ H _ _ v u Q I rx ry ⟨toS x, toS y, rfl, rfl, ?_, ?_⟩
        · rw [toS_len, toS_len, ← line_eq]; exact hl
        · rw [toS_app]; exact hf.now S (.str _)
      · exact hf.elim
    | _ => exact hf.elim
  | tup q1 r1 =>
    cases r2 with
    | tup q2 r2 =>
      unfold binV at hf
      simp only at hf
      split at hf
      · rename_i hl
        refine L2.op_catA pins s σ H _ _ v u Q I rx ry ⟨_, _, _, _, rfl, rfl, q1, q2, ?_, fun e => ?_, fun _ e => ?_, fun _ _ p hp => ?_⟩
        · rw [← r1.length, ← r2.length, ← line_eq]; exact hl
        · subst e
          cases r1
          exact hf.now S (.tup q2 r2)
        · subst e
          cases r2
          rw [List.append_nil] at hf
          exact hf.now S (.tup q1 r1)
        · exact hf.tup S (r1.append r2) hp
      · exact hf.elim
    | _ => exact hf.elim
  | ref h1 =>
    cases r2 with
    | ref h2 =>
      unfold binV at hf
      simp only at hf
      split at hf
      · rename_i xs ys g1 g2
        split at hf
        · rename_i hl
          obtain ⟨vs, e1, q1⟩ := S.lst_at h1 g1
          obtain ⟨us, e2, q2⟩ := S.lst_at h2 g2
          refine L2.op_cat pins s σ H _ _ v u Q I rx ry ⟨_, _, vs, us, rfl, rfl, e1, e2, ?_, fun p hp => ?_⟩
          · rw [← q1.length, ← q2.length, ← line_eq]; exact hl
          · exact hf.lst S (q1.append q2) hp
        · exact hf.elim
      · exact hf.elim
    | _ => exact hf.elim
  | _ => exact (by cases r2 <;> exact hf.elim)
theorem bin_sub : OpR X (binaryOp .Sub) (R2D m E X (binV .sub)) := by
  intro pins s σ H x y v u Q I rx ry h
  obtain ⟨ρ, st, d, e, S, r1, r2, hf⟩ := h
  cases r1 with
  | int i =>
    cases r2 with
    | int j => exact L2.op_sub pins s σ H _ _ v u Q I rx ry ⟨i, j, rfl, rfl, hf.now S (.int _)⟩
    | _ => exact hf.elim
  | _ => exact (by cases r2 <;> exact hf.elim)
theorem bin_fdiv : OpR X (binaryOp .FloorDiv) (R2D m E X (binV .fdiv)) := by
  intro pins s σ H x y v u Q I rx ry h
  obtain ⟨ρ, st, d, e, S, r1, r2, hf⟩ := h
  cases r1 with
  | int i =>
    cases r2 with
    | int j =>
      unfold binV at hf
      simp only at hf
      split at hf
      · rename_i hc
        exact L2.op_fdiv pins s σ H _ _ v u Q I rx ry ⟨i, j, rfl, rfl, hc, hf.now S (.int _)⟩
      · exact hf.elim
    | _ => exact hf.elim
  | _ => exact (by cases r2 <;> exact hf.elim)
theorem bin_mod : OpR X (binaryOp .Mod) (R2D m E X (binV .mod)) := by
  intro pins s σ H x y v u Q I rx ry h
  obtain ⟨ρ, st, d, e, S, r1, r2, hf⟩ := h
  cases r1 with
  | int i =>
    cases r2 with
    | int j =>
      unfold binV at hf
      simp only at hf
      split at hf
      · rename_i hc
        exact L2.op_mod pins s σ H _ _ v u Q I rx ry ⟨i, j, rfl, rfl, hc, hf.now S (.int _)⟩
      · exact hf.elim
    | _ => exact hf.elim
  | _ => exact (by cases r2 <;> exact hf.elim)

theorem small3_ok {i : Int} (h : small3 i = true) : -1000 ≤ i ∧ i ≤ 1000 := by
  unfold small3 at h
  simp only [Bool.and_eq_true, decide_eq_true_eq] at h
  exact h
theorem rep_nil {α : Type} (n : Nat) : rep n ([] : List α) = [] := by simp [rep]
theorem rep_one {α : Type} (xs : List α) : rep 1 xs = xs := by simp [rep, List.replicate_succ]
theorem rep_zero {α : Type} (xs : List α) : rep 0 xs = [] := by simp [rep]
/-- t * n: the same object -/
theorem tuple_mul_same (l : Addr) (items : Array Value) (n : Nat) (dd : Option Addr) (sl : Array (Option Value)) (x : Int) (u : Tok) (c0 : (decide (x < -(2 ^ 63)) || decide (x ≥ 2 ^ 63)) = false) (c1 : (items.isEmpty || x == 1) = true) :
    Meets (Builtin.«tuple.__mul__» ⟨[.ref l, .int x u], []⟩) (fun _ R s => s.heap.get? l = some { cls := .type "tuple", dict := dd, data := .seq items n, slots := sl } ∧ R (.ok (.ret (Value.ref l))) s) :=
  .of_wp fun prog w A R s h => by
    obtain ⟨hp, g, d, tk, os⟩ := s
    obtain ⟨hl, h⟩ := h
    have f1 := AutoSeq1.idx_int
    wp_walk using wpAny_loadPart' hl
    repeat (first
      | (refine wpAny_ite_false (decide_eq_false (by rw [c0]; exact Bool.false_ne_true)) ?_; wp_walk using wpAny_loadPart' hl)
      | (refine wpAny_ite_true (decide_eq_true c1) ?_; wp_walk using wpAny_loadPart' hl))
    exact ⟨_, rfl, h⟩
theorem tuple_mul_none (l : Addr) (items : Array Value) (n : Nat) (dd : Option Addr) (sl : Array (Option Value)) (x : Int) (u : Tok) (c0 : (decide (x < -(2 ^ 63)) || decide (x ≥ 2 ^ 63)) = false) (c1 : (items.isEmpty || x == 1) = false) (c2 : (decide (x ≤ 0) || items.isEmpty) = true) :
    Meets (Builtin.«tuple.__mul__» ⟨[.ref l, .int x u], []⟩) (fun _ R s => s.heap.get? l = some { cls := .type "tuple", dict := dd, data := .seq items n, slots := sl } ∧
      R (.ok (.ret (Value.ref s.heap.objs.size))) { s with heap := s.heap.push { cls := Value.type "tuple", data := Data.seq #[] }, toks := s.toks }) :=
  .of_wp fun prog w A R s h => by
    obtain ⟨hp, g, d, tk, os⟩ := s
    obtain ⟨hl, h⟩ := h
    have f1 := AutoSeq1.idx_int
    wp_walk using wpAny_loadPart' hl
    repeat (first
      | (refine wpAny_ite_false (decide_eq_false (by rw [c0]; exact Bool.false_ne_true)) ?_; wp_walk using wpAny_loadPart' hl)
      | (refine wpAny_ite_false (decide_eq_false (by rw [c1]; exact Bool.false_ne_true)) ?_; wp_walk using wpAny_loadPart' hl)
      | (refine wpAny_ite_true (decide_eq_true c2) ?_; wp_walk using wpAny_loadPart' hl))
    exact ⟨_, rfl, h⟩
theorem foldl_repA (its : List Nat) : ∀ (k : Nat) (acc : List Nat), List.foldl (fun x1 x2 => x1 ++ x2) acc.toArray (List.replicate k its.toArray) = (acc ++ (List.replicate k its).flatten).toArray
  | 0, acc => by simp
  | k + 1, acc => by
    simp only [List.replicate_succ, List.foldl_cons, List.flatten_cons]
    have e : acc.toArray ++ its.toArray = (acc ++ its).toArray := by simp
    rw [e, foldl_repA its k (acc ++ its), List.append_assoc]
theorem rep_len {α : Type} (n : Nat) (xs : List α) : (rep n xs).length = n * xs.length := by
  unfold rep
  induction n with
  | zero => simp
  | succ n ih => rw [List.replicate_succ, List.flatten_cons, List.length_append, ih, Nat.add_mul]; omega
theorem c0_of {k : Int} (h : -1000 ≤ k ∧ k ≤ 1000) : (decide (k < -(2 ^ 63)) || decide (k ≥ 2 ^ 63)) = false := by
  rw [decide_eq_false (by omega), decide_eq_false (by omega)] <;> rfl
theorem bin_mul : OpR X (binaryOp .Mult) (R2D m E X (binV .mul)) := by
  intro pins s σ H x y v u Q I rx ry h
  obtain ⟨ρ, st, d, e, S, r1, r2, hf⟩ := h
  cases r2 with
  | int k =>
    cases r1 with
    | int i =>
      unfold binV at hf
      simp only at hf
      split at hf
      · rename_i hc
        simp only [Bool.or_eq_true] at hc
        exact L2.op_mul pins s σ H _ _ v u Q I rx ry ⟨i, k, rfl, rfl, hc.imp small64_ok small64_ok, hf.now S (.int _)⟩
      · exact hf.elim
    | tup hT rs =>
      rename_i xs l vs
      unfold binV at hf
      simp only at hf
      split at hf
      · rename_i hc
        have hk := small3_ok hc.2
        have hx : vs.length ≤ 1000 := by rw [← rs.length]; exact hc.1
        have hc0 := c0_of hk
        cases rx
        obtain ⟨t, rfl⟩ := ry
        obtain ⟨its, r, ⟨⟨cls, dd, data, sl⟩, ho, hcl, n, hd⟩, hs⟩ := I.tuple hT
        simp only at hcl hd
        subst hcl hd
        by_cases c1 : (its.toArray.isEmpty || k == 1) = true
        · refine wpAny_binaryOp_repeat_ref (T := "tuple") (U := "int") (by decide) ⟨_, ho, rfl⟩ (fun s' => typeIs_int s' k t) noFill_tuple_mul F.fills_int_mul F.slot_int_rmul repeat_tuple F.slot_int_index.lookup
            (call_meets F.slot_int_rmul (typeIs_int s k t) F.entry_int_rmul (F.args_int_rmul_2 _ _) (int_rmul_tuple k t l its.toArray n dd sl)
              ⟨ho, rfl, ⟨_, ho, rfl⟩, call_meets F.slot_tuple_mul ⟨_, ho, rfl⟩ F.entry_tuple_mul (F.args_tuple_mul_2 _ _) (tuple_mul_same l its.toArray n dd sl k t hc0 c1) ⟨ho, ?_⟩⟩)
          refine ⟨.ref l, H, I, rfl, ?_⟩
          have e : rep k.toNat xs = xs := by
            rcases Bool.or_eq_true_iff.mp c1 with z | z
            · have : its = [] := by simpa using z
              have hz : xs = [] := by
                have := rs.length
                have h2 := r.length
                rw [‹its = []›] at h2
                simp at h2
                subst h2
                simpa using this
              rw [hz, rep_nil]
            · have : k = 1 := by simpa using z
              subst this
              exact rep_one xs
          rw [e] at hf
          exact hf.now S (.tup hT rs)
        · have c1' : (its.toArray.isEmpty || k == 1) = false := by simpa using c1
          by_cases c2 : k ≤ 0
          · refine wpAny_binaryOp_repeat_ref (T := "tuple") (U := "int") (by decide) ⟨_, ho, rfl⟩ (fun s' => typeIs_int s' k t) noFill_tuple_mul F.fills_int_mul F.slot_int_rmul repeat_tuple F.slot_int_index.lookup
              (call_meets F.slot_int_rmul (typeIs_int s k t) F.entry_int_rmul (F.args_int_rmul_2 _ _) (int_rmul_tuple k t l its.toArray n dd sl)
                ⟨ho, rfl, ⟨_, ho, rfl⟩, call_meets F.slot_tuple_mul ⟨_, ho, rfl⟩ F.entry_tuple_mul (F.args_tuple_mul_2 _ _) (tuple_mul_none l its.toArray n dd sl k t hc0 c1' (by simp [c2])) ⟨ho, ?_⟩⟩)
            refine ⟨.ref s.heap.objs.size, _, I.laid (t' := s.toks) (o := .tup []) (fun b ob q => Heap.get?_push_of_some _ q) (Nat.le_refl _) ⟨Nat.zero_le _, [], .nil, IsTup.new _ _⟩, rfl, ?_⟩
            have e : rep k.toNat xs = [] := by
              have : k.toNat = 0 := by omega
              rw [this]; exact rep_zero xs
            rw [e] at hf
            exact hf.tup S .nil (I.hok.fresh (Nat.le_refl _))
          · have hne : its ≠ [] := fun e => by rw [e] at c1'; simp at c1'
            have hk1 : k ≠ 1 := fun e => by rw [e] at c1'; simp at c1'
            refine L2.op_repT pins s σ H (.ref l) (.int k) _ _ Q I rfl ⟨t, rfl⟩ ⟨l, k, vs, rfl, rfl, hT, fun e => hne ?_, by omega, hk.2, hx, fun p hp => ?_⟩
            · have := r.length
              rw [e] at this
              exact List.eq_nil_of_length_eq_zero this.symm
            · exact hf.tup S (Reps.replicate k.toNat rs) hp
      · exact hf.elim
    | str x =>
      unfold binV at hf
      simp only at hf
      split at hf
      · rename_i hc
        have hk := small3_ok hc.2
        obtain ⟨t, rfl⟩ := rx
        obtain ⟨t', rfl⟩ := ry
        have hx : (toS x).length ≤ 1000 := by rw [toS_len]; exact hc.1
        have hlen : (toS x).length * k.toNat ≤ 1000 * 1000 := Nat.mul_le_mul hx (by omega)
        refine PySem.P.mul_str (c0_of hk) (fun h1 _ => ?_) (fun h1 _ => ?_) ?_
        · have : (1 : Int) ≤ k := by omega
          have h9 : (9223372036854775807 : Int) / 1000 ≤ 9223372036854775807 / k := by
            refine Int.le_ediv_of_mul_le (by omega) ?_
            have : (9223372036854775807 : Int) / 1000 * k ≤ 9223372036854775807 / 1000 * 1000 := Int.mul_le_mul_of_nonneg_left hk.2 (by decide)
            have h8 : (9223372036854775807 : Int) / 1000 * 1000 ≤ 9223372036854775807 := by decide
            omega
          have h7 : (9223372036854775807 : Int) / 1000 = 9223372036854775 := by decide
          show ¬ (((toS x).length : Int) > 9223372036854775807 / k)
          omega
        · unfold Builtin.Str.tooLong
          rw [sizeLine_eq]
          exact decide_eq_false (by omega)
        · by_cases h1 : k < 1
          · rw [if_pos h1]
            have e : rep k.toNat x = [] := by
              have : k.toNat = 0 := by omega
              rw [this]; exact rep_zero x
            rw [e] at hf
            exact ⟨by decide, .str (toS []), H, I.tok _, ⟨_, rfl⟩, hf.now S (.str [])⟩
          · rw [if_neg h1]
            by_cases h2 : (k == 1 || (toS x).length == 0) = true
            · rw [if_pos h2]
              have e : rep k.toNat x = x := by
                rcases Bool.or_eq_true_iff.mp h2 with z | z
                · have : k = 1 := by simpa using z
                  subst this; exact rep_one x
                · rw [toS_len] at z
                  have : x = [] := by simpa using z
                  rw [this, rep_nil]
              rw [e] at hf
              exact ⟨.str (toS x), H, I, ⟨t, rfl⟩, hf.now S (.str x)⟩
            · rw [if_neg h2]
              have e : (⟨(List.replicate k.toNat (toS x).cps).foldl (· ++ ·) #[]⟩ : Str) = toS (rep k.toNat x) := by
                show (⟨(List.replicate k.toNat x.toArray).foldl (· ++ ·) #[]⟩ : Str) = _
                rw [foldl_repA x k.toNat []]
                simp [toS, rep]
              rw [e]
              refine ⟨?_, .str (toS (rep k.toNat x)), H, I.tok _, ⟨_, rfl⟩, hf.now S (.str _)⟩
              rw [toS_len, rep_len, sizeLine_eq]
              rw [toS_len] at hlen
              rw [Nat.mul_comm] at hlen
              omega
      · exact hf.elim
    | ref ha =>
      rename_i n l
      unfold binV at hf
      simp only at hf
      split at hf
      · rename_i xs g
        split at hf
        · rename_i hc
          have hk := small3_ok hc.2
          obtain ⟨vs, e1, q1⟩ := S.lst_at ha g
          have hx : vs.length ≤ 1000 := by rw [← q1.length]; exact hc.1
          refine L2.op_rep pins s σ H _ _ v u Q I rx ry ⟨l, k, vs, rfl, rfl, e1, by omega, by omega, ?_, fun p hp => ?_⟩
          · rw [sizeLine_eq]
            have : vs.length * k.toNat ≤ 1000 * 1000 := Nat.mul_le_mul hx (by omega)
            omega
          · exact hf.lst S (Reps.replicate k.toNat q1) hp
        · exact hf.elim
      · exact hf.elim
    | _ => exact hf.elim
  | _ => exact (by cases r1 <;> exact hf.elim)
end
end VI
/-! VIe: comparisons by values. -/
namespace VI
open PySem PySem.Spec PyProof.Rows L2

mutual
def Pd.py : Pd → PyData
  | .non => .none
  | .bl b => .bool b
  | .int i => .int i
  | .str x => .str (toS x)
  | .tup xs => .tuple (Pd.pys xs)
  | .lst xs => .list (Pd.pys xs)
def Pd.pys : List Pd → List PyData
  | [] => []
  | x :: xs => Pd.py x :: Pd.pys xs
end
theorem toS_beq (x y : List Nat) : (toS x == toS y) = (x == y) := by
  by_cases h : x = y
  · subst h; simp
  · rw [beq_eq_false_iff_ne.mpr h, beq_eq_false_iff_ne.mpr fun e => h (toS_inj e)]
mutual
theorem Pd.py_eqv : ∀ (a b : Pd), PyData.eqv a.py b.py = a.eqv b
  | .non, b => by cases b <;> simp [Pd.py, PyData.eqv, Pd.eqv]
  | .bl x, b => by cases b <;> simp [Pd.py, PyData.eqv, Pd.eqv]
  | .int i, b => by cases b <;> simp [Pd.py, PyData.eqv, Pd.eqv]
  | .str x, b => by
    cases b with
    | str y => simp only [Pd.py, PyData.eqv, Pd.eqv]; exact toS_beq x y
    | _ => simp [Pd.py, PyData.eqv, Pd.eqv]
  | .tup xs, b => by
    cases b with
    | tup ys => simp only [Pd.py, PyData.eqv, Pd.eqv]; exact Pd.pys_eqv xs ys
    | _ => simp [Pd.py, PyData.eqv, Pd.eqv]
  | .lst xs, b => by
    cases b with
    | lst ys => simp only [Pd.py, PyData.eqv, Pd.eqv]; exact Pd.pys_eqv xs ys
    | _ => simp [Pd.py, PyData.eqv, Pd.eqv]
theorem Pd.pys_eqv : ∀ (a b : List Pd), PyData.eqvAll (Pd.pys a) (Pd.pys b) = Pd.eqvs a b
  | [], [] => rfl
  | [], _ :: _ => rfl
  | _ :: _, [] => rfl
  | x :: xs, y :: ys => by
    simp only [Pd.pys, PyData.eqvAll, Pd.eqvs]
    rw [Pd.py_eqv x y, Pd.pys_eqv xs ys]
end
theorem pys_any (a : Pd) : ∀ bs : List Pd, (Pd.pys bs).any (fun z => PyData.eqv z a.py) = bs.any fun b => b.eqv a
  | [] => rfl
  | b :: bs => by simp only [Pd.pys, List.any_cons]; rw [Pd.py_eqv, pys_any a bs]
theorem strOk_toS {x : List Nat} (h : x.all goodCp = true) : PyData.strOk (toS x) = true := by
  unfold PyData.strOk
  rw [List.all_eq_true] at h
  rw [toS, List.all_toArray, List.all_eq_true]
  intro c hc
  have := h c hc
  unfold goodCp at this
  simp only [decide_eq_true_eq] at this ⊢
  omega
theorem allOpt_some {α β : Type} {f : α → Option β} : ∀ {xs : List α} {ys : List β}, allOpt f xs = some ys → Paired (fun x y => f x = some y) xs ys
  | [], ys, h => by simp only [allOpt, Option.some.injEq] at h; subst h; exact .nil
  | x :: xs, ys, h => by
    unfold allOpt at h
    split at h
    · rename_i y zs h1 h2
      cases h
      exact .cons h1 (allOpt_some h2)
    · cases h
section
variable {m : Md} {E : XK} {X : Cx} {ρ : List Addr} {H : Hp} {st : Store}
theorem dats_ok {f : Nat} {g : D → Option Pd} (hg : ∀ d p v, g d = some p → Rep X.K ρ H d v → Dp X.K H v p.py ∧ p.py.canLay0 = true ∧ p.py.depth ≤ f) : ∀ {xs : List D} {ps : List Pd} {vs : List V}, Paired (fun x y => g x = some y) xs ps → Reps X.K ρ H xs vs →
    DpAll X.K H vs (Pd.pys ps) ∧ PyData.canLayAll0 (Pd.pys ps) = true ∧ PyData.depthAll (Pd.pys ps) ≤ f
  | _, _, _, .nil, .nil => ⟨.nil, rfl, Nat.zero_le _⟩
  | _, _, _, .cons h t, .cons r rs => by
    obtain ⟨a1, a2, a3⟩ := hg _ _ _ h r
    obtain ⟨b1, b2, b3⟩ := dats_ok hg t rs
    refine ⟨.cons a1 b1, ?_, ?_⟩
    · simp only [Pd.pys, PyData.canLayAll0, a2, b2, Bool.and_true]
    · simp only [Pd.pys, PyData.depthAll]; omega
theorem dat_ok (S : Rel m X ρ H st) : ∀ (f : Nat) (d : D) (p : Pd) (v : V), dat f st d = some p → Rep X.K ρ H d v → Dp X.K H v p.py ∧ p.py.canLay0 = true ∧ p.py.depth ≤ f := by
  intro f
  induction f with
  | zero =>
    intro d p v h r
    cases r with
    | non => simp only [dat, Option.some.injEq] at h; subst h; exact ⟨.non, rfl, Nat.le_refl _⟩
    | bl b => simp only [dat, Option.some.injEq] at h; subst h; exact ⟨.bl b, rfl, Nat.le_refl _⟩
    | int i => simp only [dat, Option.some.injEq] at h; subst h; exact ⟨.int i, rfl, Nat.le_refl _⟩
    | str x =>
      simp only [dat] at h
      split at h
      · cases h; exact ⟨.str _, by simp only [Pd.py, PyData.canLay0]; exact strOk_toS (by assumption), Nat.le_refl _⟩
      · cases h
    | tup _ _ => simp [dat] at h
    | ref _ => simp [dat] at h
  | succ f ih =>
    intro d p v h r
    cases r with
    | non => simp only [dat, Option.some.injEq] at h; subst h; exact ⟨.non, rfl, Nat.zero_le _⟩
    | bl b => simp only [dat, Option.some.injEq] at h; subst h; exact ⟨.bl b, rfl, Nat.zero_le _⟩
    | int i => simp only [dat, Option.some.injEq] at h; subst h; exact ⟨.int i, rfl, Nat.zero_le _⟩
    | str x =>
      simp only [dat] at h
      split at h
      · cases h; exact ⟨.str _, by simp only [Pd.py, PyData.canLay0]; exact strOk_toS (by assumption), Nat.zero_le _⟩
      · cases h
    | tup q rs =>
      simp only [dat] at h
      obtain ⟨ps, h1, rfl⟩ := Option.map_eq_some_iff.mp h
      obtain ⟨a1, a2, a3⟩ := dats_ok (fun d p v => ih d p v) (allOpt_some h1) rs
      exact ⟨.tup q a1, by simpa only [Pd.py, PyData.canLay0] using a2, by simp only [Pd.py, PyData.depth]; omega⟩
    | ref ha =>
      simp only [dat] at h
      split at h
      · rename_i xs g
        obtain ⟨ps, h1, rfl⟩ := Option.map_eq_some_iff.mp h
        obtain ⟨vs, e, rs⟩ := S.lst_at ha g
        obtain ⟨a1, a2, a3⟩ := dats_ok (fun d p v => ih d p v) (allOpt_some h1) rs
        exact ⟨.lst (SqL.of e) a1, by simpa only [Pd.py, PyData.canLay0] using a2, by simp only [Pd.py, PyData.depth]; omega⟩
      · rename_i xs g
        obtain ⟨ps, h1, rfl⟩ := Option.map_eq_some_iff.mp h
        obtain ⟨o, vs, e, rs⟩ := S.flst_at ha g
        obtain ⟨a1, a2, a3⟩ := dats_ok (fun d p v => ih d p v) (allOpt_some h1) rs
        exact ⟨.lst (.inl (.inr ⟨o, e⟩)) a1, by simpa only [Pd.py, PyData.canLay0] using a2, by simp only [Pd.py, PyData.depth]; omega⟩
      · cases h
theorem shaped_of {p : Pd} {f : Nat} (h1 : p.py.canLay0 = true) (h2 : p.py.depth ≤ f) (h3 : f ≤ 64) : SeqAt.shaped p.py = true := by
  unfold SeqAt.shaped
  rw [h1, Bool.true_and]
  exact decide_eq_true (by omega)
theorem eqS_ok (S : Rel m X ρ H st) {d e : D} {x y : V} {b : Bool} (r1 : Rep X.K ρ H d x) (r2 : Rep X.K ρ H e y) (h : eqS st d e = some b) : ∃ p q, Dp X.K H x p ∧ Dp X.K H y q ∧ SeqAt.shaped p = true ∧ SeqAt.shaped q = true ∧ PyData.eqv p q = b := by
  unfold eqS at h
  split at h
  · rename_i p q h1 h2
    cases h
    obtain ⟨a1, a2, a3⟩ := dat_ok S 60 _ _ _ h1 r1
    obtain ⟨b1, b2, b3⟩ := dat_ok S 60 _ _ _ h2 r2
    exact ⟨_, _, a1, b1, shaped_of a2 a3 (by decide), shaped_of b2 b3 (by decide), Pd.py_eqv _ _⟩
  · cases h
theorem cmp_eq (hu : X.A.units + 65 < cLine) : OpR X (compareOp .Eq) (R2D m E X (cmpV .eq)) := by
  intro pins s σ H x y v u Q I rx ry h
  obtain ⟨ρ, st, d, e, S, r1, r2, hf⟩ := h
  obtain ⟨b, hb, hf⟩ := Fin.opt hf
  obtain ⟨c, hc, rfl⟩ := Option.map_eq_some_iff.mp hb
  obtain ⟨p, q, a1, a2, a3, a4, rfl⟩ := eqS_ok S r1 r2 hc
  exact L2.op_eqD (by omega) pins s σ H _ _ v u Q I rx ry ⟨p, q, a1, a2, a3, a4, hf.now S (.bl _)⟩
theorem cmp_ne (hu : X.A.units + 65 < cLine) : OpR X (compareOp .NotEq) (R2D m E X (cmpV .ne)) := by
  intro pins s σ H x y v u Q I rx ry h
  obtain ⟨ρ, st, d, e, S, r1, r2, hf⟩ := h
  obtain ⟨b, hb, hf⟩ := Fin.opt hf
  obtain ⟨c, hc, rfl⟩ := Option.map_eq_some_iff.mp hb
  obtain ⟨p, q, a1, a2, a3, a4, rfl⟩ := eqS_ok S r1 r2 hc
  exact L2.op_neD (by omega) pins s σ H _ _ v u Q I rx ry ⟨p, q, a1, a2, a3, a4, hf.now S (.bl _)⟩
theorem cmp_lt : OpR X (compareOp .Lt) (R2D m E X (cmpV .lt)) := by
  intro pins s σ H x y v u Q I rx ry h
  obtain ⟨ρ, st, d, e, S, r1, r2, hf⟩ := h
  cases r1 <;> cases r2 <;> first | exact L2.op_lt pins s σ H _ _ v u Q I rx ry ⟨_, _, rfl, rfl, hf.now S (.bl _)⟩ | exact hf.elim
theorem cmp_le : OpR X (compareOp .LtE) (R2D m E X (cmpV .le)) := by
  intro pins s σ H x y v u Q I rx ry h
  obtain ⟨ρ, st, d, e, S, r1, r2, hf⟩ := h
  cases r1 <;> cases r2 <;> first | exact L2.op_le pins s σ H _ _ v u Q I rx ry ⟨_, _, rfl, rfl, hf.now S (.bl _)⟩ | exact hf.elim
theorem cmp_gt : OpR X (compareOp .Gt) (R2D m E X (cmpV .gt)) := by
  intro pins s σ H x y v u Q I rx ry h
  obtain ⟨ρ, st, d, e, S, r1, r2, hf⟩ := h
  cases r1 <;> cases r2 <;> first | exact L2.op_gt pins s σ H _ _ v u Q I rx ry ⟨_, _, rfl, rfl, hf.now S (.bl _)⟩ | exact hf.elim
theorem cmp_ge : OpR X (compareOp .GtE) (R2D m E X (cmpV .ge)) := by
  intro pins s σ H x y v u Q I rx ry h
  obtain ⟨ρ, st, d, e, S, r1, r2, hf⟩ := h
  cases r1 <;> cases r2 <;> first | exact L2.op_ge pins s σ H _ _ v u Q I rx ry ⟨_, _, rfl, rfl, hf.now S (.bl _)⟩ | exact hf.elim
theorem cmp_is : OpR X (compareOp .Is) (R2D m E X (cmpV .is)) := by
  intro pins s σ H x y v u Q I rx ry h
  obtain ⟨ρ, st, d, e, S, r1, r2, hf⟩ := h
  obtain ⟨b, hb, hf⟩ := Fin.opt hf
  obtain ⟨c, hc, rfl⟩ := Option.map_eq_some_iff.mp hb
  cases r2 with
  | non =>
    refine L2.op_isN pins s σ H _ _ v u Q I rx ry ⟨rfl, ?_⟩
    cases r1 <;> (simp only [isV, Option.some.injEq] at hc; subst hc; exact hf.now S (.bl _))
  | bl b =>
    cases r1 with
    | bl a =>
      simp only [isV, Option.some.injEq] at hc
      subst hc
      refine L2.op_isBl pins s σ H _ _ v u Q I rx ry ⟨a, b, rfl, rfl, ?_⟩
      have e : decide (a = b) = (a == b) := by cases a <;> cases b <;> rfl
      rw [e]
      exact hf.now S (.bl _)
    | non =>
      simp only [isV, Option.some.injEq] at hc
      subst hc
      cases (show v = Value.none from rx)
      cases (show u = Value.bool b from ry)
      exact wpAny_is_other rfl (fun z => nomatch z) ⟨.bl false, H, I, rfl, hf.now S (.bl _)⟩
    | _ => simp [isV] at hc
  | _ => cases r1 <;> simp [isV] at hc
theorem cmp_isnot : OpR X (compareOp .IsNot) (R2D m E X (cmpV .isnot)) := by
  intro pins s σ H x y v u Q I rx ry h
  obtain ⟨ρ, st, d, e, S, r1, r2, hf⟩ := h
  obtain ⟨b, hb, hf⟩ := Fin.opt hf
  obtain ⟨c, hc, rfl⟩ := Option.map_eq_some_iff.mp hb
  cases r2 with
  | non =>
    refine L2.op_notN pins s σ H _ _ v u Q I rx ry ⟨rfl, ?_⟩
    cases r1 <;> (simp only [isV, Option.some.injEq] at hc; subst hc; exact hf.now S (.bl _))
  | bl b =>
    cases r1 with
    | bl a =>
      simp only [isV, Option.some.injEq] at hc
      subst hc
      refine L2.op_notBl pins s σ H _ _ v u Q I rx ry ⟨a, b, rfl, rfl, ?_⟩
      have e : decide (a = b) = (a == b) := by cases a <;> cases b <;> rfl
      rw [e]
      exact hf.now S (.bl _)
    | non =>
      simp only [isV, Option.some.injEq] at hc
      subst hc
      cases (show v = Value.none from rx)
      cases (show u = Value.bool b from ry)
      exact wpAny_isNot_other rfl (fun z => nomatch z) ⟨.bl true, H, I, rfl, hf.now S (.bl _)⟩
    | _ => simp [isV] at hc
  | _ => cases r1 <;> simp [isV] at hc
end
end VI
/-! VIf: dicts by values. -/
namespace VI
open PySem PySem.Spec PyProof.Rows L2

/-! ### keys -/
theorem toS_dec (x y : List Nat) : decide (toS x = toS y) = (x == y) := by
  by_cases h : x = y
  · subst h; simp
  · rw [beq_eq_false_iff_ne.mpr h, decide_eq_false fun e => h (toS_inj e)]
mutual
theorem nkey_beq : ∀ (a b : D), a.flat = true → b.flat = true → NestedKey.beq (nkey a) (nkey b) = D.eqv a b
  | .non, b, _, hb => by cases b <;> simp_all [nkey, NestedKey.beq, D.eqv, D.flat]
  | .bl x, b, _, hb => by
    cases b with
    | bl y => cases x <;> cases y <;> rfl
    | int j => simp only [nkey, NestedKey.beq, D.eqv]; exact (Bool.beq_eq_decide_eq _ _).symm
    | ref n => simp [D.flat] at hb
    | _ => simp [nkey, NestedKey.beq, D.eqv]
  | .int i, b, _, hb => by
    cases b with
    | bl y => simp only [nkey, NestedKey.beq, D.eqv]; exact (Bool.beq_eq_decide_eq _ _).symm
    | int j => simp only [nkey, NestedKey.beq, D.eqv]; exact (Bool.beq_eq_decide_eq _ _).symm
    | ref n => simp [D.flat] at hb
    | _ => simp [nkey, NestedKey.beq, D.eqv]
  | .str x, b, _, hb => by
    cases b with
    | str y => simp only [nkey, NestedKey.beq, D.eqv]; exact toS_dec x y
    | ref n => simp [D.flat] at hb
    | _ => simp [nkey, NestedKey.beq, D.eqv]
  | .tup xs, b, ha, hb => by
    cases b with
    | tup ys => simp only [nkey, NestedKey.beq, D.eqv]; simp only [D.flat] at ha hb; exact nkeys_beq xs ys ha hb
    | ref n => simp [D.flat] at hb
    | _ => simp [nkey, NestedKey.beq, D.eqv]
  | .ref n, _, ha, _ => by simp [D.flat] at ha
theorem nkeys_beq : ∀ (a b : List D), D.flats a = true → D.flats b = true → NestedKey.beqAll (nkeys a) (nkeys b) = D.eqvs a b
  | [], [], _, _ => rfl
  | [], _ :: _, _, _ => rfl
  | _ :: _, [], _, _ => rfl
  | x :: xs, y :: ys, ha, hb => by
    simp only [D.flats, Bool.and_eq_true] at ha hb
    simp only [nkeys, NestedKey.beqAll, D.eqvs]
    rw [nkey_beq x y ha.1 hb.1, nkeys_beq xs ys ha.2 hb.2]
end
mutual
theorem nkey_depth : ∀ (a : D), a.flat = true → (nkey a).depth = a.depth
  | .non, _ => rfl
  | .bl _, _ => rfl
  | .int _, _ => rfl
  | .str _, _ => rfl
  | .tup xs, h => by simp only [D.flat] at h; simp only [nkey, NestedKey.depth, D.depth, nkeys_depth xs h]
  | .ref _, h => by simp [D.flat] at h
theorem nkeys_depth : ∀ (a : List D), D.flats a = true → NestedKey.depthAll (nkeys a) = D.depths a
  | [], _ => rfl
  | x :: xs, h => by
    simp only [D.flats, Bool.and_eq_true] at h
    simp only [nkeys, NestedKey.depthAll, D.depths, nkey_depth x h.1, nkeys_depth xs h.2]
end
theorem kk2 {d : D} (h : kk d = 2) : ∃ xs, d = .tup xs ∧ D.flats xs = true ∧ D.depths xs < 8 := by
  cases d with
  | tup xs =>
    unfold kk at h
    simp only at h
    split at h
    · rename_i hc
      simp only [Bool.and_eq_true, decide_eq_true_eq] at hc
      exact ⟨xs, rfl, hc.1, hc.2⟩
    · cases h
  | str x => unfold kk at h; simp only at h; split at h <;> cases h
  | _ => cases h
theorem kk2_flat {d : D} (h : kk d = 2) : d.flat = true := by
  obtain ⟨xs, rfl, h1, _⟩ := kk2 h
  simpa only [D.flat] using h1
theorem kk1 {d : D} (h : kk d = 1) : ∃ k, leafK d = some k := by
  cases d with
  | int i => exact ⟨_, rfl⟩
  | str x => exact ⟨_, rfl⟩
  | tup xs => unfold kk at h; simp only at h; split at h <;> cases h
  | _ => cases h
theorem leafK_rep {K : PySem.W.Frag} {ρ : List Addr} {H : Hp} {d : D} {v : V} {k : Key} (h : leafK d = some k) (r : Rep K ρ H d v) : v = kV k := by
  cases r <;> simp only [leafK, Option.some.injEq, reduceCtorEq] at h <;> (subst h; rfl)
theorem leafK_eqv {a b : D} {j k : Key} (h1 : leafK a = some j) (h2 : leafK b = some k) : D.eqv a b = decide (j = k) := by
  cases a <;> simp only [leafK, Option.some.injEq, reduceCtorEq] at h1 <;> cases b <;> simp only [leafK, Option.some.injEq, reduceCtorEq] at h2 <;> subst h1 h2
  · simp only [D.eqv]; rw [key_ll]
  · simp only [D.eqv]; rw [key_lr]
  · simp only [D.eqv]; rw [key_rl]
  · simp only [D.eqv]; rw [key_rr, toS_dec]
theorem nkey_eq {a b : D} (ha : a.flat = true) (hb : b.flat = true) : decide (nkey a = nkey b) = D.eqv a b := by
  rw [NestedKey.decide_eq, nkey_beq a b ha hb]

section
variable {m : Md} {E : XK} {X : Cx} {pins : List (Addr × Obj)} {σ : L2.St} {ρ : List Addr} {H : Hp} {st : Store} {s : Shared}
mutual
theorem rep_nested (I : Inv X pins σ H s) : ∀ (d : D) (v : V) (u : Value), d.flat = true → Rep X.K ρ H d v → RelV v u → NestedIs s.heap (nkey d) u
  | .non, _, u, _, .non, e => by cases e; exact .none
  | .bl b, _, u, _, .bl _, e => by cases e; exact .bool rfl
  | .int i, _, u, _, .int _, e => by obtain ⟨t, rfl⟩ := e; exact .int i t
  | .str x, _, u, _, .str _, e => by obtain ⟨t, rfl⟩ := e; exact .text _ t
  | .tup xs, _, u, h, .tup q r, e => by
    cases e
    simp only [D.flat] at h
    obtain ⟨its, rv, ⟨o, h1, h2, n, h3⟩, _⟩ := I.tuple q
    exact .tup h1 h2 h3 (by simpa using reps_nested I xs _ its h r rv)
  | .ref n, _, u, h, _, _ => by simp [D.flat] at h
theorem reps_nested (I : Inv X pins σ H s) : ∀ (d : List D) (v : List V) (u : List Value), D.flats d = true → Reps X.K ρ H d v → Vals v u → NestedAll s.heap (nkeys d) u
  | [], _, _, _, .nil, .nil => .nil
  | x :: xs, _, _, h, .cons a b, .cons c d => by
    simp only [D.flats, Bool.and_eq_true] at h
    exact .cons (rep_nested I x _ _ h.1 a c) (reps_nested I xs _ _ h.2 b d)
end
theorem key_is (I : Inv X pins σ H s) {d : D} {b : Addr} (h : kk d = 2) (r : Rep X.K ρ H d (.ref b)) : (nestedKind X.prog X.w).is s.heap (nkey d) b := by
  refine ⟨rep_nested I d _ _ (kk2_flat h) r rfl, ?_⟩
  obtain ⟨xs, rfl, h1, h2⟩ := kk2 h
  rw [nkey_depth _ (by simpa only [D.flat] using h1)]
  simp only [D.depth]
  omega
theorem At.ok {lk : Bool} {a : Addr} {u : HO} (I : Inv X pins σ H s) (h : At H lk a u) : ObjOk X.prog X.w H s.heap a u := by
  unfold At at h
  split at h
  · obtain ⟨o, h⟩ := h
    exact (I.hok a _ h).2
  · exact I.hok a _ h
theorem At.rd {lk : Bool} {a : Addr} {u : HO} (h : At H lk a u) : Rd H a u := by
  unfold At at h
  split at h
  · exact .inr h
  · exact .inl h
theorem tpairs_is (I : Inv X pins σ H s) : ∀ {kvs : List (D × D)} {xs : List (NestedKey × Addr × Value)}, TPairs X.K ρ H kvs xs → ∀ x ∈ xs, (nestedKind X.prog X.w).is s.heap x.1 x.2.1
  | _, _, .nil, _, hx => nomatch hx
  | _, _, .cons h t, x, hx => by
    rcases List.mem_cons.mp hx with e | hx
    · subst e
      rw [h.2.1]
      exact key_is I h.1 h.2.2.1
    · exact tpairs_is I t x hx
theorem dictOfH (I : Inv X pins σ H s) {lk : Bool} {a : Addr} {kvs : List (D × D)} {xs : List (NestedKey × Addr × Value)} (h : At H lk a (.ext (rawD X.prog X.w a xs))) (tp : TPairs X.K ρ H kvs xs) (nd : (xs.map (·.1)).Nodup) :
    s.heap.DictOfH (nestedKind X.prog X.w) a xs := by
  obtain ⟨⟨o, es, ep, h1, h2, h3, h4⟩, _⟩ := h.ok I
  exact ⟨o, es, ep, h1, h2, h3, h4, tpairs_is I tp, nd⟩
theorem paired_len {α β : Type} {F : α → β → Prop} : ∀ {l : List α} {m : List β}, Paired F l m → l.length = m.length
  | _, _, .nil => rfl
  | _, _, .cons _ t => congrArg (· + 1) (paired_len t)
theorem tp_look {k : D} (hk : kk k = 2) : ∀ {kvs : List (D × D)} {xs : List (NestedKey × Addr × Value)}, TPairs X.K ρ H kvs xs →
    (lookD kvs k = none ∧ atKey xs (nkey k) = none) ∨ ∃ d p v, lookD kvs k = some d ∧ atKey xs (nkey k) = some p ∧ RelV v p.2 ∧ Rep X.K ρ H d v
  | _, _, .nil => .inl ⟨rfl, rfl⟩
  | p :: kvs, q :: xs, .cons h t => by
    have e : decide (q.1 = nkey k) = D.eqv p.1 k := by rw [h.2.1]; exact nkey_eq (kk2_flat h.1) (kk2_flat hk)
    have ea : atKey (q :: xs) (nkey k) = if D.eqv p.1 k then some q.2 else atKey xs (nkey k) := by
      unfold atKey
      rw [List.find?_cons, e]
      cases D.eqv p.1 k <;> rfl
    rw [ea]
    show (lookD (p :: kvs) k = none ∧ _) ∨ _
    unfold lookD
    by_cases hq : D.eqv p.1 k = true
    · rw [if_pos hq, if_pos hq]
      obtain ⟨v, h1, h2⟩ := h.2.2.2
      exact .inr ⟨p.2, q.2, v, rfl, rfl, h1, h2⟩
    · rw [if_neg hq, if_neg hq]
      exact tp_look hk t
theorem lp_look {k : D} {j : Key} (hk : leafK k = some j) : ∀ {kvs : List (D × D)} {kv : List (Key × V)}, LPairs X.K ρ H kvs kv →
    (lookD kvs k = none ∧ valV kv j = none) ∨ ∃ d v, lookD kvs k = some d ∧ valV kv j = some v ∧ Rep X.K ρ H d v
  | _, _, .nil => .inl ⟨rfl, rfl⟩
  | p :: kvs, q :: kv, .cons h t => by
    have e : D.eqv p.1 k = decide (q.1 = j) := leafK_eqv h.1 hk
    unfold lookD
    by_cases hq : q.1 = j
    · rw [if_pos (by rw [e]; exact decide_eq_true hq), valV_pos hq]
      exact .inr ⟨p.2, q.2, rfl, rfl, h.2⟩
    · rw [if_neg (by rw [e, decide_eq_false hq]; exact Bool.false_ne_true), valV_neg hq]
      exact lp_look hk t
/-- a dict of the store, and a key that may be asked: as a dict of ints and texts, or as one of tuples -/
theorem dict_view (S : Rel m X ρ H st) {n : Nat} {a : Addr} {lk : Bool} {kvs : List (D × D)} {k : D} (ha : ρ[n]? = some a) (g : st.get n = some (.dct lk kvs)) (hk : kkOk kvs k = true) :
    kvs.length ≤ sizeLine ∧ (a == sysModules) = false ∧ ((∃ j kv, leafK k = some j ∧ At H lk a (.dK kv) ∧ LPairs X.K ρ H kvs kv) ∨ (kk k = 2 ∧ ((kvs = [] ∧ At H lk a (.dK [])) ∨ ∃ xs, kvs ≠ [] ∧ At H lk a (.ext (rawD X.prog X.w a xs)) ∧ TPairs X.K ρ H kvs xs ∧ (xs.map (·.1)).Nodup))) := by
  obtain ⟨o, g', r⟩ := S.ob n a ha
  rw [g] at g'; cases g'
  obtain ⟨hz, hs, r⟩ := r
  refine ⟨hz, hs, ?_⟩
  have hk0 : kk k = 1 ∨ kk k = 2 := by
    have h0 : kk k ≠ 0 := by
      cases kvs with
      | nil => simpa [kkOk] using hk
      | cons p r => simp only [kkOk, Bool.and_eq_true] at hk; simpa using hk.1
    cases k with
    | tup xs => unfold kk at h0 ⊢; simp only at h0 ⊢; split at h0 <;> simp_all
    | str x => unfold kk at h0 ⊢; simp only at h0 ⊢; split at h0 <;> simp_all
    | int i => exact .inl rfl
    | _ => exact absurd rfl h0
  cases kvs with
  | nil =>
    rcases r with ⟨kv, q, r⟩ | ⟨ne, _⟩
    · cases r
      rcases hk0 with h1 | h2
      · obtain ⟨j, hj⟩ := kk1 h1
        exact .inl ⟨j, [], hj, q, .nil⟩
      · exact .inr ⟨h2, .inl ⟨rfl, q⟩⟩
    · exact absurd rfl ne
  | cons p kvs =>
    simp only [kkOk, Bool.and_eq_true] at hk
    have hp : kk k = kk p.1 := by simpa using hk.2
    rcases r with ⟨kv, q, r⟩ | ⟨ne, xs, q, r, nd⟩
    · rcases hk0 with h1 | h2
      · obtain ⟨j, hj⟩ := kk1 h1
        exact .inl ⟨j, kv, hj, q, r⟩
      · exfalso
        cases r with
        | cons h t =>
          obtain ⟨ys, e, _⟩ := kk2 (hp.symm.trans h2)
          have h1 := h.1
          rw [e] at h1
          cases h1
    · rcases hk0 with h1 | h2
      · exfalso
        cases r with
        | cons h t => rw [hp, h.1] at h1; cases h1
      · exact .inr ⟨h2, .inr ⟨xs, ne, q, r, nd⟩⟩
/-- an empty dict may have tuples as keys -/
theorem empty_of (I : Inv X pins σ H s) {lk : Bool} {a : Addr} (h : At H lk a (.dK [])) : s.heap.DictOfH (nestedKind X.prog X.w) a [] := by
  obtain ⟨_, _, vs, r, o, es, ep, h1, h2, h3, h4⟩ := h.ok I
  cases r
  refine ⟨o, es, ep, h1, h2, h3, ?_, (by intro _ hx; cases hx), List.nodup_nil⟩
  have := Pairs.length h4.2.1
  simpa using this
theorem room8 {A : Around} (h : A.units + 65 < cLine) : (nestedKind X.prog X.w).room A.in1 := by
  show A.units + 1 + 8 < cLine
  omega
/-- what the key of a dict is asked -/
theorem dct_ask (I : Inv X pins σ H s) (hu : X.A.units + 65 < cLine) (S : Rel m X ρ H st) {n : Nat} {a : Addr} {lk : Bool} {kvs : List (D × D)} {k : D} {y : V} {u : Value} (ha : ρ[n]? = some a) (g : st.get n = some (.dct lk kvs)) (hk : kkOk kvs k = true) (r : Rep X.K ρ H k y) (ru : RelV y u)
    {Q : Value → Shared → Prop} {E : Value → Shared → Prop} (h : ∀ s', Inv X pins σ H s' → Q (.bool (lookD kvs k).isSome) s') : wpAny (model X.prog X.w) X.A (compareOp .In u (.ref a)) Q E s := by
  obtain ⟨hz, hs, hv⟩ := dict_view S ha g hk
  rcases hv with ⟨j, kv, hj, q, lp⟩ | ⟨h2, hv⟩
  · obtain rfl := leafK_rep hj r
    have e : (lookD kvs k).isSome = (valV kv j).isSome := by
      rcases lp_look hj lp with ⟨h1, h2⟩ | ⟨d, v, h1, h2, _⟩ <;> rw [h1, h2] <;> rfl
    refine d_in (by omega) I (.inl ⟨kv, j, q.rd, rfl, rfl⟩) ru fun s' I' => ?_
    rw [← e]; exact h s' I'
  · obtain ⟨xs0, rfl, _⟩ := kk2 h2
    cases r with
    | tup q1 q2 =>
      cases ru
      have hkey := key_is I h2 (.tup q1 q2)
      rcases hv with ⟨rfl, q⟩ | ⟨xs, ne, q, tp, nd⟩
      · exact wpAny_in_heap (room8 hu) hkey hs (empty_of I q) (h _ (I.tok _))
      · refine wpAny_in_heap (room8 hu) hkey hs (dictOfH I q tp nd) ?_
        have e : (lookD kvs (.tup xs0)).isSome = (atKey xs (nkey (.tup xs0))).isSome := by
          rcases tp_look h2 tp with ⟨h1, h2⟩ | ⟨d, p, v, h1, h2, _⟩ <;> rw [h1, h2] <;> rfl
        rw [← e]
        exact h _ (I.tok _)
theorem dct_item (I : Inv X pins σ H s) (hu : X.A.units + 65 < cLine) (S : Rel m X ρ H st) {n : Nat} {a : Addr} {lk : Bool} {kvs : List (D × D)} {k d : D} {y : V} {u : Value} (ha : ρ[n]? = some a) (g : st.get n = some (.dct lk kvs)) (hk : kkOk kvs k = true) (r : Rep X.K ρ H k y) (ru : RelV y u) (hd : lookD kvs k = some d)
    {Q : Value → Shared → Prop} {E : Value → Shared → Prop} (h : ∀ v w' s', Inv X pins σ H s' → Rep X.K ρ H d v → RelV v w' → Q w' s') : wpAny (model X.prog X.w) X.A (getItem (.ref a) u) Q E s := by
  obtain ⟨hz, hs, hv⟩ := dict_view S ha g hk
  rcases hv with ⟨j, kv, hj, q, lp⟩ | ⟨h2, hv⟩
  · obtain rfl := leafK_rep hj r
    rcases lp_look hj lp with ⟨h1, _⟩ | ⟨d', v, h1, h2, rd⟩
    · rw [hd] at h1; cases h1
    · rw [hd] at h1; cases h1
      exact d_getItem (by omega) I (.inl ⟨kv, j, q.rd, rfl, h2.symm⟩) ru fun w' s' I' rw' => h v w' s' I' rd rw'
  · obtain ⟨xs0, rfl, _⟩ := kk2 h2
    cases r with
    | tup q1 q2 =>
      cases ru
      have hkey := key_is I h2 (.tup q1 q2)
      rcases hv with ⟨rfl, q⟩ | ⟨xs, ne, q, tp, nd⟩
      · cases hd
      · rcases tp_look h2 tp with ⟨h1, _⟩ | ⟨d', p, v, h1, h2', rv, rd⟩
        · rw [hd] at h1; cases h1
        · rw [hd] at h1; cases h1
          exact wpAny_getItem_heap (room8 hu) hkey (dictOfH I q tp nd) h2' (h v _ _ (I.tok _) rd rv)

theorem paired_app {α β : Type} {F : α → β → Prop} : ∀ {l l2 : List α} {m m2 : List β}, Paired F l m → Paired F l2 m2 → Paired F (l ++ l2) (m ++ m2)
  | _, _, _, _, .nil, q => q
  | _, _, _, _, .cons h t, q => .cons h (paired_app t q)
theorem paired_map {α β : Type} {F : α → β → Prop} {f : α → α} {g : β → β} : ∀ {l : List α} {m : List β}, Paired F l m → (∀ a b, F a b → F (f a) (g b)) → Paired F (l.map f) (m.map g)
  | _, _, .nil, _ => .nil
  | _, _, .cons h t, k => .cons (k _ _ h) (paired_map t k)
theorem LPairs.put {ρ : List Addr} {H : Hp} {K : PySem.W.Frag} {k v : D} {j : Key} {u : V} (hk : leafK k = some j) (rv : Rep K ρ H v u) {kvs : List (D × D)} {kv : List (Key × V)} (h : LPairs K ρ H kvs kv) (he : (lookD kvs k).isSome = (valV kv j).isSome) : LPairs K ρ H (putD kvs k v) (putK kv j u) := by
  unfold putD putK
  rw [valV_any, ← he]
  split
  · refine paired_map h fun p q h => ?_
    have e : D.eqv p.1 k = decide (q.1 = j) := leafK_eqv h.1 hk
    by_cases hq : q.1 = j
    · rw [if_pos (by rw [e]; exact decide_eq_true hq), if_pos hq]
      exact ⟨h.1, rv⟩
    · rw [if_neg (by rw [e, decide_eq_false hq]; exact Bool.false_ne_true), if_neg hq]
      exact h
  · exact paired_app h (.cons ⟨hk, rv⟩ .nil)
theorem TPairs.put {ρ : List Addr} {H : Hp} {K : PySem.W.Frag} {k v : D} {b : Addr} {u : V} {w' : Value} (hk : kk k = 2) (rk : Rep K ρ H k (.ref b)) (rv : Rep K ρ H v u) (rw' : RelV u w') {kvs : List (D × D)} {xs : List (NestedKey × Addr × Value)} (h : TPairs K ρ H kvs xs) (he : (lookD kvs k).isSome = (atKey xs (nkey k)).isSome) : TPairs K ρ H (putD kvs k v) (storedH xs (nkey k) b w') := by
  unfold putD storedH
  rw [he]
  split
  · refine paired_map h fun p q h => ?_
    have e : decide (q.1 = nkey k) = D.eqv p.1 k := by rw [h.2.1]; exact nkey_eq (kk2_flat h.1) (kk2_flat hk)
    unfold putAt
    by_cases hq : q.1 = nkey k
    · rw [if_pos (by rw [← e]; exact decide_eq_true hq), if_pos hq]
      exact ⟨h.1, h.2.1, h.2.2.1, u, rw', rv⟩
    · rw [if_neg (by rw [← e, decide_eq_false hq]; exact Bool.false_ne_true), if_neg hq]
      exact h
  · exact paired_app h (.cons ⟨hk, rfl, rk, u, rw', rv⟩ .nil)
theorem putD_len (kvs : List (D × D)) (k v : D) : (putD kvs k v).length ≤ kvs.length + 1 := by
  unfold putD
  split
  · rw [List.length_map]; omega
  · simp
theorem putD_ne (kvs : List (D × D)) (k v : D) : putD kvs k v ≠ [] := by
  unfold putD
  split
  · rename_i h
    cases kvs with
    | nil => simp [lookD] at h
    | cons p r => simp
  · simp
theorem rawD_stay {P : Program} {w : World} {a : Addr} {xs : List (NestedKey × Addr × Value)} {h1 h2 : Heap} (r : rawD P w a xs h1) (k : ∀ o, h1.get? a = some o → h2.get? a = some o) : rawD P w a xs h2 := by
  obtain ⟨o, es, ep, e1, e2⟩ := r
  exact ⟨o, es, ep, k o e1, e2⟩
theorem SRel.dset {nm : Nm} {P : Program} {w : World} {K : PySem.W.Frag} (S : SRel nm P w K ρ H st) {n : Nat} {a : Addr} {o : HO} {kvs : List (D × D)} (ha : ρ[n]? = some a) (r : Step ρ H ρ (upd H a o) → DRep P w K ρ (upd H a o) false kvs a) :
    SRel nm P w K ρ (upd H a o) (st.set n (.dct false kvs)) ∧ Step ρ H ρ (upd H a o) := SRel.change S ha (fun b hb => upd_ne hb) r
/-- a dict of the store is written -/
theorem dct_put (I : Inv X pins σ H s) (hu : X.A.units + 65 < cLine) (S : Rel m X ρ H st) {n : Nat} {a : Addr} {kvs : List (D × D)} {k d : D} {y v : V} {u z : Value} (ha : ρ[n]? = some a) (g : st.get n = some (.dct false kvs)) (hk : kkOk kvs k = true) (hl : kvs.length < sizeLine)
    (r : Rep X.K ρ H k y) (ru : RelV y u) (rd : Rep X.K ρ H d v) (rv : RelV v z) {Q : Unit → Shared → Prop} {E : Value → Shared → Prop}
    (h : ∀ H' s', Inv X pins σ H' s' → Step ρ H ρ H' → Rel m X ρ H' (st.set n (.dct false (putD kvs k d))) → Q () s') : wpAny (model X.prog X.w) X.A (setItem (.ref a) u z) Q E s := by
  obtain ⟨hz, hs, hv⟩ := dict_view S ha g hk
  have hz' : (putD kvs k d).length ≤ sizeLine := Nat.le_trans (putD_len kvs k d) hl
  rcases hv with ⟨j, kv, hj, q, lp⟩ | ⟨h2, hv⟩
  · obtain rfl := leafK_rep hj r
    have e : (lookD kvs k).isSome = (valV kv j).isSome := by
      rcases lp_look hj lp with ⟨h1, h2⟩ | ⟨d, v, h1, h2, _⟩ <;> rw [h1, h2] <;> rfl
    have q : H a = some (.dK kv) := q
    refine d_setItem (by omega) I (.inl ⟨kv, j, q, rfl, by rw [← paired_len lp]; exact hl, rfl⟩) ru rv fun s' I' => ?_
    obtain ⟨S', stp⟩ := SRel.dset (o := .dK (putK kv j v)) (kvs := putD kvs k d) S ha fun stp => ⟨hz', hs, .inl ⟨_, upd_same, by
      have := LPairs.put hj rd lp e
      exact paired_imp this fun p q z => ⟨z.1, Rep.mono S stp _ _ z.2⟩⟩⟩
    exact h _ s' I' stp S'
  · obtain ⟨xs0, rfl, _⟩ := kk2 h2
    cases r with
    | tup q1 q2 =>
      rename_i b _
      cases ru
      have hkey := key_is I h2 (.tup q1 q2)
      have fin : ∀ (xs : List (NestedKey × Addr × Value)) (o0 : HO) (h' : Heap), H a = some o0 → Mut (some o0) → TPairs X.K ρ H kvs xs → h'.DictOfH (nestedKind X.prog X.w) a (storedH xs (nkey (.tup xs0)) b z) → Heap.SameBut a s.heap h' →
          (lookD kvs (.tup xs0)).isSome = (atKey xs (nkey (.tup xs0))).isSome → ∀ tk, Q () { s with heap := h', toks := tk } := fun xs o0 h' e0 mu tp hm' hsb e tk => by
        obtain ⟨o, es, ep, e1, e2, e3, e4, e5, e6⟩ := hm'
        have tp' := TPairs.put (k := .tup xs0) h2 (.tup q1 q2) rd rv tp e
        have raw : rawD X.prog X.w a (storedH xs (nkey (.tup xs0)) b z) h' := ⟨o, es, ep, e1, e2, e3, e4⟩
        have I' : Inv X pins σ (upd H a (.ext (rawD X.prog X.w a (storedH xs (nkey (.tup xs0)) b z)))) { s with heap := h', toks := tk } :=
          I.write (x := a) (e := a) (by rw [e0]; exact mu) (.inl rfl) (fun b' u' hb hu' => (hsb.2 b' hb).trans hu') ⟨o, e1⟩ ⟨raw, ⟨o, e1⟩, fun h1 h2 r k => rawD_stay r k⟩
        obtain ⟨S', stp⟩ := SRel.dset (o := .ext (rawD X.prog X.w a (storedH xs (nkey (.tup xs0)) b z))) (kvs := putD kvs (.tup xs0) d) S ha fun stp => ⟨hz', hs, .inr ⟨putD_ne _ _ _, _, upd_same, paired_imp tp' fun p q z => ⟨z.1, z.2.1, Rep.mono S stp _ _ z.2.2.1, let ⟨v, h1, h2⟩ := z.2.2.2; ⟨v, h1, Rep.mono S stp _ _ h2⟩⟩, e6⟩⟩
        exact h _ _ I' stp S'
      rcases hv with ⟨rfl, q⟩ | ⟨xs, ne, q, tp, nd⟩
      · have q' : H a = some (.dK []) := q
        exact wpAny_setItem_heap (hsz := Nat.zero_le _) (room8 hu) hkey (empty_of I q) fun h' hm' hsb => fin [] _ h' q' trivial .nil hm' hsb rfl _
      · have q' : H a = some (.ext _) := q
        refine wpAny_setItem_heap (hsz := by rw [← paired_len tp]; exact hz) (room8 hu) hkey (dictOfH I q tp nd) fun h' hm' hsb => fin xs _ h' q' trivial tp hm' hsb ?_ _
        rcases tp_look h2 tp with ⟨h1, h2⟩ | ⟨d, p, v, h1, h2, _⟩ <;> rw [h1, h2] <;> rfl
end
end VI
/-! VIg: in, places, slices, stores, built-in functions, by values. -/
namespace VI
open PySem PySem.Spec PyProof.Rows L2
section
variable {m : Md} {E : XK} {X : Cx} {ρ : List Addr} {H : Hp} {st : Store}

theorem memS_ok (S : Rel m X ρ H st) {d : D} {x : V} {xs : List D} {vs : List V} {b : Bool} (r : Rep X.K ρ H d x) (rs : Reps X.K ρ H xs vs) (h : memS st d xs = some b) :
    ∃ p ps, Dp X.K H x p ∧ DpAll X.K H vs ps ∧ SeqAt.shaped p = true ∧ PyData.canLayAll0 ps = true ∧ PyData.depthAll ps ≤ 58 ∧ p.depth ≤ 58 ∧ (ps.any fun z => PyData.eqv z p) = b := by
  unfold memS at h
  split at h
  · rename_i p ps h1 h2
    cases h
    obtain ⟨a1, a2, a3⟩ := dat_ok S 58 _ _ _ h1 r
    obtain ⟨b1, b2, b3⟩ := dats_ok (fun d p v => dat_ok S 58 d p v) (allOpt_some h2) rs
    exact ⟨_, _, a1, b1, shaped_of a2 a3 (by decide), b2, b3, a3, pys_any _ _⟩
  · cases h
theorem in_seq (hu : X.A.units + 65 < cLine) (neg : Bool) {pins : List (Addr × Obj)} {s : Shared} {σ : L2.St} {x : V} {v : Value} {a : Addr} {Q : VK} (I : Inv X pins σ H s) (rx : RelV x v) {p : PyData} {ps : List PyData} {vs : List V} (hp : Dp X.K H x p) (hps : DpAll X.K H vs ps) (sp : SeqAt.shaped p = true)
    (h1 : PyData.canLayAll0 ps = true) (h3 : p.depth ≤ 58) (hq : SqL X.K H a vs ∨ SqT X.K H a vs) (q : Q (.bl (if neg then !(ps.any fun z => PyData.eqv z p) else ps.any fun z => PyData.eqv z p)) H) :
    wpAny (model X.prog X.w) X.A (compareOp (if neg then .NotIn else .In) v (.ref a)) (EP X pins σ Q) X.xe s := by
  obtain ⟨as, r1⟩ := Dp.reads I p x v hp rx
  have hu' : X.A.units + 1 + min (PyData.depthAll ps) p.depth < cLine := by
    have : min (PyData.depthAll ps) p.depth ≤ p.depth := Nat.min_le_right _ _
    omega
  rcases hq with hq | hq
  · obtain ⟨bs, r2⟩ := Dp.reads I (.list ps) (.ref a) (.ref a) (.lst hq hps) rfl
    cases neg with
    | false => exact SeqAt.in_list_reads r2 r1 h1 (SeqAt.canLay_of_shaped sp) hu' ⟨.bl _, H, I, rfl, q⟩
    | true => exact SeqAt.notIn_list_reads r2 r1 h1 (SeqAt.canLay_of_shaped sp) hu' ⟨.bl _, H, I, rfl, q⟩
  · obtain ⟨bs, r2⟩ := Dp.reads I (.tuple ps) (.ref a) (.ref a) (.tup hq hps) rfl
    cases neg with
    | false => exact SeqAt.in_tuple_reads r2 r1 h1 (SeqAt.canLay_of_shaped sp) hu' ⟨.bl _, H, I, rfl, q⟩
    | true => exact SeqAt.notIn_tuple_reads r2 r1 h1 (SeqAt.canLay_of_shaped sp) hu' ⟨.bl _, H, I, rfl, q⟩
theorem dct_asknot {pins : List (Addr × Obj)} {σ : L2.St} {s : Shared} (I : Inv X pins σ H s) (hu : X.A.units + 65 < cLine) (S : Rel m X ρ H st) {n : Nat} {a : Addr} {lk : Bool} {kvs : List (D × D)} {k : D} {y : V} {u : Value} (ha : ρ[n]? = some a) (g : st.get n = some (.dct lk kvs)) (hk : kkOk kvs k = true) (r : Rep X.K ρ H k y) (ru : RelV y u)
    {Q : Value → Shared → Prop} {E : Value → Shared → Prop} (h : ∀ s', Inv X pins σ H s' → Q (.bool !(lookD kvs k).isSome) s') : wpAny (model X.prog X.w) X.A (compareOp .NotIn u (.ref a)) Q E s := by
  obtain ⟨hz, hs, hv⟩ := dict_view S ha g hk
  rcases hv with ⟨j, kv, hj, q, lp⟩ | ⟨h2, hv⟩
  · obtain rfl := leafK_rep hj r
    have e : (lookD kvs k).isSome = (valV kv j).isSome := by
      rcases lp_look hj lp with ⟨h1, h2⟩ | ⟨d, v, h1, h2, _⟩ <;> rw [h1, h2] <;> rfl
    refine d_notIn (by omega) I (.inl ⟨kv, j, q.rd, rfl, rfl⟩) ru fun s' I' => ?_
    rw [← e]; exact h s' I'
  · obtain ⟨xs0, rfl, _⟩ := kk2 h2
    cases r with
    | tup q1 q2 =>
      cases ru
      have hkey := key_is I h2 (.tup q1 q2)
      rcases hv with ⟨rfl, q⟩ | ⟨xs, ne, q, tp, nd⟩
      · exact wpAny_bind (wpAny_contains_heap (room8 hu) hkey hs (empty_of I q) (wpAny_pure (h _ (I.tok _))))
      · refine wpAny_bind (wpAny_contains_heap (room8 hu) hkey hs (dictOfH I q tp nd) (wpAny_pure ?_))
        have e : (lookD kvs (.tup xs0)).isSome = (atKey xs (nkey (.tup xs0))).isSome := by
          rcases tp_look h2 tp with ⟨h1, h2⟩ | ⟨d, p, v, h1, h2, _⟩ <;> rw [h1, h2] <;> rfl
        rw [← e]
        exact h _ (I.tok _)
theorem cmp_in (hu : X.A.units + 65 < cLine) : OpR X (compareOp .In) (R2D m E X (cmpV .inn)) := by
  intro pins s σ H x y v u Q I rx ry h
  obtain ⟨ρ, st, d, e, S, r1, r2, hf⟩ := h
  obtain ⟨b, hb, hf⟩ := Fin.opt hf
  obtain ⟨c, hc, rfl⟩ := Option.map_eq_some_iff.mp hb
  cases r2 with
  | str z =>
    unfold inV at hc
    simp only at hc
    split at hc
    · rename_i c'
      cases hc
      cases r1
      refine L2.op_in_sign pins s σ H _ _ v u Q I rx ry ⟨c', toS z, rfl, rfl, ?_⟩
      rw [toS_list]
      exact hf.now S (.bl _)
    · cases hc
  | tup q rs =>
    obtain ⟨p, ps, a1, a2, a3, a4, a5, a6, rfl⟩ := memS_ok S r1 rs hc
    cases ry
    exact in_seq hu false I rx a1 a2 a3 a4 a6 (.inr q) (hf.now S (.bl _))
  | ref ha =>
    unfold inV at hc
    simp only at hc
    split at hc
    · rename_i xs g
      obtain ⟨vs, e1, rs⟩ := S.lst_at ha g
      obtain ⟨p, ps, a1, a2, a3, a4, a5, a6, rfl⟩ := memS_ok S r1 rs hc
      cases ry
      exact in_seq hu false I rx a1 a2 a3 a4 a6 (.inl (SqL.of e1)) (hf.now S (.bl _))
    · rename_i xs g
      obtain ⟨o, vs, e1, rs⟩ := S.flst_at ha g
      obtain ⟨p, ps, a1, a2, a3, a4, a5, a6, rfl⟩ := memS_ok S r1 rs hc
      cases ry
      exact in_seq hu false I rx a1 a2 a3 a4 a6 (.inl (.inl (.inr ⟨o, e1⟩))) (hf.now S (.bl _))
    · rename_i lk kvs g
      split at hc
      · rename_i hk
        cases hc
        cases ry
        exact dct_ask I hu S ha g hk r1 rx fun s' I' => ⟨.bl _, H, I', rfl, hf.now S (.bl _)⟩
      · cases hc
    · cases hc
  | _ => cases hc
theorem cmp_notin (hu : X.A.units + 65 < cLine) : OpR X (compareOp .NotIn) (R2D m E X (cmpV .notin)) := by
  intro pins s σ H x y v u Q I rx ry h
  obtain ⟨ρ, st, d, e, S, r1, r2, hf⟩ := h
  obtain ⟨b, hb, hf⟩ := Fin.opt hf
  obtain ⟨c, hc, rfl⟩ := Option.map_eq_some_iff.mp hb
  cases r2 with
  | str z =>
    unfold inV at hc
    simp only at hc
    split at hc
    · rename_i c'
      cases hc
      cases r1
      refine L2.op_notIn_sign pins s σ H _ _ v u Q I rx ry ⟨c', toS z, rfl, rfl, ?_⟩
      rw [toS_list]
      exact hf.now S (.bl _)
    · cases hc
  | tup q rs =>
    obtain ⟨p, ps, a1, a2, a3, a4, a5, a6, rfl⟩ := memS_ok S r1 rs hc
    cases ry
    exact in_seq hu true I rx a1 a2 a3 a4 a6 (.inr q) (hf.now S (.bl _))
  | ref ha =>
    unfold inV at hc
    simp only at hc
    split at hc
    · rename_i xs g
      obtain ⟨vs, e1, rs⟩ := S.lst_at ha g
      obtain ⟨p, ps, a1, a2, a3, a4, a5, a6, rfl⟩ := memS_ok S r1 rs hc
      cases ry
      exact in_seq hu true I rx a1 a2 a3 a4 a6 (.inl (SqL.of e1)) (hf.now S (.bl _))
    · rename_i xs g
      obtain ⟨o, vs, e1, rs⟩ := S.flst_at ha g
      obtain ⟨p, ps, a1, a2, a3, a4, a5, a6, rfl⟩ := memS_ok S r1 rs hc
      cases ry
      exact in_seq hu true I rx a1 a2 a3 a4 a6 (.inl (.inl (.inr ⟨o, e1⟩))) (hf.now S (.bl _))
    · rename_i lk kvs g
      split at hc
      · rename_i hk
        cases hc
        cases ry
        exact dct_asknot I hu S ha g hk r1 rx fun s' I' => ⟨.bl _, H, I', rfl, hf.now S (.bl _)⟩
      · cases hc
    · cases hc
  | _ => cases hc

/-! ### places -/
theorem ixP_eq (n : Nat) (i : Int) : ixP n i = ixN n i := rfl
theorem atP_ok {ds : List D} {vs : List V} {i : Int} {d : D} (rs : Reps X.K ρ H ds vs) (h : atP ds i = some d) : ∃ v, atI vs i = some v ∧ Rep X.K ρ H d v := by
  unfold atP at h
  split at h
  · rename_i j hj
    obtain ⟨v, h1, h2⟩ := rs.get h
    refine ⟨v, ?_, h2⟩
    unfold atI
    rw [← rs.length, ← ixP_eq, hj]
    exact h1
  · cases h
theorem atP_nat {xs : List Nat} {i : Int} {c : Nat} (h : atP xs i = some c) : atI xs i = some c := by
  unfold atP at h
  split at h
  · rename_i j hj
    unfold atI
    rw [← ixP_eq, hj]
    exact h
  · cases h
theorem ix_sub (hu : X.A.units + 65 < cLine) : IxR X (R2D m E X subV) := by
  intro value slice pins s σ H x y v u Q I rx ry h hs
  obtain ⟨ρ, st, d, e, S, r1, r2, hf⟩ := h
  cases r1 with
  | tup q rs =>
    cases r2 with
    | int i =>
      obtain ⟨b, hb, hf⟩ := Fin.opt hf
      obtain ⟨w', h1, h2⟩ := atP_ok rs hb
      exact L2.ix_tup value slice pins s σ H _ _ v u Q I rx ry ⟨_, _, i, w', rfl, rfl, q, h1, hf.now S h2⟩ hs
    | _ => exact hf.elim
  | str x =>
    cases r2 with
    | int i =>
      unfold subV at hf
      simp only at hf
      split at hf
      · rename_i hl
        obtain ⟨b, hb, hf⟩ := Fin.opt hf
        obtain ⟨c, hc, rfl⟩ := Option.map_eq_some_iff.mp hb
        refine L2.ix_str value slice pins s σ H _ _ v u Q I rx ry ⟨toS x, i, c, rfl, rfl, ?_, ?_, hf.now S (.str [c])⟩ hs
        · rw [toS_len, ← line_eq]; exact hl
        · rw [toS_list]; exact atP_nat hc
      · exact hf.elim
    | _ => exact hf.elim
  | ref ha =>
    unfold subV at hf
    simp only at hf
    split at hf
    · rename_i xs g
      obtain ⟨vs, e1, rs⟩ := S.lst_at ha g
      cases r2 with
      | int i =>
        obtain ⟨b, hb, hf⟩ := Fin.opt hf
        obtain ⟨w', h1, h2⟩ := atP_ok rs hb
        exact L2.ix_list value slice pins s σ H _ _ v u Q I rx ry ⟨_, _, i, w', rfl, rfl, SqL.of e1, h1, hf.now S h2⟩ hs
      | _ => exact hf.elim
    · rename_i xs g
      obtain ⟨o, vs, e1, rs⟩ := S.flst_at ha g
      cases r2 with
      | int i =>
        obtain ⟨b, hb, hf⟩ := Fin.opt hf
        obtain ⟨w', h1, h2⟩ := atP_ok rs hb
        exact L2.ix_list value slice pins s σ H _ _ v u Q I rx ry ⟨_, _, i, w', rfl, rfl, .inl (.inr ⟨o, e1⟩), h1, hf.now S h2⟩ hs
      | _ => exact hf.elim
    · rename_i lk kvs g
      split at hf
      · rename_i hk
        obtain ⟨b, hb, hf⟩ := Fin.opt hf
        cases rx
        refine tail_any (T := "dict") ?_ PySem.F.slot_dict_getitem.lookup (dct_item I hu S ha g hk r2 ry hb fun v' w' s' I' rv rw' => ⟨v', H, I', rw', hf.now S rv⟩) hs
        obtain ⟨o, g', r⟩ := S.ob _ _ ha
        rw [g] at g'; cases g'
        obtain ⟨hz, hsm, hv⟩ := r
        rcases hv with ⟨kv, q, _⟩ | ⟨_, xs, q, _⟩
        · obtain ⟨_, _, vs, _, o, es, ep, h1, h2, _⟩ := q.ok I
          exact ⟨o, h1, h2.1⟩
        · obtain ⟨⟨o, es, ep, h1, h2, _⟩, _⟩ := q.ok I
          exact ⟨o, h1, h2.1⟩
      · exact hf.elim
    · exact hf.elim
  | _ => exact (by cases r2 <;> exact hf.elim)
theorem sIx_eq (n d : Nat) (o : Option Int) : sIx n d o = HT.sIx n d o := by cases o <;> rfl
theorem cut_reps {ds : List D} {vs : List V} (rs : Reps X.K ρ H ds vs) (lo hi : Option Int) : Reps X.K ρ H (cut ds lo hi) (cutV vs lo hi) := by
  unfold cut cutV
  rw [rs.length, sIx_eq, sIx_eq]
  exact (rs.drop _).take _
theorem cut_str (x : List Nat) (lo hi : Option Int) : cutS (toS x) lo hi = toS (cut x lo hi) := by
  unfold cutS cut
  rw [toS_list, toS_len, sIx_eq, sIx_eq]
  rfl
/-- a slice, by the values of its parts -/
def RSl (m : Md) (E : XK) (X : Cx) : V → Option Int → Option Int → Hp → VK → Prop := fun x lo hi H Q => ∃ ρ st d, Rel m X ρ H st ∧ Rep X.K ρ H d x ∧ Fin m E X ρ H (slV d lo hi st) (rD X) Q
theorem sl_any : SlR X (RSl m E X) := by
  intro pins s σ H x v vl vu lo hi sl Q I rx hs pl pu h
  obtain ⟨ρ, st, d, S, r, hf⟩ := h
  unfold slV at hf
  cases r with
  | tup q rs =>
    refine L2.sl_tupA pins s σ H _ v vl vu lo hi sl Q I rx hs pl pu ⟨_, _, rfl, q, fun e => ?_, fun _ p hp => hf.tup S (cut_reps rs lo hi) hp⟩
    refine hf.now S (.tup q ?_)
    rename_i vs
    have ec : cutV vs lo hi = vs := by
      unfold cutV
      rw [e.1, e.2, List.drop_zero, Nat.sub_zero, List.take_length]
    have h2 := cut_reps rs lo hi
    rw [ec] at h2
    exact h2
  | str x =>
    simp only at hf
    split at hf
    · rename_i hz
      refine L2.sl_str pins s σ H _ v vl vu lo hi sl Q I rx hs pl pu ⟨toS x, rfl, by rw [toS_len, ← line_eq]; exact hz, ?_⟩
      rw [cut_str]
      exact hf.now S (.str _)
    · exact hf.elim
  | ref ha =>
    simp only at hf
    split at hf
    · rename_i xs g
      obtain ⟨vs, q, rs⟩ := S.lists ha g
      exact L2.sl_list pins s σ H _ v vl vu lo hi sl Q I rx hs pl pu ⟨_, vs, rfl, q, fun p hp => hf.lst S (cut_reps rs lo hi) hp⟩
    · exact hf.elim
  | _ => exact hf.elim

/-! ### stores -/
def RSet (m : Md) (E : XK) (X : Cx) : V → V → V → Hp → (Hp → Prop) → Prop := fun o i v H Q => ∃ ρ st a b d, Rel m X ρ H st ∧ Rep X.K ρ H a o ∧ Rep X.K ρ H b i ∧ Rep X.K ρ H d v ∧ Fin m E X ρ H (setItemV a b d st) (fun _ _ _ (_ : Unit) => True) (fun _ H' => Q H')
theorem set_any (hu : X.A.units + 65 < cLine) : PSet X (RSet m E X) := by
  intro pins s σ H o i v ov iv u Q I ro ri rv h
  obtain ⟨ρ, st, a, b, d, S, ra, rb, rd, hf⟩ := h
  cases ra with
  | ref ha =>
    unfold setItemV at hf
    simp only at hf
    split at hf
    · rename_i xs g
      obtain ⟨vs, e1, rs⟩ := S.lst_at ha g
      cases rb with
      | int k =>
        simp only at hf
        split at hf
        · rename_i j hj
          obtain ⟨S', st'⟩ := SRel.lset (ys := xs.set j d) (us := vs.set j v) S ha (rs.set rd j)
          exact L2.set_list pins s σ H _ _ v ov iv u Q I ro ri rv ⟨_, vs, k, j, rfl, rfl, e1, by rw [← rs.length]; exact hj, hf ρ _ () (st' _ e1) S' trivial⟩
        · exact hf.elim
      | _ => exact hf.elim
    · rename_i kvs g
      split at hf
      · rename_i hk
        simp only [Bool.and_eq_true, decide_eq_true_eq] at hk
        cases ro
        exact dct_put I hu S ha g hk.1 (by rw [← line_eq]; exact hk.2) rb ri rd rv fun H' s' I' stp S' => ⟨H', I', hf ρ H' () stp S' trivial⟩
      · exact hf.elim
    · exact hf.elim
  | _ => exact hf.elim

/-! ### built-in functions -/
theorem reps1 {xs : List D} {v : V} (r : Reps X.K ρ H xs [v]) : ∃ d, xs = [d] ∧ Rep X.K ρ H d v := by
  cases r with
  | cons a b => cases b; exact ⟨_, rfl, a⟩
theorem reps_one {d : D} {vs : List V} (r : Reps X.K ρ H [d] vs) : ∃ v, vs = [v] ∧ Rep X.K ρ H d v := by
  cases r with
  | cons a b => cases b; exact ⟨_, rfl, a⟩
theorem allOpt_ints {xs : List D} {is : List Int} {vs : List V} (h : allOpt intOf xs = some is) (rs : Reps X.K ρ H xs vs) : vs = is.map V.int := by
  induction xs generalizing is vs with
  | nil => cases rs; simp only [allOpt, Option.some.injEq] at h; subst h; rfl
  | cons x xs ih =>
    unfold allOpt at h
    split at h
    · rename_i y ys h1 h2
      cases h
      cases rs with
      | cons a b =>
        cases x <;> simp only [intOf, Option.some.injEq, reduceCtorEq] at h1
        subst h1
        cases a
        rw [ih h2 b]; rfl
    · cases h
theorem allOpt_bls {xs : List D} {is : List Bool} {vs : List V} (h : allOpt blOf xs = some is) (rs : Reps X.K ρ H xs vs) : vs = is.map V.bl := by
  induction xs generalizing is vs with
  | nil => cases rs; simp only [allOpt, Option.some.injEq] at h; subst h; rfl
  | cons x xs ih =>
    unfold allOpt at h
    split at h
    · rename_i y ys h1 h2
      cases h
      cases rs with
      | cons a b =>
        cases x <;> simp only [blOf, Option.some.injEq, reduceCtorEq] at h1
        subst h1
        cases a
        rw [ih h2 b]; rfl
    · cases h
theorem allOpt_strs {xs : List D} {is : List (List Nat)} {vs : List V} (h : allOpt strOf xs = some is) (rs : Reps X.K ρ H xs vs) : vs = (is.map toS).map V.str := by
  induction xs generalizing is vs with
  | nil => cases rs; simp only [allOpt, Option.some.injEq] at h; subst h; rfl
  | cons x xs ih =>
    unfold allOpt at h
    split at h
    · rename_i y ys h1 h2
      cases h
      cases rs with
      | cons a b =>
        cases x <;> simp only [strOf, Option.some.injEq, reduceCtorEq] at h1
        subst h1
        cases a
        rw [ih h2 b]; rfl
    · cases h
theorem blt_sum (hc : X.calm = true) : CallR X (.builtin "sum") (RLD m E X sumV) := by
  intro pins s σ H xs us Q I r h
  obtain ⟨ρ, st, ds, S, rs, hf⟩ := h
  unfold sumV at hf
  split at hf
  · rename_i n
    obtain ⟨v, rfl, rv⟩ := reps_one rs
    cases rv with
    | ref ha =>
      split at hf
      · rename_i xs g
        obtain ⟨b, hb, hf⟩ := Fin.opt hf
        obtain ⟨is, hi, rfl⟩ := Option.map_eq_some_iff.mp hb
        obtain ⟨vs, q, rs⟩ := S.lists ha g
        obtain rfl := allOpt_ints hi rs
        exact L2.cr_sum hc pins s σ H _ us Q I r ⟨_, is, rfl, q, hf.now S (.int _)⟩
      · exact hf.elim
  · exact hf.elim
theorem blt_all (hc : X.calm = true) : CallR X (.builtin "all") (RLD m E X allV) := by
  intro pins s σ H xs us Q I r h
  obtain ⟨ρ, st, ds, S, rs, hf⟩ := h
  unfold allV at hf
  split at hf
  · rename_i n
    obtain ⟨v, rfl, rv⟩ := reps_one rs
    cases rv with
    | ref ha =>
      split at hf
      · rename_i xs g
        obtain ⟨b, hb, hf⟩ := Fin.opt hf
        obtain ⟨is, hi, rfl⟩ := Option.map_eq_some_iff.mp hb
        obtain ⟨vs, q, rs⟩ := S.lists ha g
        obtain rfl := allOpt_bls hi rs
        exact L2.cr_all hc pins s σ H _ us Q I r ⟨_, is, rfl, q, hf.now S (.bl _)⟩
      · exact hf.elim
  · exact hf.elim
theorem blt_any (hc : X.calm = true) : CallR X (.builtin "any") (RLD m E X anyV) := by
  intro pins s σ H xs us Q I r h
  obtain ⟨ρ, st, ds, S, rs, hf⟩ := h
  unfold anyV at hf
  split at hf
  · rename_i n
    obtain ⟨v, rfl, rv⟩ := reps_one rs
    cases rv with
    | ref ha =>
      split at hf
      · rename_i xs g
        obtain ⟨b, hb, hf⟩ := Fin.opt hf
        obtain ⟨is, hi, rfl⟩ := Option.map_eq_some_iff.mp hb
        obtain ⟨vs, q, rs⟩ := S.lists ha g
        obtain rfl := allOpt_bls hi rs
        exact L2.cr_any hc pins s σ H _ us Q I r ⟨_, is, rfl, q, hf.now S (.bl _)⟩
      · exact hf.elim
  · exact hf.elim
theorem blt_int : CallR X (.type "int") (RLD m E X intV) := by
  intro pins s σ H xs us Q I r h
  obtain ⟨ρ, st, ds, S, rs, hf⟩ := h
  unfold intV at hf
  split at hf
  · obtain ⟨v, rfl, rv⟩ := reps_one rs
    cases rv
    exact L2.call_int1 pins s σ H _ us Q I r (.inl ⟨_, rfl, hf.now S (.int _)⟩)
  · exact hf.elim
theorem blt_abs : CallR X (.builtin "abs") (RLD m E X absV) := by
  intro pins s σ H xs us Q I r h
  obtain ⟨ρ, st, ds, S, rs, hf⟩ := h
  unfold absV at hf
  split at hf
  · obtain ⟨v, rfl, rv⟩ := reps_one rs
    cases rv
    exact L2.call_abs pins s σ H _ us Q I r ⟨_, rfl, hf.now S (.int _)⟩
  · exact hf.elim
theorem blt_tuple : CallR X (.type "tuple") (RLD m E X tupleV) := by
  intro pins s σ H xs us Q I r h
  obtain ⟨ρ, st, ds, S, rs, hf⟩ := h
  unfold tupleV at hf
  split at hf
  · obtain ⟨v, rfl, rv⟩ := reps_one rs
    cases rv with
    | tup q rs' => exact L2.call_tuple_of pins s σ H _ us Q I r ⟨_, _, rfl, .inr ⟨q, hf.now S (.tup q rs')⟩⟩
  · obtain ⟨v, rfl, rv⟩ := reps_one rs
    cases rv with
    | ref ha =>
      split at hf
      · rename_i xs g
        obtain ⟨vs, e, rs⟩ := S.lst_at ha g
        exact L2.call_tuple_of pins s σ H _ us Q I r ⟨_, vs, rfl, .inl ⟨SqL.of e, fun p hp => hf.tup S rs hp⟩⟩
      · exact hf.elim
  · exact hf.elim
theorem minL_ok {is : List Int} {k : Int} (h : minL is = some k) : k ∈ is ∧ ∀ y ∈ is, k ≤ y := by
  cases is with
  | nil => cases h
  | cons x xs =>
    simp only [minL, Option.some.injEq] at h
    subst h
    induction xs generalizing x with
    | nil => simp
    | cons y ys ih =>
      simp only [List.foldl_cons]
      obtain ⟨h1, h2⟩ := ih (if y < x then y else x)
      refine ⟨?_, fun z hz => ?_⟩
      · rcases List.mem_cons.mp h1 with e | e
        · rw [e]
          split
          · simp
          · simp
        · exact List.mem_cons_of_mem _ (List.mem_cons_of_mem _ e)
      · have h0 := h2 _ List.mem_cons_self
        rcases List.mem_cons.mp hz with e | hz
        · subst e; exact Int.le_trans h0 (by split <;> omega)
        · rcases List.mem_cons.mp hz with e | hz
          · subst e; exact Int.le_trans h0 (by split <;> omega)
          · exact h2 _ (List.mem_cons_of_mem _ hz)
theorem maxL_ok {is : List Int} {k : Int} (h : maxL is = some k) : k ∈ is ∧ ∀ y ∈ is, y ≤ k := by
  cases is with
  | nil => cases h
  | cons x xs =>
    simp only [maxL, Option.some.injEq] at h
    subst h
    induction xs generalizing x with
    | nil => simp
    | cons y ys ih =>
      simp only [List.foldl_cons]
      obtain ⟨h1, h2⟩ := ih (if y > x then y else x)
      refine ⟨?_, fun z hz => ?_⟩
      · rcases List.mem_cons.mp h1 with e | e
        · rw [e]
          split
          · simp
          · simp
        · exact List.mem_cons_of_mem _ (List.mem_cons_of_mem _ e)
      · have h0 := h2 _ List.mem_cons_self
        rcases List.mem_cons.mp hz with e | hz
        · subst e; exact Int.le_trans (by split <;> omega) h0
        · rcases List.mem_cons.mp hz with e | hz
          · subst e; exact Int.le_trans (by split <;> omega) h0
          · exact h2 _ (List.mem_cons_of_mem _ hz)
theorem blt_min (hc : X.calm = true) : CallR X (.builtin "min") (RLD m E X minV) := by
  intro pins s σ H xs us Q I r h
  obtain ⟨ρ, st, ds, S, rs, hf⟩ := h
  unfold minV at hf
  split at hf
  · cases rs with
    | cons a b =>
      obtain ⟨v, rfl, rv⟩ := reps_one b
      cases a; cases rv
      exact L2.call_min2 hc pins s σ H _ us Q I r ⟨_, _, rfl, hf.now S (.int _)⟩
  · obtain ⟨v, rfl, rv⟩ := reps_one rs
    cases rv with
    | ref ha =>
      split at hf
      · rename_i xs g
        obtain ⟨b, hb, hf⟩ := Fin.opt hf
        obtain ⟨k, hk, rfl⟩ := Option.map_eq_some_iff.mp hb
        obtain ⟨is, hi, hk⟩ := Option.bind_eq_some_iff.mp hk
        obtain ⟨vs, q, rs⟩ := S.lists ha g
        obtain rfl := allOpt_ints hi rs
        obtain ⟨h1, h2⟩ := minL_ok hk
        refine L2.cr_min hc pins s σ H _ us Q I r ⟨_, is, rfl, q, List.length_pos_of_mem h1, fun k' h3 h4 => ?_⟩
        have : k' = k := Int.le_antisymm (h4 _ h1) (h2 _ h3)
        subst this
        exact hf.now S (.int _)
      · exact hf.elim
  · exact hf.elim
theorem blt_max (hc : X.calm = true) : CallR X (.builtin "max") (RLD m E X maxV) := by
  intro pins s σ H xs us Q I r h
  obtain ⟨ρ, st, ds, S, rs, hf⟩ := h
  unfold maxV at hf
  split at hf
  · obtain ⟨v, rfl, rv⟩ := reps_one rs
    cases rv with
    | ref ha =>
      split at hf
      · rename_i xs g
        obtain ⟨b, hb, hf⟩ := Fin.opt hf
        obtain ⟨k, hk, rfl⟩ := Option.map_eq_some_iff.mp hb
        obtain ⟨is, hi, hk⟩ := Option.bind_eq_some_iff.mp hk
        obtain ⟨vs, q, rs⟩ := S.lists ha g
        obtain rfl := allOpt_ints hi rs
        obtain ⟨h1, h2⟩ := maxL_ok hk
        refine L2.cr_max hc pins s σ H _ us Q I r ⟨_, is, rfl, q, List.length_pos_of_mem h1, fun k' h3 h4 => ?_⟩
        have : k' = k := Int.le_antisymm (h2 _ h3) (h4 _ h1)
        subst this
        exact hf.now S (.int _)
      · exact hf.elim
  · exact hf.elim
end
end VI
/-! VIh: dicts as they are walked; len, list; methods, by values. -/
namespace VI
open PySem PySem.Spec PyProof.Rows L2
section
variable {m : Md} {E : XK} {X : Cx} {pins : List (Addr × Obj)} {σ : L2.St} {ρ : List Addr} {H : Hp} {st : Store} {s : Shared}

theorem paired_at {α β : Type} {F : α → β → Prop} : ∀ {l : List α} {m : List β} {i : Nat} {b : β}, Paired F l m → m[i]? = some b → ∃ a, l[i]? = some a ∧ F a b
  | _, _, _, _, .nil, e => by simp at e
  | _, _, 0, _, .cons h _, e => by simp at e; subst e; exact ⟨_, rfl, h⟩
  | _, _, i + 1, b, .cons _ t, e => by
    obtain ⟨a, h1, h2⟩ := paired_at (i := i) (b := b) t (by simpa using e)
    exact ⟨a, by simpa using h1, h2⟩
theorem paired_at' {α β : Type} {F : α → β → Prop} : ∀ {l : List α} {m : List β} {i : Nat} {a : α}, Paired F l m → l[i]? = some a → ∃ b, m[i]? = some b ∧ F a b
  | _, _, _, _, .nil, e => by simp at e
  | _, _, 0, _, .cons h _, e => by simp at e; subst e; exact ⟨_, rfl, h⟩
  | _, _, i + 1, b, .cons _ t, e => by
    obtain ⟨a, h1, h2⟩ := paired_at' (i := i) (a := b) t (by simpa using e)
    exact ⟨a, by simpa using h1, h2⟩
theorem leafK_kV {k : D} {j : Key} (h : leafK k = some j) (K : PySem.W.Frag) (ρ : List Addr) (H : Hp) : Rep K ρ H k (kV j) := by
  cases k <;> simp only [leafK, Option.some.injEq, reduceCtorEq] at h <;> subst h
  · exact .int _
  · exact .str _
/-- a dict's entries, one by one -/
theorem dct_raw (I : Inv X pins σ H s) {lk : Bool} {kvs : List (D × D)} {a : Addr} (r : DRep X.prog X.w X.K ρ H lk kvs a) :
    ∃ es ep, s.heap.DictRaw a es ep ∧ es.size = kvs.length ∧ ∀ i (hi : i < es.size), ∃ p vk vd, kvs[i]? = some p ∧ RelV vk es[i].key ∧ Rep X.K ρ H p.1 vk ∧ RelV vd es[i].val ∧ Rep X.K ρ H p.2 vd := by
  obtain ⟨hz, hs, hv⟩ := r
  rcases hv with ⟨kv, q, lp⟩ | ⟨ne, xs, q, tp, nd⟩
  · obtain ⟨_, _, vs, rel, dd⟩ := q.ok I
    obtain ⟨es, ep, hr, hsz, he⟩ := dd.raw
    have e1 : vs.length = kv.length := (paired_len rel).symm
    have e2 : kvs.length = kv.length := paired_len lp
    refine ⟨es, ep, hr, by omega, fun i hi => ?_⟩
    have hi' : i < kv.length := by omega
    obtain ⟨y, hy, ry⟩ := paired_at' rel (List.getElem?_eq_getElem hi')
    obtain ⟨p, hp, rp⟩ := paired_at lp (List.getElem?_eq_getElem hi')
    obtain ⟨k1, k2⟩ := he i hi y.1 y.2 hy
    refine ⟨p, kV (kv[i]).1, (kv[i]).2, hp, ?_, leafK_kV rp.1 _ _ _, ?_, rp.2⟩
    · have : keyIs (kv[i]).1 es[i].key = true := by rw [ry.1]; exact k1
      exact keyIs_rel this
    · rw [k2]; exact ry.2
  · obtain ⟨es, ep, hr, hsz, he⟩ := (dictOfH I q tp nd).raw
    have e2 : kvs.length = xs.length := paired_len tp
    refine ⟨es, ep, hr, by omega, fun i hi => ?_⟩
    obtain ⟨y, hy, k1, k2, _⟩ := he i hi
    obtain ⟨p, hp, rp⟩ := paired_at tp hy
    obtain ⟨v, h1, h2⟩ := rp.2.2.2
    exact ⟨p, .ref y.2.1, v, hp, k1, rp.2.2.1, by rw [k2]; exact h1, h2⟩
theorem SRel.dct_at {nm : Nm} {P : Program} {w : World} {K : PySem.W.Frag} (S : SRel nm P w K ρ H st) {n : Nat} {a : Addr} {lk : Bool} {kvs : List (D × D)} (ha : ρ[n]? = some a) (g : st.get n = some (.dct lk kvs)) : DRep P w K ρ H lk kvs a := by
  obtain ⟨o, g', r⟩ := S.ob n a ha
  rw [g] at g'; cases g'
  exact r
theorem line64 {n : Nat} (h : n ≤ sizeLine) : n < 2 ^ 63 := by rw [sizeLine_eq] at h; omega
theorem blt_len : CallR X (.builtin "len") (RLD m E X lenV) := by
  intro pins s σ H xs us Q I r h
  obtain ⟨ρ, st, ds, S, rs, hf⟩ := h
  unfold lenV at hf
  split at hf
  · obtain ⟨v, rfl, rv⟩ := reps_one rs
    cases rv with
    | tup q rs' =>
      refine L2.call_len_seq pins s σ H _ us Q I r ⟨_, _, rfl, .inr q, ?_⟩
      rw [← rs'.length]
      exact hf.now S (.int _)
  · obtain ⟨v, rfl, rv⟩ := reps_one rs
    cases rv
    split at hf
    · rename_i hl
      refine L2.call_len_str pins s σ H _ us Q I r ⟨_, rfl, by rw [toS_len, ← line_eq]; exact hl, ?_⟩
      rw [toS_len]
      exact hf.now S (.int _)
    · exact hf.elim
  · obtain ⟨v, rfl, rv⟩ := reps_one rs
    cases rv with
    | ref ha =>
      split at hf
      · rename_i xs g
        obtain ⟨vs, e, rs'⟩ := S.lst_at ha g
        refine L2.call_len_seq pins s σ H _ us Q I r ⟨_, vs, rfl, .inl (SqL.of e), ?_⟩
        rw [← rs'.length]
        exact hf.now S (.int _)
      · rename_i xs g
        obtain ⟨o, vs, e, rs'⟩ := S.flst_at ha g
        refine L2.call_len_seq pins s σ H _ us Q I r ⟨_, vs, rfl, .inl (.inl (.inr ⟨o, e⟩)), ?_⟩
        rw [← rs'.length]
        exact hf.now S (.int _)
      · rename_i lk kvs g
        have dr := S.dct_at ha g
        obtain ⟨es, ep, hr, hsz, _⟩ := dct_raw I dr
        obtain ⟨u, rfl, rx⟩ := r.one
        cases rx
        have hz := dr.1
        refine PyProof.Rows.call_len_slot (n := kvs.length) hr.typeIs PySem.F.slot_dict_len (fun Q' hq => call_len_raw dr.2.1 hr ?_) (by omega) (by rw [sizeLine_eq] at hz; omega) ?_
        · rw [hsz]; exact hq
        · exact ⟨.int _, H, I.tok _, ⟨_, rfl⟩, hf.now S (.int _)⟩
      · exact hf.elim
  · exact hf.elim

theorem vals_at : ∀ {vs : List V} {us : List Value}, vs.length = us.length → (∀ (j : Nat) (x : V) (u : Value), vs[j]? = some x → us[j]? = some u → RelV x u) → Vals vs us := fun h f => vals_of_at h f
/-- a list whose items are told one by one -/
theorem reps_of {ds : List D} {us : List Value} (hl : ds.length = us.length) (h : ∀ (j : Nat) (d : D) (u : Value), ds[j]? = some d → us[j]? = some u → ∃ v, RelV v u ∧ Rep X.K ρ H d v) : ∃ vs, Vals vs us ∧ Reps X.K ρ H ds vs := by
  induction ds generalizing us with
  | nil =>
    cases us with
    | nil => exact ⟨[], .nil, .nil⟩
    | cons u us => simp at hl
  | cons d ds ih =>
    cases us with
    | nil => simp at hl
    | cons u us =>
      obtain ⟨v, h1, h2⟩ := h 0 d u rfl rfl
      obtain ⟨vs, h3, h4⟩ := ih (us := us) (by simpa using hl) fun j x y e1 e2 => h (j + 1) x y (by simpa using e1) (by simpa using e2)
      exact ⟨v :: vs, .cons h1 h3, .cons h2 h4⟩
theorem blt_list (hc : X.calm = true) : CallR X (.type "list") (RLD m E X listV) := by
  intro pins s σ H xs us Q I r h
  obtain ⟨ρ, st, ds, S, rs, hf⟩ := h
  unfold listV at hf
  split at hf
  · obtain ⟨v, rfl, rv⟩ := reps_one rs
    cases rv with
    | tup q rs' => exact L2.call_list_of pins s σ H _ us Q I r ⟨_, _, rfl, .inr q, fun p hp => hf.lst S rs' hp⟩
  · obtain ⟨v, rfl, rv⟩ := reps_one rs
    cases rv with
    | str _ =>
      split at hf
      · rename_i x hl
        obtain ⟨u, rfl, rx⟩ := r.one
        obtain ⟨t, rfl⟩ := rx
        have hn : (toS x).cps.size ≤ sizeLine := by have := toS_len x; unfold Str.length at this; rw [this, ← line_eq]; exact hl
        refine call_list_str (I.ok.hd hc) (toS x) t (hn := hn) fun h' tk acc c' hk hS' hacc => ?_
        have hsz : acc.toList.length = x.length := by
          have := hacc.1
          have h2 := toS_len x
          unfold Str.length at h2
          rw [Array.length_toList, this, h2]
        obtain ⟨vs, h1, h2⟩ := reps_of (X := X) (ρ := ρ) (H := H) (ds := x.map fun c => D.str [c]) (us := acc.toList) (by rw [List.length_map, hsz]) fun j d u e1 e2 => by
          obtain ⟨c, u', hc', e⟩ := hacc.2 j u (by rw [← Array.getElem?_toList]; exact e2)
          subst e
          rw [List.getElem?_map] at e1
          obtain ⟨c2, hc2, rfl⟩ := Option.map_eq_some_iff.mp e1
          have : c2 = c := by
            have h5 : (toS x).cps[j]? = x[j]? := by simp [toS]
            rw [h5, hc2] at hc'
            exact Option.some.inj hc'
          subst this
          exact ⟨.str (toS [c2]), ⟨u', rfl⟩, .str _⟩
        have hz : vs.length ≤ sizeLine := by rw [← h2.length, List.length_map, ← line_eq]; exact hl
        exact ⟨.ref s.heap.objs.size, upd H s.heap.objs.size (.lst vs), I.laid hk (Nat.le_refl _) (show ObjOk X.prog X.w _ _ _ (.lst vs) from ⟨hz, acc.toList, c', h1, by rw [Array.toArray_toList]; exact hS'⟩), rfl, hf.lst S h2 (I.hok.fresh (Nat.le_refl _))⟩
      · exact hf.elim
  · obtain ⟨v, rfl, rv⟩ := reps_one rs
    cases rv with
    | ref ha =>
      split at hf
      · rename_i xs g
        obtain ⟨vs, e, rs'⟩ := S.lst_at ha g
        exact L2.call_list_of pins s σ H _ us Q I r ⟨_, vs, rfl, .inl (SqL.of e), fun p hp => hf.lst S rs' hp⟩
      · rename_i xs g
        obtain ⟨o, vs, e, rs'⟩ := S.flst_at ha g
        exact L2.call_list_of pins s σ H _ us Q I r ⟨_, vs, rfl, .inl (.inl (.inr ⟨o, e⟩)), fun p hp => hf.lst S rs' hp⟩
      · rename_i lk kvs g
        have dr := S.dct_at ha g
        obtain ⟨es, ep, hr, hsz, he⟩ := dct_raw I dr
        obtain ⟨u, rfl, rx⟩ := r.one
        cases rx
        refine PySem.W.kdl_call (KdlSrc.rawDict (ep := ep) dr.2.1) (I.ok.hd hc) hr (by rw [hsz]; exact dr.1) fun h' tk acc c' hk hS' hacc => ?_
        obtain ⟨vs, h1, h2⟩ := reps_of (X := X) (ρ := ρ) (H := H) (ds := kvs.map (·.1)) (us := acc.toList) (by have := hacc.1; simp; omega) fun j d u e1 e2 => by
          obtain ⟨hj, rfl⟩ := hacc.2 j u (by rw [← Array.getElem?_toList]; exact e2)
          obtain ⟨p, vk, vd, h1, h2, h3, _⟩ := he j hj
          rw [List.getElem?_map, h1] at e1
          cases e1
          exact ⟨vk, h2, h3⟩
        have hz : vs.length ≤ sizeLine := by rw [← h2.length, List.length_map]; exact dr.1
        exact ⟨.ref s.heap.objs.size, upd H s.heap.objs.size (.lst vs), I.laid hk (Nat.le_refl _) (show ObjOk X.prog X.w _ _ _ (.lst vs) from ⟨hz, acc.toList, c', h1, by rw [Array.toArray_toList]; exact hS'⟩), rfl, hf.lst S h2 (I.hok.fresh (Nat.le_refl _))⟩
      · exact hf.elim
  · exact hf.elim

/-! ### methods -/
def RMt (m : Md) (E : XK) (X : Cx) (f : D → List D → Store → R D) : V → List V → Hp → VK → Prop := fun x xs H Q => ∃ ρ st d ds, Rel m X ρ H st ∧ Rep X.K ρ H d x ∧ Reps X.K ρ H ds xs ∧ Fin m E X ρ H (f d ds st) (rD X) Q
/-- a list of the store is changed by a method -/
theorem Fin.set {n : Nat} {a : Addr} {ys : List D} {us vs : List V} {d : D} {v : V} {Q : VK} (h : Fin m E X ρ H (.ok d (st.set n (.lst ys))) (rD X) Q) (S : Rel m X ρ H st) (ha : ρ[n]? = some a) (e : H a = some (.lst vs)) (rs : Reps X.K ρ H ys us) (rd : Rep X.K ρ H d v) : Q v (upd H a (.lst us)) := by
  obtain ⟨S', st'⟩ := SRel.lset (ys := ys) (us := us) S ha rs
  exact h ρ _ v (st' _ e) S' (Rep.mono S (st' _ e) _ _ rd)
theorem mt_append : MtR X "list.append" (RMt m E X appendV) := by
  intro pins s σ H x xs v us Q I rx rv h
  obtain ⟨ρ, st, d, ds, S, r, rs, hf⟩ := h
  unfold appendV at hf
  split at hf
  · obtain ⟨y, rfl, ry⟩ := reps_one rs
    cases r with
    | ref ha =>
      split at hf
      · rename_i zs g
        split at hf
        · rename_i hl
          obtain ⟨vs, e, rz⟩ := S.lst_at ha g
          exact L2.mt_append pins s σ H _ _ v us Q I rx rv ⟨_, vs, y, rfl, rfl, e, by rw [← rz.length, ← line_eq]; exact hl, hf.set S ha e (rz.append (.cons ry .nil)) .non⟩
        · exact hf.elim
      · exact hf.elim
  · exact hf.elim
theorem mt_extend : MtR X "list.extend" (RMt m E X extendV) := by
  intro pins s σ H x xs v us Q I rx rv h
  obtain ⟨ρ, st, d, ds, S, r, rs, hf⟩ := h
  unfold extendV at hf
  split at hf
  · obtain ⟨y, rfl, ry⟩ := reps_one rs
    cases r with
    | ref ha =>
      cases ry with
      | ref hb =>
        split at hf
        · rename_i zs ys g g2
          split at hf
          · rename_i hl
            obtain ⟨vs, e, rz⟩ := S.lst_at ha g
            obtain ⟨ws, e2, rw'⟩ := S.lst_at hb g2
            exact L2.mt_extend pins s σ H _ _ v us Q I rx rv ⟨_, _, vs, ws, rfl, rfl, e, e2, by rw [← rz.length, ← rw'.length, ← line_eq]; exact hl, hf.set S ha e (rz.append rw') .non⟩
          · exact hf.elim
        · exact hf.elim
  · exact hf.elim
theorem mt_pop : MtR X "list.pop" (RMt m E X popV) := by
  intro pins s σ H x xs v us Q I rx rv h
  obtain ⟨ρ, st, d, ds, S, r, rs, hf⟩ := h
  unfold popV at hf
  split at hf
  · cases rs
    cases r with
    | ref ha =>
      split at hf
      · rename_i zs g
        split at hf
        · rename_i y hy
          obtain ⟨vs, e, rz⟩ := S.lst_at ha g
          obtain ⟨w', h1, h2⟩ := rz.get hy
          exact L2.mt_pop pins s σ H _ _ v us Q I rx rv ⟨_, vs, w', rfl, rfl, e, by rw [← rz.length]; exact h1, hf.set S ha e rz.dropLast h2⟩
        · exact hf.elim
      · exact hf.elim
  · obtain ⟨y, rfl, ry⟩ := reps_one rs
    cases ry
    cases r with
    | ref ha =>
      split at hf
      · rename_i zs g
        split at hf
        · rename_i j hj
          split at hf
          · rename_i y hy
            obtain ⟨vs, e, rz⟩ := S.lst_at ha g
            obtain ⟨w', h1, h2⟩ := rz.get hy
            obtain ⟨q1, q2, q3, q4⟩ := ixN_seq hj
            have hz := (I.lstM e).1
            rw [rz.length] at q1 q3 q4
            rw [sizeLine_eq] at hz
            exact L2.mt_popAt pins s σ H _ _ v us Q I rx rv ⟨_, vs, _, j, w', rfl, rfl, e, by omega, by omega, q1, h1, hf.set S ha e (rz.eraseIdx j) h2⟩
          · exact hf.elim
        · exact hf.elim
      · exact hf.elim
  · exact hf.elim
theorem mt_reverse : MtR X "list.reverse" (RMt m E X reverseV) := by
  intro pins s σ H x xs v us Q I rx rv h
  obtain ⟨ρ, st, d, ds, S, r, rs, hf⟩ := h
  unfold reverseV at hf
  split at hf
  · cases rs
    cases r with
    | ref ha =>
      split at hf
      · rename_i zs g
        obtain ⟨vs, e, rz⟩ := S.lst_at ha g
        exact L2.mt_reverse pins s σ H _ _ v us Q I rx rv ⟨_, vs, rfl, rfl, e, hf.set S ha e rz.reverse .non⟩
      · exact hf.elim
  · exact hf.elim
theorem mt_clear : MtR X "list.clear" (RMt m E X clearV) := by
  intro pins s σ H x xs v us Q I rx rv h
  obtain ⟨ρ, st, d, ds, S, r, rs, hf⟩ := h
  unfold clearV at hf
  split at hf
  · cases rs
    cases r with
    | ref ha =>
      split at hf
      · rename_i zs g
        obtain ⟨vs, e, rz⟩ := S.lst_at ha g
        exact L2.mt_clear pins s σ H _ _ v us Q I rx rv ⟨_, vs, rfl, rfl, e, hf.set S ha e .nil .non⟩
      · exact hf.elim
  · exact hf.elim
theorem join_eq' (z : List Nat) : ∀ ts : List (List Nat), Str.join (toS z) (ts.map toS) = toS (joinS z ts)
  | [] => rfl
  | [x] => rfl
  | x :: y :: r => by
    show toS x ++ toS z ++ Str.join (toS z) ((y :: r).map toS) = toS (x ++ z ++ joinS z (y :: r))
    rw [join_eq' z (y :: r), toS_app, toS_app]
theorem join_eq (z : List Nat) (ts : List (List Nat)) : Txt.join (toS z) (ts.map toS) = toS (joinS z ts) := (TL.join_eq _ _).trans (join_eq' z ts)
theorem mt_join : MtR X "str.join" (RMt m E X joinV) := by
  intro pins s σ H x xs v us Q I rx rv h
  obtain ⟨ρ, st, d, ds, S, r, rs, hf⟩ := h
  unfold joinV at hf
  split at hf
  · obtain ⟨y, rfl, ry⟩ := reps_one rs
    cases r
    cases ry with
    | ref ha =>
      split at hf
      · rename_i zs g
        split at hf
        · rename_i ts ht
          split at hf
          · rename_i hl
            obtain ⟨vs, q, rz⟩ := S.lists ha g
            obtain rfl := allOpt_strs ht rz
            refine L2.mt_join pins s σ H _ _ v us Q I rx rv ⟨_, _, ts.map toS, rfl, rfl, .inl q, ?_, ?_⟩
            · have e1 : ((ts.map toS).map (·.length)) = ts.map (·.length) := by
                rw [List.map_map]
                exact List.map_congr_left fun x _ => toS_len x
              rw [e1, List.length_map, toS_len]
              exact hl
            · rw [join_eq]
              exact hf.now S (.str _)
          · exact hf.elim
        · exact hf.elim
      · exact hf.elim
  · exact hf.elim
end
end VI
/-! VIi: expressions, construct by construct. -/
namespace VI
open PySem PySem.Spec PyProof.Rows L2
section
variable (m : Md) (E : XK) (X : Cx)
def tEv (e : Ex) : TE := fun σ H Q => ∃ ρ env st, ERel X ρ H env σ ∧ Rel m X ρ H st ∧ Fin m E X ρ H (evE m.T m.F m.call e env st) (rD X) Q
def tEvX (es : Xs) : TA := fun σ H Q => ∃ ρ env st, ERel X ρ H env σ ∧ Rel m X ρ H st ∧ Fin m E X ρ H (evX m.T m.F m.call es env st) (rDs X) Q
def tEvT (e : Ex) : TT := fun σ H Q => ∃ ρ env st, ERel X ρ H env σ ∧ Rel m X ρ H st ∧ Fin m E X ρ H ((evE m.T m.F m.call e env st).bind boolOf) rB Q
end
section
variable {m : Md} {E : XK} {X : Cx} {e a b c : Expr} {x y z : Ex} {pos : Pos}
theorem imE {t t' : TE} (h : PE X e t) (k : ∀ σ H Q, t' σ H Q → t σ H Q) : PE X e t' := ⟨fun pins s σ H Q I q => h.run pins s σ H Q I (k σ H Q q)⟩
theorem imT {t t' : TT} (h : PT X e t) (k : ∀ σ H Q, t' σ H Q → t σ H Q) : PT X e t' := ⟨fun pins s σ H Q I q => h.run pins s σ H Q I (k σ H Q q)⟩
theorem imW {t t' : TT} (h : PW X e t) (k : ∀ σ H Q, t' σ H Q → t σ H Q) : PW X e t' := ⟨fun wh pins s σ H Q I q => h.run wh pins s σ H Q I (k σ H Q q)⟩
theorem imA {es : List Expr} {t t' : TA} (h : PA X es t) (k : ∀ σ H Q, t' σ H Q → t σ H Q) : PA X es t' := ⟨fun p pins s σ H Q I q => h.run p pins s σ H Q I (k σ H Q q)⟩
theorem bool_inv {ρ : List Addr} {H : Hp} {st : Store} {β γ : Type} {d : D} {f : Bool → Store → R γ} {rep : List Addr → Hp → γ → β → Prop} {Q : β → Hp → Prop} (h : Fin m E X ρ H ((boolOf d st).bind f) rep Q) : ∃ k, d = .bl k ∧ Fin m E X ρ H (f k st) rep Q := by
  cases d with
  | bl k => exact ⟨k, rfl, h⟩
  | _ => exact h.elim

/-! constants, names -/
theorem se_int {i : Int} {j : Nat} : PE X (.Constant (.int i) j pos) (tEv m E X (.c (.int i))) := imE pe_int fun σ H Q ⟨ρ, env, st, he, S, hf⟩ => hf.now S (.int i)
theorem se_bl {i : Bool} {j : Nat} : PE X (.Constant (.bool i) j pos) (tEv m E X (.c (.bl i))) := imE pe_bl fun σ H Q ⟨ρ, env, st, he, S, hf⟩ => hf.now S (.bl i)
theorem se_non {j : Nat} : PE X (.Constant .none j pos) (tEv m E X (.c .non)) := imE pe_non fun σ H Q ⟨ρ, env, st, he, S, hf⟩ => hf.now S .non
theorem se_str {i : Str} {j : Nat} : PE X (.Constant (.str i) j pos) (tEv m E X (.c (.str i.cps.toList))) := imE pe_str fun σ H Q ⟨ρ, env, st, he, S, hf⟩ => by
  have := hf.now S (.str i.cps.toList)
  have e : toS i.cps.toList = i := by cases i; simp [toS]
  rw [e] at this
  exact this
theorem se_var {i : Nat} {x : Str} (hN : X.N[i]? = some x) (hv : Vis X.env.scope x) (hd : (x == ("__debug__" : Str)) = false) (hcd : (x == ("__classdict__" : Str)) = false) : PE X (.Name x pos) (tEv m E X (.v i)) := imE (pe_var hN hv hd hcd) fun σ H Q ⟨ρ, env, st, he, S, hf⟩ => by
  simp only [evE] at hf
  split at hf
  · rename_i d hd
    obtain ⟨v, h1, h2⟩ := he.at_ i d hd
    exact ⟨v, h1, hf.now S h2⟩
  · exact hf.elim
/-- a module's constant -/
theorem se_glob {x : Str} {d : D} {v : V} {u : Value} (hg : Gl X x) (hm : X.mg x = some u) (ru : RelV v u) (rd : ∀ ρ H, Rep X.K ρ H d v) (hd : (x == ("__debug__" : Str)) = false) : PE X (.Name x pos) (tEv m E X (.c d)) :=
  ⟨fun pins s σ H Q I ⟨ρ, env, st, he, S, hf⟩ => ld_glob I hg hm ⟨v, H, I, ru, hf.now S (rd ρ H)⟩ hd⟩

/-! operators -/
theorem se_op {op : Operator} {o : Bop} (ho : OpR X (binaryOp op) (R2D m E X (binV o))) (ha : PE X a (tEv m E X x)) (hb : PE X b (tEv m E X y)) : PE X (.BinOp a op b pos) (tEv m E X (.bin o x y)) :=
  imE (pe_op ho ha hb) fun σ H Q ⟨ρ, env, st, he, S, hf⟩ => by
    simp only [evE] at hf
    refine ⟨ρ, env, st, he, S, hf.bind fun d st1 ρ1 H1 v s1 S1 r1 hf1 => ?_⟩
    refine ⟨ρ1, env, st1, he.mono S s1, S1, hf1.bind fun d2 st2 ρ2 H2 v2 s2 S2 r2 hf2 => ?_⟩
    exact ⟨ρ2, st2, d, d2, S2, Rep.mono S1 s2 _ _ r1, r2, hf2⟩
theorem se_neg (ha : PE X a (tEv m E X x)) : PE X (.UnaryOp .USub a pos) (tEv m E X (.neg x)) :=
  imE (pe_un un_neg ha) fun σ H Q ⟨ρ, env, st, he, S, hf⟩ => by
    simp only [evE] at hf
    refine ⟨ρ, env, st, he, S, hf.bind fun d st1 ρ1 H1 v s1 S1 r1 hf1 => ?_⟩
    cases r1 with
    | int i => exact ⟨i, rfl, hf1.now S1 (.int _)⟩
    | _ => exact hf1.elim
/-- a comparison without an own __eq__ -/
theorem cmpC_plain {T : Tbl} {call : Caller} {o : Cop} {d e : D} {st : Store} (h : clsAt st d = none ∨ (o ≠ .eq ∧ o ≠ .ne)) : cmpC T call o d e st = cmpV o d e st := by
  unfold cmpC
  rcases h with h | ⟨h1, h2⟩
  · rw [h]
  · cases hc : clsAt st d with
    | none => rfl
    | some c => cases o <;> first | rfl | exact absurd rfl h1 | exact absurd rfl h2
theorem se_cmp {op : CmpOp} {o : Cop} (ho : OpR X (compareOp op) (R2D m E X (cmpV o))) (hm : behindInMarks op b = false) (hn : o ≠ .eq ∧ o ≠ .ne) (ha : PE X a (tEv m E X x)) (hb : PE X b (tEv m E X y)) : PE X (.Compare a [op] [b] pos) (tEv m E X (.cmp o x y)) :=
  imE (pe_cmpR ho ha hb hm) fun σ H Q ⟨ρ, env, st, he, S, hf⟩ => by
    simp only [evE] at hf
    refine ⟨ρ, env, st, he, S, hf.bind fun d st1 ρ1 H1 v s1 S1 r1 hf1 => ?_⟩
    refine ⟨ρ1, env, st1, he.mono S s1, S1, hf1.bind fun d2 st2 ρ2 H2 v2 s2 S2 r2 hf2 => ?_⟩
    rw [cmpC_plain (.inr hn)] at hf2
    exact ⟨ρ2, st2, d, d2, S2, Rep.mono S1 s2 _ _ r1, r2, hf2⟩
/-- == and !=: by the values, or by an own __eq__ (given as a rule by values) -/
theorem se_eq {op : CmpOp} {o : Cop} (ho : OpR X (compareOp op) (R2D m E X (cmpC m.T m.call o))) (hm : behindInMarks op b = false) (ha : PE X a (tEv m E X x)) (hb : PE X b (tEv m E X y)) : PE X (.Compare a [op] [b] pos) (tEv m E X (.cmp o x y)) :=
  imE (pe_cmpR ho ha hb hm) fun σ H Q ⟨ρ, env, st, he, S, hf⟩ => by
    simp only [evE] at hf
    refine ⟨ρ, env, st, he, S, hf.bind fun d st1 ρ1 H1 v s1 S1 r1 hf1 => ?_⟩
    refine ⟨ρ1, env, st1, he.mono S s1, S1, hf1.bind fun d2 st2 ρ2 H2 v2 s2 S2 r2 hf2 => ?_⟩
    exact ⟨ρ2, st2, d, d2, S2, Rep.mono S1 s2 _ _ r1, r2, hf2⟩
theorem se_chain {op op' : CmpOp} {o p : Cop} (ho : OpR X (compareOp op) (R2D m E X (cmpV o))) (ho' : OpR X (compareOp op') (R2D m E X (cmpV p))) (hm : lastMarks [op, op'] [b, c] = false) (ha : PE X a (tEv m E X x)) (hb : PE X b (tEv m E X y)) (hc : PE X c (tEv m E X z)) :
    PE X (.Compare a [op, op'] [b, c] pos) (tEv m E X (.chain o p x y z)) :=
  imE (pe_chain ho ho' ha hb hc hm) fun σ H Q ⟨ρ, env, st, he, S, hf⟩ => by
    simp only [evE] at hf
    refine ⟨ρ, env, st, he, S, hf.bind fun d st1 ρ1 H1 v s1 S1 r1 hf1 => ?_⟩
    refine ⟨ρ1, env, st1, he.mono S s1, S1, hf1.bind fun d2 st2 ρ2 H2 v2 s2 S2 r2 hf2 => ?_⟩
    refine ⟨ρ2, st2, d, d2, S2, Rep.mono S1 s2 _ _ r1, r2, hf2.bind fun d3 st3 ρ3 H3 v3 s3 S3 r3 hf3 => ?_⟩
    obtain ⟨k, rfl, hf3⟩ := bool_inv hf3
    cases r3
    refine ⟨k, rfl, ?_⟩
    cases k with
    | false => exact iteF (hf3.now S3 (.bl _))
    | true =>
      refine iteT ⟨ρ3, env, st3, ((he.mono S s1).mono S1 s2).mono S2 s3, S3, Fin.bind hf3 fun d4 st4 ρ4 H4 v4 s4 S4 r4 hf4 => ?_⟩
      exact ⟨ρ4, st4, d2, d4, S4, Rep.mono S2 (s3.trans s4) _ _ r2, r4, hf4⟩
theorem se_and {rest : List Expr} (ha : PE X a (tEv m E X x)) (hb : PE X (.BoolOp .And (b :: rest) pos) (tEv m E X y)) : PE X (.BoolOp .And (a :: b :: rest) pos) (tEv m E X (.and x y)) :=
  imE (pe_and ha hb) fun σ H Q ⟨ρ, env, st, he, S, hf⟩ => by
    simp only [evE] at hf
    refine ⟨ρ, env, st, he, S, hf.bind fun d st1 ρ1 H1 v s1 S1 r1 hf1 => ?_⟩
    obtain ⟨k, rfl, hf1⟩ := bool_inv hf1
    cases r1
    refine ⟨k, rfl, ?_⟩
    cases k with
    | true => exact iteT ⟨ρ1, env, st1, he.mono S s1, S1, hf1⟩
    | false => exact iteF (hf1.now S1 (.bl _))
theorem se_or {rest : List Expr} (ha : PE X a (tEv m E X x)) (hb : PE X (.BoolOp .Or (b :: rest) pos) (tEv m E X y)) : PE X (.BoolOp .Or (a :: b :: rest) pos) (tEv m E X (.or x y)) :=
  imE (pe_or ha hb) fun σ H Q ⟨ρ, env, st, he, S, hf⟩ => by
    simp only [evE] at hf
    refine ⟨ρ, env, st, he, S, hf.bind fun d st1 ρ1 H1 v s1 S1 r1 hf1 => ?_⟩
    obtain ⟨k, rfl, hf1⟩ := bool_inv hf1
    cases r1
    refine ⟨k, rfl, ?_⟩
    cases k with
    | false => exact iteF ⟨ρ1, env, st1, he.mono S s1, S1, hf1⟩
    | true => exact iteT (hf1.now S1 (.bl _))
theorem se_not (ha : PE X a (tEv m E X x)) : PE X (.UnaryOp .Not a pos) (tEv m E X (.not x)) :=
  imE (pe_not ha) fun σ H Q ⟨ρ, env, st, he, S, hf⟩ => by
    simp only [evE] at hf
    refine ⟨ρ, env, st, he, S, hf.bind fun d st1 ρ1 H1 v s1 S1 r1 hf1 => ?_⟩
    obtain ⟨k, rfl, hf1⟩ := bool_inv hf1
    cases r1
    exact ⟨k, rfl, hf1.now S1 (.bl _)⟩
theorem se_ite {cx ax bx : Ex} (hc : PT X c (tEvT m E X cx)) (ha : PE X a (tEv m E X ax)) (hb : PE X b (tEv m E X bx)) : PE X (.IfExp c a b pos) (tEv m E X (.ite cx ax bx)) :=
  imE (pe_ifExp hc ha hb) fun σ H Q ⟨ρ, env, st, he, S, hf⟩ => by
    simp only [evE] at hf
    have hf' : Fin m E X ρ H (((evE m.T m.F m.call cx env st).bind boolOf).bind fun k s => if k then evE m.T m.F m.call ax env s else evE m.T m.F m.call bx env s) (rD X) Q := by
      cases h : evE m.T m.F m.call cx env st <;> simp only [h, R.bind] at hf ⊢ <;> exact hf
    refine ⟨ρ, env, st, he, S, hf'.bind fun k st1 ρ1 H1 k' s1 S1 r1 hf1 => ?_⟩
    cases r1
    cases k with
    | true => exact iteT ⟨ρ1, env, st1, he.mono S s1, S1, hf1⟩
    | false => exact iteF ⟨ρ1, env, st1, he.mono S s1, S1, hf1⟩
/-! tests -/
theorem st_val (h : PE X e (tEv m E X x)) (he : ∀ whole, isTrue e X.env whole = (do let v ← whole; standAt e.pos; holding [v] (truthy v))) : PT X e (tEvT m E X x) :=
  imT (pt_val h he) fun σ H Q ⟨ρ, env, st, he, S, hf⟩ => ⟨ρ, env, st, he, S, Fin.bind (f := boolOf) hf fun d st1 ρ1 H1 v s1 S1 r1 hf1 => by
    cases d with
    | bl k => cases r1; exact ⟨k, rfl, hf1.now S1 rfl⟩
    | _ => exact hf1.elim⟩
theorem bind_boolOf {ρ : List Addr} {H : Hp} {r : R D} {Q : Bool → Hp → Prop} (h : Fin m E X ρ H (r.bind boolOf) rB Q) : Fin m E X ρ H r (rD X) (fun v H1 => ∃ k, v = .bl k ∧ Q k H1) :=
  Fin.bind (f := boolOf) h fun d st1 ρ1 H1 v s1 S1 r1 hf1 => by
    cases d with
    | bl k => cases r1; exact ⟨k, rfl, hf1.now S1 rfl⟩
    | _ => exact hf1.elim
theorem bind_assoc {α β γ : Type} (r : R α) (f : α → Store → R β) (g : β → Store → R γ) : (r.bind f).bind g = r.bind fun a s => (f a s).bind g := by cases r <;> rfl
theorem st_cmp {op : CmpOp} {o : Cop} (ho : OpR X (compareOp op) (R2D m E X (cmpC m.T m.call o))) (hm : behindInMarks op b = false) (ha : PE X a (tEv m E X x)) (hb : PE X b (tEv m E X y)) : PT X (.Compare a [op] [b] pos) (tEvT m E X (.cmp o x y)) :=
  imT (pt_cmpR ho ha hb hm) fun σ H Q ⟨ρ, env, st, he, S, hf⟩ => by
    simp only [evE, bind_assoc] at hf
    refine ⟨ρ, env, st, he, S, hf.bind fun d st1 ρ1 H1 v s1 S1 r1 hf1 => ?_⟩
    refine ⟨ρ1, env, st1, he.mono S s1, S1, hf1.bind fun d2 st2 ρ2 H2 v2 s2 S2 r2 hf2 => ?_⟩
    exact ⟨ρ2, st2, d, d2, S2, Rep.mono S1 s2 _ _ r1, r2, bind_boolOf hf2⟩
theorem opr_plain {op : CmpOp} {o : Cop} (hn : o ≠ .eq ∧ o ≠ .ne) (ho : OpR X (compareOp op) (R2D m E X (cmpV o))) : OpR X (compareOp op) (R2D m E X (cmpC m.T m.call o)) := by
  intro pins s σ H x y v u Q I rx ry h
  obtain ⟨ρ, st, d, e, S, r1, r2, hf⟩ := h
  rw [cmpC_plain (.inr hn)] at hf
  exact ho pins s σ H x y v u Q I rx ry ⟨ρ, st, d, e, S, r1, r2, hf⟩
theorem bind_not (r : R D) : (r.bind fun x s => (boolOf x s).bind fun k s => R.ok (D.bl !k) s).bind boolOf = (r.bind boolOf).bind fun k s => .ok (!k) s := by
  cases r with
  | ok d st => cases d <;> rfl
  | exc c x s => rfl
  | stuck => rfl
theorem st_not (ha : PT X a (tEvT m E X x)) : PT X (.UnaryOp .Not a pos) (tEvT m E X (.not x)) :=
  imT (pt_not ha) fun σ H Q ⟨ρ, env, st, he, S, hf⟩ => by
    simp only [evE] at hf
    rw [bind_not] at hf
    refine ⟨ρ, env, st, he, S, hf.bind fun k st1 ρ1 H1 k' s1 S1 r1 hf1 => ?_⟩
    cases r1
    exact hf1.now S1 rfl

theorem st_chain {op op' : CmpOp} {o p : Cop} (ho : OpR X (compareOp op) (R2D m E X (cmpV o))) (ho' : OpR X (compareOp op') (R2D m E X (cmpV p))) (hm : lastMarks [op, op'] [b, c] = false) (ha : PE X a (tEv m E X x)) (hb : PE X b (tEv m E X y)) (hc : PE X c (tEv m E X z)) :
    PT X (.Compare a [op, op'] [b, c] pos) (tEvT m E X (.chain o p x y z)) :=
  imT (pt_chain ho ho' ha hb hc hm) fun σ H Q ⟨ρ, env, st, he, S, hf⟩ => by
    simp only [evE, bind_assoc] at hf
    refine ⟨ρ, env, st, he, S, hf.bind fun d st1 ρ1 H1 v s1 S1 r1 hf1 => ?_⟩
    refine ⟨ρ1, env, st1, he.mono S s1, S1, hf1.bind fun d2 st2 ρ2 H2 v2 s2 S2 r2 hf2 => ?_⟩
    refine ⟨ρ2, st2, d, d2, S2, Rep.mono S1 s2 _ _ r1, r2, hf2.bind fun d3 st3 ρ3 H3 v3 s3 S3 r3 hf3 => ?_⟩
    obtain ⟨k, rfl, hf3⟩ := bool_inv hf3
    cases r3
    refine ⟨k, rfl, ?_⟩
    cases k with
    | false => exact iteF ⟨false, rfl, hf3.now S3 rfl⟩
    | true =>
      have hf3 : Fin m E X ρ3 H3 (((evE m.T m.F m.call z env st3).bind fun z s => cmpV p d2 z s).bind boolOf) rB Q := hf3
      rw [bind_assoc] at hf3
      refine iteT ⟨ρ3, env, st3, ((he.mono S s1).mono S1 s2).mono S2 s3, S3, Fin.bind hf3 fun d4 st4 ρ4 H4 v4 s4 S4 r4 hf4 => ?_⟩
      exact ⟨ρ4, st4, d2, d4, S4, Rep.mono S2 (s3.trans s4) _ _ r2, r4, bind_boolOf hf4⟩
theorem bind_and {T : Tbl} {F : Nat} {call : Caller} (env : Env) (x y : Ex) (st : Store) : (evE T F call (.and x y) env st).bind boolOf = ((evE T F call x env st).bind boolOf).bind fun k s => if k then (evE T F call y env s).bind boolOf else .ok false s := by
  simp only [evE, bind_assoc]
  congr 1
  funext d s
  cases d <;> try rfl
  rename_i b
  cases b <;> rfl
theorem bind_or {T : Tbl} {F : Nat} {call : Caller} (env : Env) (x y : Ex) (st : Store) : (evE T F call (.or x y) env st).bind boolOf = ((evE T F call x env st).bind boolOf).bind fun k s => if k then .ok true s else (evE T F call y env s).bind boolOf := by
  simp only [evE, bind_assoc]
  congr 1
  funext d s
  cases d <;> try rfl
  rename_i b
  cases b <;> rfl
theorem sw_and {rest : List Expr} (ha : PT X a (tEvT m E X x)) (hb : PW X (.BoolOp .And (b :: rest) pos) (tEvT m E X y)) : PW X (.BoolOp .And (a :: b :: rest) pos) (tEvT m E X (.and x y)) :=
  imW (pw_and ha hb) fun σ H Q ⟨ρ, env, st, he, S, hf⟩ => by
    rw [bind_and] at hf
    refine ⟨ρ, env, st, he, S, hf.bind fun k st1 ρ1 H1 k' s1 S1 r1 hf1 => ?_⟩
    cases r1
    cases k with
    | true => exact iteT ⟨ρ1, env, st1, he.mono S s1, S1, hf1⟩
    | false => exact iteF (hf1.now S1 rfl)
theorem sw_or {rest : List Expr} (ha : PT X a (tEvT m E X x)) (hb : PW X (.BoolOp .Or (b :: rest) pos) (tEvT m E X y)) : PW X (.BoolOp .Or (a :: b :: rest) pos) (tEvT m E X (.or x y)) :=
  imW (pw_or ha hb) fun σ H Q ⟨ρ, env, st, he, S, hf⟩ => by
    rw [bind_or] at hf
    refine ⟨ρ, env, st, he, S, hf.bind fun k st1 ρ1 H1 k' s1 S1 r1 hf1 => ?_⟩
    cases r1
    cases k with
    | false => exact iteF ⟨ρ1, env, st1, he.mono S s1, S1, hf1⟩
    | true => exact iteT (hf1.now S1 rfl)

/-! places, slices -/
theorem se_sub (hu : X.A.units + 65 < cLine) (hs : PlainIx b) (ha : PE X a (tEv m E X x)) (hb : PE X b (tEv m E X y)) : PE X (.Subscript a b pos) (tEv m E X (.sub x y)) :=
  imE (pe_ix (ix_sub (m := m) (E := E) hu) ha hb hs) fun σ H Q ⟨ρ, env, st, he, S, hf⟩ => by
    simp only [evE] at hf
    refine ⟨ρ, env, st, he, S, hf.bind fun d st1 ρ1 H1 v s1 S1 r1 hf1 => ?_⟩
    refine ⟨ρ1, env, st1, he.mono S s1, S1, hf1.bind fun d2 st2 ρ2 H2 v2 s2 S2 r2 hf2 => ?_⟩
    exact ⟨ρ2, st2, d, d2, S2, Rep.mono S1 s2 _ _ r1, r2, hf2⟩
/-- a part of a slice -/
def tPt (m : Md) (E : XK) (X : Cx) (hl : Bool) (l : Ex) : TO := fun σ H Q => ∃ ρ env st, ERel X ρ H env σ ∧ Rel m X ρ H st ∧ Fin m E X ρ H (if hl then (evE m.T m.F m.call l env st).bind partV else .ok none st) (fun _ _ (d o : Option Int) => o = d) Q
theorem so_none : PO X none (tPt m E X false x) := ⟨fun pins s σ H Q I ⟨ρ, env, st, he, S, hf⟩ => po_none.run pins s σ H Q I (hf.now S rfl)⟩
theorem so_some (h : PE X e (tEv m E X x)) : PO X (some e) (tPt m E X true x) := ⟨fun pins s σ H Q I ⟨ρ, env, st, he, S, hf⟩ => (po_some h).run pins s σ H Q I ⟨ρ, env, st, he, S, Fin.bind (f := partV) hf fun d st1 ρ1 H1 v s1 S1 r1 hf1 => by
  cases r1 with
  | int i => exact ⟨i, rfl, hf1.now S1 rfl⟩
  | _ => exact hf1.elim⟩⟩
theorem se_sl {lo hi : Option Expr} {hl hh : Bool} {p2 : Pos} (ha : PE X a (tEv m E X x)) (hlo : PO X lo (tPt m E X hl y)) (hhi : PO X hi (tPt m E X hh z)) : PE X (.Subscript a (.Slice lo hi none p2) pos) (tEv m E X (.sl x hl y hh z)) :=
  imE (pe_slice (sl_any (m := m) (E := E)) ha hlo hhi) fun σ H Q ⟨ρ, env, st, he, S, hf⟩ => by
    simp only [evE] at hf
    refine ⟨ρ, env, st, he, S, hf.bind fun d st1 ρ1 H1 v s1 S1 r1 hf1 => ?_⟩
    refine ⟨ρ1, env, st1, he.mono S s1, S1, hf1.bind fun l st2 ρ2 H2 o2 s2 S2 r2 hf2 => ?_⟩
    cases r2
    refine ⟨ρ2, env, st2, (he.mono S s1).mono S1 s2, S2, hf2.bind fun h st3 ρ3 H3 o3 s3 S3 r3 hf3 => ?_⟩
    cases r3
    exact ⟨ρ3, st3, d, S3, Rep.mono S1 (s2.trans s3) _ _ r1, hf3⟩

/-! arguments, displays -/
theorem sa_nil : PA X [] (tEvX m E X .nil) := imA pa_nil fun σ H Q ⟨ρ, env, st, he, S, hf⟩ => hf.now S .nil
theorem sa_cons {es : List Expr} {ys : Xs} (ha : PE X e (tEv m E X x)) (hr : PA X es (tEvX m E X ys)) (hs : starEach (e :: es) X.env = (false, eval e X.env) :: starEach es X.env) : PA X (e :: es) (tEvX m E X (.cons false x ys)) :=
  imA (pa_cons ha hr hs) fun σ H Q ⟨ρ, env, st, he, S, hf⟩ => by
    simp only [evX] at hf
    refine ⟨ρ, env, st, he, S, hf.bind fun d st1 ρ1 H1 v s1 S1 r1 hf1 => ?_⟩
    have hf1 : Fin m E X ρ1 H1 ((evX m.T m.F m.call ys env st1).bind fun ys s => .ok (d :: ys) s) (rDs X) Q := hf1
    refine ⟨ρ1, env, st1, he.mono S s1, S1, hf1.bind fun ds st2 ρ2 H2 vs s2 S2 r2 hf2 => ?_⟩
    exact hf2.now S2 (.cons (Rep.mono S1 s2 _ _ r1) r2)
theorem se_tup {es : List Expr} {ys : Xs} {k : Nat} (h : PA X es (tEvX m E X ys)) : PE X (.Tuple es k pos) (tEv m E X (.tup ys)) :=
  imE (pe_tup h) fun σ H Q ⟨ρ, env, st, he, S, hf⟩ => by
    simp only [evE] at hf
    refine ⟨ρ, env, st, he, S, hf.bind fun ds st1 ρ1 H1 vs s1 S1 r1 hf1 => ?_⟩
    split at hf1
    · rename_i hl
      exact ⟨by rw [← r1.length, ← line_eq]; exact hl, fun p hp => hf1.tup S1 r1 hp⟩
    · exact hf1.elim
theorem se_lst {es : List Expr} {ys : Xs} (h : PA X es (tEvX m E X ys)) : PE X (.List es pos) (tEv m E X (.lst ys)) :=
  imE (pe_lst h) fun σ H Q ⟨ρ, env, st, he, S, hf⟩ => by
    simp only [evE] at hf
    refine ⟨ρ, env, st, he, S, hf.bind fun ds st1 ρ1 H1 vs s1 S1 r1 hf1 => ?_⟩
    split at hf1
    · rename_i hl
      exact ⟨by rw [← r1.length, ← line_eq]; exact hl, fun p hp => hf1.lst S1 r1 hp⟩
    · exact hf1.elim

/-! built-in functions -/
theorem se_blt {id : String} {f : Blt} {g : List D → Store → R D} {w : Str} {es : List Expr} {ys : Xs} {p : Pos} (hb : bltV f = g) (hc : CallR X (.builtin id) (RLD m E X g)) (hg : Gl X w) (hm : X.mg w = none) (hv : bootBuiltins w = some (.builtin id)) (ha : PA X (e :: es) (tEvX m E X ys)) (hn : w ≠ "__name__") (hdb : (w == ("__debug__" : Str)) = false)
    (he : starEach (e :: es) X.env = (false, eval e X.env) :: starEach es X.env) (hpl : (backTo pos (starEach es X.env)).any (·.1) = false) : PE X (.Call (.Name w p) (e :: es) [] pos) (tEv m E X (.blt f ys)) :=
  imE (pe_callB hc hg hm hv ha hn hdb he hpl) fun σ H Q ⟨ρ, env, st, he, S, hf⟩ => by
    simp only [evE, hb] at hf
    refine ⟨ρ, env, st, he, S, hf.bind fun ds st1 ρ1 H1 vs s1 S1 r1 hf1 => ?_⟩
    exact ⟨ρ1, st1, ds, S1, r1, hf1⟩
theorem se_bltT {id : String} {f : Blt} {g : List D → Store → R D} {w : Str} {es : List Expr} {ys : Xs} {p : Pos} (hb : bltV f = g) (hc : CallR X (.type id) (RLD m E X g)) (hg : Gl X w) (hm : X.mg w = none) (hv : bootBuiltins w = some (.type id)) (ha : PA X (e :: es) (tEvX m E X ys)) (hn : w ≠ "__name__") (hdb : (w == ("__debug__" : Str)) = false)
    (he : starEach (e :: es) X.env = (false, eval e X.env) :: starEach es X.env) (hpl : (backTo pos (starEach es X.env)).any (·.1) = false) : PE X (.Call (.Name w p) (e :: es) [] pos) (tEv m E X (.blt f ys)) :=
  imE (pe_callTy hc hg hm hv ha hn hdb he hpl) fun σ H Q ⟨ρ, env, st, he, S, hf⟩ => by
    simp only [evE, hb] at hf
    refine ⟨ρ, env, st, he, S, hf.bind fun ds st1 ρ1 H1 vs s1 S1 r1 hf1 => ?_⟩
    exact ⟨ρ1, st1, ds, S1, r1, hf1⟩
end
end VI
/-! VIj: calls. -/
namespace VI
open PySem PySem.Spec PyProof.Rows L2
/-- what is wanted behind a result, without a place in the text -/
def FinK {α β : Type} (m : Md) (E : XK) (P : Program) (w : World) (K : PySem.W.Frag) (ρ : List Addr) (H : Hp) (r : R α) (rep : List Addr → Hp → α → β → Prop) (Q : β → Hp → Prop) : Prop := match r with
  | .ok a st => ∀ ρ' H' b, Step ρ H ρ' H' → SRel m.nm P w K ρ' H' st → rep ρ' H' a b → Q b H'
  | .exc c x st => ∀ ρ' H' o C, Step ρ H ρ' H' → SRel m.nm P w K ρ' H' st → m.xA[c]? = some C → XRep K ρ' H' x o → E (.ref C) o H'
  | .stuck => False
/-- what a def promises: it does what the evaluator does -/
def spI (m : Md) (P : Program) (w : World) (K : PySem.W.Frag) (call : Caller) (f np : Nat) : Sp := fun vs H Q E => vs.length = np ∧ ∃ ρ st ds, SRel m.nm P w K ρ H st ∧ Reps K ρ H ds vs ∧ FinK m E P w K ρ H (call f ds st) (fun ρ H d v => Rep K ρ H d v) Q
section
variable {m : Md} {E : XK} {X : Cx} {e a b c : Expr} {x y z : Ex} {pos : Pos}
theorem Fin.k {α β : Type} {ρ : List Addr} {H : Hp} {r : R α} {rep : List Addr → Hp → α → β → Prop} {Q : β → Hp → Prop} (h : Fin m E X ρ H r rep Q) : FinK m E X.prog X.w X.K ρ H r rep Q := by
  cases r <;> exact h
theorem Fin.of_k {α β : Type} {ρ : List Addr} {H : Hp} {r : R α} {rep : List Addr → Hp → α → β → Prop} {Q : β → Hp → Prop} (h : FinK m E X.prog X.w X.K ρ H r rep Q) : Fin m E X ρ H r rep Q := by
  cases r <;> exact h
theorem evX_len {T : Tbl} {F : Nat} {call : Caller} {env : Env} : ∀ (ys : Xs) (n : Nat) (st : Store) (ds : List D) (st' : Store), ys.plain = some n → evX T F call ys env st = .ok ds st' → ds.length = n
  | .nil, n, st, ds, st', h, e => by
    simp only [Xs.plain, Option.some.injEq] at h
    simp only [evX, R.ok.injEq] at e
    rw [← h, ← e.1]; rfl
  | .cons s e r, n, st, ds, st', h, hr => by
    cases s with
    | true => simp [Xs.plain] at h
    | false =>
      simp only [Xs.plain] at h
      obtain ⟨k, hk, rfl⟩ := Option.map_eq_some_iff.mp h
      simp only [evX] at hr
      cases h1 : evE T F call e env st with
      | ok d s1 =>
        rw [h1] at hr
        simp only [R.bind] at hr
        cases h2 : evX T F call r env s1 with
        | ok es s2 =>
          simp only [h2, R.ok.injEq, if_false, Bool.false_eq_true] at hr
          rw [← hr.1, List.length_cons, evX_len r k s1 es s2 hk h2]
        | exc c x s => simp [h2] at hr
        | stuck => simp [h2] at hr
      | exc c x s => simp [h1, R.bind] at hr
      | stuck => simp [h1, R.bind] at hr
/-- f(e, ..) of an own def -/
theorem se_call {k f : Nat} {g : Addr} {fd : FuncData} {ps : List Str} {w : Str} {es : List Expr} {ys : Xs} {p : Pos} (F : FnOk X.prog X.w X.K X.mg X.base (L2.CX X.prog X.w) k g fd ps (spI m X.prog X.w X.K m.call f ps.length)) (hr : Room k X.A) (hg : Gl X w) (hm : X.mg w = some (.ref g)) (hk : PySem.W.keepIn X.K (.ref g) = true)
    (hb : Binds X.K fd ps []) (hx : Passes (L2.CX X.prog X.w) X E) (hl : ys.plain = some ps.length) (ha : PA X (e :: es) (tEvX m E X ys)) (hdb : (w == ("__debug__" : Str)) = false)
    (he : starEach (e :: es) X.env = (false, eval e X.env) :: starEach es X.env) (hpl : (backTo pos (starEach es X.env)).any (·.1) = false) : PE X (.Call (.Name w p) (e :: es) [] pos) (tEv m E X (.call f ys)) :=
  imE (pe_call F hr hg hm hk hb .nil hx ha hdb he hpl) fun σ H Q ⟨ρ, env, st, hen, S, hf⟩ => by
    simp only [evE] at hf
    cases hr' : evX m.T m.F m.call ys env st with
    | ok ds st1 =>
      refine ⟨ρ, env, st, hen, S, ?_⟩
      rw [hr'] at hf ⊢
      intro ρ1 H1 vs s1 S1 r1
      rw [List.append_nil]
      exact ⟨by rw [← r1.length]; exact evX_len _ _ _ _ _ hl hr', ρ1, st1, ds, S1, r1, (Fin.step hf s1).k⟩
    | exc c x' s' => rw [hr'] at hf; exact ⟨ρ, env, st, hen, S, by rw [hr']; exact hf⟩
    | stuck => rw [hr'] at hf; exact hf.elim
theorem se_call0 {k f : Nat} {g : Addr} {fd : FuncData} {ps : List Str} {w : Str} {p : Pos} (F : FnOk X.prog X.w X.K X.mg X.base (L2.CX X.prog X.w) k g fd ps (spI m X.prog X.w X.K m.call f ps.length)) (hr : Room k X.A) (hg : Gl X w) (hm : X.mg w = some (.ref g)) (hk : PySem.W.keepIn X.K (.ref g) = true)
    (hb : Binds X.K fd ps []) (hx : Passes (L2.CX X.prog X.w) X E) (hl : ps.length = 0) (hdb : (w == ("__debug__" : Str)) = false) : PE X (.Call (.Name w p) [] [] pos) (tEv m E X (.call f .nil)) :=
  imE (pe_call0 F hr hg hm hk hb .nil hx hdb) fun σ H Q ⟨ρ, env, st, hen, S, hf⟩ => by
    simp only [evE, evX, R.bind] at hf
    exact ⟨by rw [hl]; rfl, ρ, st, [], S, .nil, hf.k⟩

/-! methods of built-in types -/
/-- the type of what a method is asked of -/
def recvT : Bm → String
  | .append | .pop | .extend | .clear | .reverse | .count | .index => "list"
  | .get => "dict"
  | .join | .split | .replace => "str"
theorem recv_ok {pins : List (Addr × Obj)} {σ : L2.St} {s : Shared} {ρ : List Addr} {H : Hp} {st : Store} {mt : Bm} {d : D} {v : V} {u : Value} (I : Inv X pins σ H s) (S : Rel m X ρ H st) (r : Rep X.K ρ H d v) (ru : RelV v u) (h : recvOk mt d st = true) :
    s.TypeIs u (recvT mt) ∧ ∀ a, u = .ref a → ∃ ob, s.heap.get? a = some ob ∧ ob.dict = none := by
  have lst : ∀ n, d = .ref n → (∃ xs, st.get n = some (.lst xs)) → s.TypeIs u "list" ∧ ∀ a, u = .ref a → ∃ ob, s.heap.get? a = some ob ∧ ob.dict = none := fun n e ⟨xs, g⟩ => by
    subst e
    cases r with
    | ref ha =>
      obtain ⟨vs, e, _⟩ := S.lst_at ha g
      exact tyV_is I ru (.inl ⟨rfl, vs, SqL.of e⟩)
  have str : ∀ x, d = .str x → s.TypeIs u "str" ∧ ∀ a, u = .ref a → ∃ ob, s.heap.get? a = some ob ∧ ob.dict = none := fun x e => by
    subst e
    cases r
    exact tyV_is I ru rfl
  have dct : ∀ n, d = .ref n → (∃ lk kvs, st.get n = some (.dct lk kvs)) → s.TypeIs u "dict" ∧ ∀ a, u = .ref a → ∃ ob, s.heap.get? a = some ob ∧ ob.dict = none := fun n e ⟨lk, kvs, g⟩ => by
    subst e
    cases r with
    | ref ha =>
      cases ru
      obtain ⟨es, ep, ⟨o, h1, h2, h3⟩, _⟩ := dct_raw I (S.dct_at ha g)
      refine ⟨⟨o, h1, h2.1⟩, fun a e => ?_⟩
      cases e
      exact ⟨o, h1, h2.2.1⟩
  unfold recvOk at h
  cases mt <;> simp only at h <;> (split at h <;> first | (split at h <;> first | exact lst _ rfl ⟨_, by assumption⟩ | exact dct _ rfl ⟨_, _, by assumption⟩ | cases h) | exact str _ rfl | cases h)
theorem se_bm {id : String} {mt : Bm} {g : D → List D → Store → R D} {name : Str} {apos cpos : Pos} {o : Expr} {es : List Expr} {ys : Xs} (hb : bmV mt = g) (pa : PlainAttrs (recvT mt)) (slot : Slot (recvT mt) name id) (hty : typeOf (.builtin id) = pure (.type "method_descriptor")) (hm : MtR X id (RMt m E X g))
    (ho : PE X o (tEv m E X x)) (ha : PA X (e :: es) (tEvX m E X ys))
    (hbase : attributeBase o name X.env (eval o X.env) = eval o X.env)
    (hfew : ((backTo cpos (starEach (e :: es) X.env)).all (fun x => !x.1) && (backToKw cpos (keywordEach [] X.env)).all (fun x => x.1.isSome)
      && decide ((e :: es).length + ([] : List Keyword).length + (if ([] : List Keyword).isEmpty then 0 else 1) < 30)) = true)
    (hline : (apos.endLine == cpos.line) = true) (hs : starEach (e :: es) X.env = (false, eval e X.env) :: starEach es X.env) (hplain : (backTo cpos (starEach es X.env)).any (·.1) = false) :
    PE X (.Call (.Attribute o name apos) (e :: es) [] cpos) (tEv m E X (.bm mt x ys)) := by
  refine ⟨fun pins s σ H Q I ⟨ρ, env, st, he, S, hf⟩ => ?_⟩
  simp only [evE, hb] at hf
  refine wpAny_Call_method_late hbase hfew hline rfl (thn (ho.run pins s σ H _ I ⟨ρ, env, st, he, S, hf.bind (Q1 := fun v H1 => ∃ ρ1 st1 d, Step ρ H ρ1 H1 ∧ Rel m X ρ1 H1 st1 ∧ Rep X.K ρ1 H1 d v ∧ recvOk mt d st1 = true ∧ Fin m E X ρ1 H1 ((evX m.T m.F m.call ys env st1).bind fun ds s => g d ds s) (rD X) Q) fun d st1 ρ1 H1 v s1 S1 r1 hf1 => ?_⟩) fun v s1 ⟨v', H1, I1, rv, ρ1, st1, d, stp, S1, r1, hr, hf1⟩ => ?_)
  · split at hf1
    · exact ⟨ρ1, st1, d, s1, S1, r1, by assumption, hf1⟩
    · exact hf1.elim
  · obtain ⟨h1, h2⟩ := recv_ok I1 S1 r1 rv hr
    refine ⟨_, id, pa, slot, hty, h1, h2, ?_⟩
    have hA := ha.run cpos pins s1 σ H1 (fun vs H2 => ∃ ρ2 st2 ds, Step ρ1 H1 ρ2 H2 ∧ Rel m X ρ2 H2 st2 ∧ Reps X.K ρ2 H2 ds vs ∧ Fin m E X ρ2 H2 (g d ds st2) (rD X) Q) I1 ⟨ρ1, env, st1, he.mono S stp, S1, hf1.bind fun ds st2 ρ2 H2 vs s2 S2 r2 hf2 => ⟨ρ2, st2, ds, s2, S2, r2, hf2⟩⟩
    rw [hs] at hA ⊢
    refine Calls.callWith_builtin (by show (false || (backTo cpos (starEach es X.env)).any (·.1)) = false; rw [hplain] <;> rfl) (Calls.evalArgs_plain ?_)
    exact thn hA fun us s2 ⟨vs, H2, I2, r2, ρ2, st2, ds, stp2, S2, rs, hf2⟩ => hm pins s2 σ H2 v' vs v us Q I2 rv r2 ⟨ρ2, st2, d, ds, S2, Rep.mono S1 stp2 _ _ r1, rs, hf2⟩
theorem se_bm0 {id : String} {mt : Bm} {g : D → List D → Store → R D} {name : Str} {apos cpos : Pos} {o : Expr} (hb : bmV mt = g) (pa : PlainAttrs (recvT mt)) (slot : Slot (recvT mt) name id) (hty : typeOf (.builtin id) = pure (.type "method_descriptor")) (hm : MtR X id (RMt m E X g))
    (ho : PE X o (tEv m E X x)) (hbase : attributeBase o name X.env (eval o X.env) = eval o X.env) (hline : (apos.endLine == cpos.line) = true) :
    PE X (.Call (.Attribute o name apos) [] [] cpos) (tEv m E X (.bm mt x .nil)) := by
  refine ⟨fun pins s σ H Q I ⟨ρ, env, st, he, S, hf⟩ => ?_⟩
  have hf : Fin m E X ρ H ((evE m.T m.F m.call x env st).bind fun x s => if recvOk mt x s then g x [] s else .stuck) (rD X) Q := by
    simp only [evE, evX, hb] at hf
    exact hf
  refine wpAny_Call_method0_late hbase hline (thn (ho.run pins s σ H _ I ⟨ρ, env, st, he, S, hf.bind (Q1 := fun v H1 => ∃ ρ1 st1 d, Step ρ H ρ1 H1 ∧ Rel m X ρ1 H1 st1 ∧ Rep X.K ρ1 H1 d v ∧ recvOk mt d st1 = true ∧ Fin m E X ρ1 H1 (g d [] st1) (rD X) Q) fun d st1 ρ1 H1 v s1 S1 r1 hf1 => ?_⟩) fun v s1 ⟨v', H1, I1, rv, ρ1, st1, d, stp, S1, r1, hr, hf1⟩ => ?_)
  · split at hf1
    · exact ⟨ρ1, st1, d, s1, S1, r1, by assumption, hf1⟩
    · exact hf1.elim
  · obtain ⟨h1, h2⟩ := recv_ok I1 S1 r1 rv hr
    exact ⟨_, id, pa, slot, hty, h1, h2, Calls.callWith_builtin rfl (PySem.evalArgs_none (hm pins s1 σ H1 v' [] v [] Q I1 rv .nil ⟨ρ1, st1, d, [], S1, r1, .nil, hf1⟩))⟩
end
end VI
/-! VIk: what is walked. -/
namespace VI
open PySem PySem.Spec PyProof.Rows L2
theorem nth_stop {α : Type} {xs : List α} {i : Nat} {f : α → D} (h : nth xs i f = .stop) : xs.length ≤ i := by
  unfold nth at h
  split at h
  · cases h
  · exact List.getElem?_eq_none_iff.mp (by assumption)
theorem nth_item {α : Type} {xs : List α} {i : Nat} {f : α → D} {d : D} (h : nth xs i f = .item d) : ∃ x, xs[i]? = some x ∧ d = f x := by
  unfold nth at h
  split at h
  · rename_i x hx
    cases h
    exact ⟨x, hx, rfl⟩
  · cases h
section
variable (m : Md) (E : XK) (X : Cx)
/-- an iterator does what the evaluator's turns do -/
def ItOk (k : Itk) (ds : List D) (vs : List V) (J : It) : Prop := ∀ (i : Nat) (ρ : List Addr) (H : Hp) (st : Store), Rel m X ρ H st → Reps X.K ρ H ds vs →
  (itAt k ds i st = .stop → J.stop i H) ∧ (∀ d, itAt k ds i st = .item d → J.go i H ∧ ∀ x H', J.yld i H x H' → Rel m X ρ H' st ∧ Step ρ H ρ H' ∧ Rep X.K ρ H' d x)
/-- the reading of what is walked -/
def iEv (k : Itk) (es : Xs) : TI := fun σ H R => ∃ ρ env st, ERel X ρ H env σ ∧ Rel m X ρ H st ∧ Fin m E X ρ H ((evX m.T m.F m.call es env st).bind fun ds s => .ok (ds, s) s) (fun ρ1 H1 (p : List D × Store) (vs : List V) => Reps X.K ρ1 H1 p.1 vs) fun vs H1 =>
  ∃ ρ1 st1 ds, Step ρ H ρ1 H1 ∧ Rel m X ρ1 H1 st1 ∧ Reps X.K ρ1 H1 ds vs ∧ itAt k ds 0 st1 ≠ .bad ∧ ∀ J, ItOk m X k ds vs J → R J H1
end
section
variable {m : Md} {E : XK} {X : Cx} {e a b c : Expr} {x y z : Ex} {pos : Pos} {tg : Expr}
theorem imI {iter : Expr} {w w' : TI} (h : PI X tg iter w) (k : ∀ σ H R, w' σ H R → w σ H R) : PI X tg iter w' := ⟨fun pins s σ H R I q => h.run pins s σ H R I (k σ H R q)⟩
theorem ev1 {T : Tbl} {F : Nat} {call : Caller} {env : Env} {st : Store} : evX T F call (.cons false x .nil) env st = (evE T F call x env st).bind fun d s => .ok [d] s := by
  simp only [evX]
  cases evE T F call x env st <;> rfl
theorem ok_tup {xs : List D} {a : Addr} : ItOk m X .val [.tup xs] [.ref a] (Itt X.K a) := fun i ρ H st S rs' => by
  obtain ⟨d, hd, r0⟩ := reps1 rs'
  cases hd
  cases r0 with
  | tup q2 rs2 =>
    refine ⟨fun h => ?_, fun d h => ?_⟩
    · exact ⟨_, q2, by rw [← rs2.length]; exact nth_stop h⟩
    · obtain ⟨x, hx, rfl⟩ := nth_item h
      obtain ⟨v, hv, rv⟩ := rs2.get hx
      refine ⟨⟨_, v, q2, hv⟩, fun y H' hy => ?_⟩
      obtain ⟨rfl, hy⟩ := hy
      have := hy _ q2
      rw [hv] at this
      cases this
      exact ⟨S, Step.refl _ _, rv⟩
theorem ok_str {x : List Nat} : ItOk m X .val [.str x] [.str (toS x)] (Its (toS x)) := fun i ρ H st S rs' => by
  have hsz : (toS x).cps.size = x.length := toS_len x
  have hget : (toS x).cps[i]? = x[i]? := by simp [toS]
  refine ⟨fun h => ?_, fun d h => ?_⟩
  · show (toS x).cps.size ≤ i
    rw [hsz]; exact nth_stop h
  · obtain ⟨c, hc, rfl⟩ := nth_item h
    refine ⟨by show i < (toS x).cps.size; rw [hsz]; exact (List.getElem?_eq_some_iff.mp hc).1, fun y H' hy => ?_⟩
    obtain ⟨rfl, c', h1, rfl⟩ := hy
    rw [hget, hc] at h1
    cases h1
    exact ⟨S, Step.refl _ _, .str [c]⟩
theorem ok_lst {n : Nat} {a : Addr} : ItOk m X .val [.ref n] [.ref a] (Itl X.K a) := fun i ρ H st S rs' => by
  obtain ⟨d, hd, r0⟩ := reps1 rs'
  cases hd
  cases r0 with
  | ref ha' =>
    have key : ∀ xs vs, SqL X.K H a vs → Reps X.K ρ H xs vs → (nth xs i id = .stop → (Itl X.K a).stop i H) ∧ (∀ d, nth xs i id = .item d → (Itl X.K a).go i H ∧ ∀ x H', (Itl X.K a).yld i H x H' → Rel m X ρ H' st ∧ Step ρ H ρ H' ∧ Rep X.K ρ H' d x) := fun xs vs q2 rs2 => by
      refine ⟨fun h => ?_, fun d h => ?_⟩
      · exact ⟨_, q2, by rw [← rs2.length]; exact nth_stop h⟩
      · obtain ⟨x, hx, rfl⟩ := nth_item h
        obtain ⟨v, hv, rv⟩ := rs2.get hx
        refine ⟨⟨_, v, q2, hv⟩, fun y H' hy => ?_⟩
        obtain ⟨rfl, hy⟩ := hy
        have := hy _ q2
        rw [hv] at this
        cases this
        exact ⟨S, Step.refl _ _, rv⟩
    show (itVal (.ref n) i st = .stop → _) ∧ (∀ d, itVal (.ref n) i st = .item d → _)
    unfold itVal
    simp only
    split
    · rename_i xs g
      obtain ⟨vs, e, rs2⟩ := S.lst_at ha' g
      exact key xs vs (SqL.of e) rs2
    · rename_i xs g
      obtain ⟨o, vs, e, rs2⟩ := S.flst_at ha' g
      exact key xs vs (.inl (.inr ⟨o, e⟩)) rs2
    · exact ⟨(fun h => nomatch h), (fun _ h => nomatch h)⟩
/-- a list, a tuple, a text -/
theorem it_val (he : PE X e (tEv m E X x)) : PI X tg e (iEv m E X .val (.cons false x .nil)) := by
  refine ⟨fun pins s σ H R I ⟨ρ, env, st, hen, S, hf⟩ => ?_⟩
  rw [ev1, bind_assoc] at hf
  refine thn (he.run pins s σ H _ I ⟨ρ, env, st, hen, S, hf.bind (Q1 := fun v H1 => ∃ ρ1 st1 d, Rel m X ρ1 H1 st1 ∧ Rep X.K ρ1 H1 d v ∧ itVal d 0 st1 ≠ .bad ∧ ∀ J, ItOk m X .val [d] [v] J → R J H1) fun d st1 ρ1 H1 v s1 S1 r1 hf1 => ?_⟩) fun u s1 ⟨v, H1, I1, ru, ρ1, st1, d, S1, r1, hnb, hR⟩ => ?_
  · obtain ⟨ρ2, st2, ds, s2, S2, rs, hnb, hR⟩ := hf1.now S1 (.cons r1 .nil)
    obtain ⟨d2, rfl, rd⟩ := reps1 rs
    exact ⟨ρ2, st2, d2, S2, rd, hnb, hR⟩
  · cases r1 with
    | tup q rs =>
      rename_i a vs
      cases ru
      obtain ⟨its, rv, p, hz⟩ := I1.tuple q
      exact wpAny_pyIter_tuple (show s1.heap.IsTuple a its.toArray from p) (pi_one (tk := s1.toks) I1 _ (turn_tuple a _) ⟨_, Heap.get?_push_size _ rfl, rfl, rfl⟩ (hR _ ok_tup))
    | str x =>
      obtain ⟨t, rfl⟩ := ru
      cases ha : (toS x).cps.all (· < 128)
      · exact wpAny_pyIter_wide ha (pi_one (tk := s1.toks) I1 _ (turn_str _ (toS x) t "str_iterator" (.inr rfl)) ⟨_, Heap.get?_push_size _ rfl, rfl, rfl⟩ (hR _ ok_str))
      · exact wpAny_pyIter_ascii ha (pi_one (tk := s1.toks) I1 _ (turn_str _ (toS x) t "str_ascii_iterator" (.inl rfl)) ⟨_, Heap.get?_push_size _ rfl, rfl, rfl⟩ (hR _ ok_str))
    | ref ha =>
      rename_i n a
      cases ru
      have hl : ∃ vs, SqL X.K H1 a vs := by
        unfold itVal at hnb
        simp only at hnb
        split at hnb
        · rename_i xs g
          obtain ⟨vs, e, _⟩ := S1.lst_at ha g
          exact ⟨vs, SqL.of e⟩
        · rename_i xs g
          obtain ⟨o, vs, e, _⟩ := S1.flst_at ha g
          exact ⟨vs, .inl (.inr ⟨o, e⟩)⟩
        · exact absurd rfl hnb
      obtain ⟨vs, hq⟩ := hl
      obtain ⟨its, rv, p, hz⟩ := I1.list hq
      exact wpAny_pyIter_list p.isList (pi_one (tk := s1.toks) I1 _ (turn_list a _) ⟨_, Heap.get?_push_size _ rfl, rfl, rfl⟩ (hR _ ok_lst))
    | _ => exact absurd rfl hnb
/-- range(n) -/
theorem it_rng {p : Pos} (hg : Gl X "range") (hm : X.mg "range" = none) (ha : PA X [a] (tEvX m E X (.cons false x .nil))) (hs : starEach [a] X.env = [(false, eval a X.env)]) : PI X tg (.Call (.Name "range" p) [a] [] pos) (iEv m E X .rng (.cons false x .nil)) := by
  refine imI (pi_range1 hg hm ha hs) fun σ H R ⟨ρ, env, st, hen, S, hf⟩ => ?_
  refine ⟨ρ, env, st, hen, S, hf.bind fun ds st1 ρ1 H1 vs s1 S1 r1 hf1 => ?_⟩
  obtain ⟨ρ2, st2, ds2, s2, S2, rs, hnb, hR⟩ := hf1.now S1 r1
  cases rs with
  | nil => exact absurd rfl hnb
  | cons r0 rr =>
    cases rr with
    | nil =>
      cases r0 with
      | int n =>
        have hb : -4611686018427387904 ≤ n ∧ n < 4611686018427387904 := by
          by_cases h : -4611686018427387904 ≤ n ∧ n < 4611686018427387904
          · exact h
          · exact absurd (by unfold itAt; simp only; rw [if_neg h]) hnb
        refine ⟨n, rfl, by omega, by omega, hR _ fun i ρ H st S _ => ?_⟩
        have e : itAt .rng [.int n] i st = if (i : Int) < n then .item (.int i) else .stop := by unfold itAt; simp only; rw [if_pos hb]
        rw [e]
        refine ⟨fun h => ?_, fun d h => ?_⟩
        · split at h
          · cases h
          · show n.toNat ≤ i
            omega
        · split at h
          · cases h
            refine ⟨by show i < n.toNat; omega, fun y H' hy => ?_⟩
            obtain ⟨rfl, rfl⟩ := hy
            have e2 : (0 : Int) + (i : Nat) = (i : Int) := by omega
            rw [e2]
            exact ⟨S, Step.refl _ _, .int _⟩
          · cases h
      | tup _ _ => exact absurd rfl hnb
      | _ => exact absurd rfl hnb
    | cons _ _ =>
      exfalso
      cases r0 <;> exact absurd rfl hnb
/-- zip of two tuples -/
theorem it_zip {p tpos : Pos} {elts : List Expr} {kk : Nat} {ys : Xs} (hg : Gl X "zip") (hm : X.mg "zip" = none) (ha : PA X [a, b] (tEvX m E X ys)) (hs : starEach [a, b] X.env = (false, eval a X.env) :: starEach [b] X.env) (hpl : (backTo pos (starEach [b] X.env)).any (·.1) = false) :
    PI X (.Tuple elts kk tpos) (.Call (.Name "zip" p) [a, b] [] pos) (iEv m E X .zip ys) := by
  refine imI (RZ.pi_zipA hg hm ha hs hpl) fun σ H R ⟨ρ, env, st, hen, S, hf⟩ => ?_
  refine ⟨ρ, env, st, hen, S, hf.bind fun ds st1 ρ1 H1 vs s1 S1 r1 hf1 => ?_⟩
  obtain ⟨ρ2, st2, ds2, s2, S2, rs, hnb, hR⟩ := hf1.now S1 r1
  have sh : ∃ xs ys, ds2 = [.tup xs, .tup ys] := by
    unfold itAt at hnb
    split at hnb <;> first | (rename_i h; cases h) | skip
    all_goals first | exact absurd rfl hnb | skip
    split at hnb
    · exact ⟨_, _, rfl⟩
    · exact absurd rfl hnb
  obtain ⟨xs, ys, rfl⟩ := sh
  cases rs with
  | cons r0 rr =>
    obtain ⟨v2, rfl, r2⟩ := reps_one rr
    cases r0 with
    | tup q1 rs1 =>
      cases r2 with
      | tup q2 rs2 =>
        rename_i a1 vs1 a2 vs2
        refine ⟨a1, a2, vs1, vs2, rfl, .inr ⟨q1, q2, hR _ fun i ρ H st S rs' => ?_⟩⟩
        cases rs' with
        | cons r0' rr' =>
          obtain ⟨v2', e2', r2'⟩ := reps_one rr'
          cases e2'
          cases r0' with
          | tup q1' rs1' =>
            cases r2' with
            | tup q2' rs2' =>
              show ((match xs[i]?, ys[i]? with | some x, some y => Nxt.item (.tup [x, y]) | _, _ => .stop) = .stop → _) ∧ (∀ d, (match xs[i]?, ys[i]? with | some x, some y => Nxt.item (.tup [x, y]) | _, _ => .stop) = .item d → _)
              refine ⟨fun h => ?_, fun d h => ?_⟩
              · refine ⟨_, _, q1', q2', ?_⟩
                split at h
                · cases h
                · rename_i hn
                  rw [← rs1'.length, ← rs2'.length]
                  by_cases h1 : xs.length ≤ i
                  · exact .inl h1
                  · right
                    by_cases h2 : ys.length ≤ i
                    · exact h2
                    · exact (hn xs[i] ys[i] (List.getElem?_eq_getElem (by omega)) (List.getElem?_eq_getElem (by omega))).elim
              · split at h
                · rename_i x y hx hy
                  cases h
                  obtain ⟨v, hv, rv⟩ := rs1'.get hx
                  obtain ⟨u, hu, ru⟩ := rs2'.get hy
                  refine ⟨⟨_, _, v, u, q1', q2', hv, hu⟩, fun z H' hz => ?_⟩
                  obtain ⟨T, v', u', rfl, hT, rfl, h1, h2⟩ := hz
                  have e1 := h1 _ q1'
                  rw [hv] at e1
                  have e2 := h2 _ q2'
                  rw [hu] at e2
                  cases e1; cases e2
                  obtain ⟨S', stp⟩ := SRel.other (o := .tup [v, u]) S hT
                  exact ⟨S', stp, .tup (SqT.of upd_same) (.cons (Rep.mono S stp _ _ rv) (.cons (Rep.mono S stp _ _ ru) .nil))⟩
                · cases h
end
end VI
/-! VIl: targets, statements, loops, comprehensions. -/
namespace VI
open PySem PySem.Spec PyProof.Rows L2
section
variable {m : Md} {E : XK} {X : Cx} {e a b c : Expr} {x y z : Ex} {pos : Pos} {tg : Expr} {ρ : List Addr} {H : Hp}
theorem ERel.set {env : Env} {σ : L2.St} {i : Nat} {d : D} {v : V} (h : ERel X ρ H env σ) (r : Rep X.K ρ H d v) : ERel X ρ H (env.set i (some d)) (σ.set i (some v)) := by
  refine ⟨by simp [h.len], fun j d' e => ?_⟩
  by_cases hj : i = j
  · subst hj
    by_cases hl : i < env.length
    · rw [List.getElem?_set_self hl] at e
      cases e
      exact ⟨v, List.getElem?_set_self (by rw [← h.len]; exact hl), r⟩
    · rw [List.getElem?_eq_none (by simp; omega)] at e
      cases e
  · rw [List.getElem?_set_ne hj] at e
    obtain ⟨v', h1, h2⟩ := h.at_ j d' e
    exact ⟨v', by rw [List.getElem?_set_ne hj]; exact h1, h2⟩
theorem ERel.wipe1 {env : Env} {σ : L2.St} {i : Nat} (h : ERel X ρ H env σ) : ERel X ρ H (env.set i none) (σ.set i none) := by
  refine ⟨by simp [h.len], fun j d' e => ?_⟩
  by_cases hj : i = j
  · subst hj
    by_cases hl : i < env.length
    · rw [List.getElem?_set_self hl] at e
      cases e
    · rw [List.getElem?_eq_none (by simp; omega)] at e
      cases e
  · rw [List.getElem?_set_ne hj] at e
    obtain ⟨v', h1, h2⟩ := h.at_ j d' e
    exact ⟨v', by rw [List.getElem?_set_ne hj]; exact h1, h2⟩
theorem ERel.wipe {env : Env} {σ : L2.St} (h : ERel X ρ H env σ) : ∀ vs : List Nat, ERel X ρ H (wipeE env vs) (wipe σ vs)
  | [] => h
  | v :: vs => (h.wipe vs).wipe1
/-- the names of a target, in order -/
def tgNames : Tg → List Nat
  | .nm i => [i]
  | .tp is => is
/-- a target as the loops have it -/
def TgOk (X : Cx) (tg : Expr) (t : Tg) : Prop := match t with
  | .nm i => ∃ x p, tg = .Name x p ∧ X.N[i]? = some x ∧ Loc X.env.scope x ∧ (X.fn x = true ∨ X.env.scope.names.lookup x = some .local)
  | .tp is => ∃ es k p, tg = .Tuple es k p ∧ Paired (fun e i => ∃ x p, e = .Name x p ∧ X.N[i]? = some x ∧ Loc X.env.scope x ∧ (X.fn x = true ∨ X.env.scope.names.lookup x = some .local)) es is
def gTgs : List Nat → TGs
  | [] => gNil
  | i :: is => gCons (gName i) (gTgs is)
def gTg (K : PySem.W.Frag) : Tg → TG
  | .nm i => gName i
  | .tp is => gTup K is.length (gTgs is)
theorem pgs_names (hN : X.N.Nodup) : ∀ {es : List Expr} {is : List Nat}, Paired (fun e i => ∃ x p, e = Expr.Name x p ∧ X.N[i]? = some x ∧ Loc X.env.scope x ∧ (X.fn x = true ∨ X.env.scope.names.lookup x = some .local)) es is → PGs X es (gTgs is) ∧ (assignEach es X.env).length = is.length ∧ (assignEach es X.env).findIdx? (·.1) = none
  | _, _, .nil => ⟨pgs_nil, rfl, rfl⟩
  | _, _, .cons h t => by
    obtain ⟨x, p, rfl, h1, h2, h3⟩ := h
    obtain ⟨q1, q2, q3⟩ := pgs_names hN t
    refine ⟨pgs_cons (pg_name hN h1 h2 h3) q1 rfl, ?_, ?_⟩
    · show (assignEach _ X.env).length + 1 = _
      rw [q2]; rfl
    · show List.findIdx? (·.1) ((false, _) :: assignEach _ X.env) = none
      rw [List.findIdx?_cons]
      simp only [Bool.false_eq_true, if_false, q3, Option.map_none]
theorem pg_tg {t : Tg} (hN : X.N.Nodup) (hc : X.calm = true) (h : TgOk X tg t) : PG X tg (gTg X.K t) := by
  cases t with
  | nm i =>
    obtain ⟨x, p, rfl, h1, h2, h3⟩ := h
    exact pg_name hN h1 h2 h3
  | tp is =>
    obtain ⟨es, k, p, rfl, h⟩ := h
    obtain ⟨q1, q2, q3⟩ := pgs_names hN h
    exact pg_tup hc q1 q2 q3
theorem wipe_set1 (σ : L2.St) (i : Nat) (x : Option V) : ∀ vs : List Nat, (L2.wipe (σ.set i x) vs).set i none = (L2.wipe σ vs).set i none
  | [] => by simp [L2.wipe]
  | v :: vs => by
    unfold L2.wipe
    by_cases h : v = i
    · subst h
      rw [List.set_set, List.set_set]
      exact wipe_set1 σ v x vs
    · rw [List.set_comm _ _ h, wipe_set1 σ i x vs, List.set_comm _ _ (Ne.symm h)]
theorem wipe_set (σ : L2.St) {i : Nat} {x : Option V} : ∀ {vs : List Nat}, i ∈ vs → L2.wipe (σ.set i x) vs = L2.wipe σ vs
  | v :: vs, h => by
    unfold L2.wipe
    by_cases hv : i = v
    · subst hv
      exact wipe_set1 σ i x vs
    · rcases List.mem_cons.mp h with e | e
      · exact absurd e hv
      · rw [wipe_set σ e]
theorem gTgs_ok {Q : L2.St → Hp → Prop} : ∀ {is : List Nat} {xs : List D} {vs : List V} {env : Env} {σ : L2.St}, ERel X ρ H env σ → Reps X.K ρ H xs vs → xs.length = is.length → (∀ σ', ERel X ρ H ((is.zip xs).foldl (fun e p => e.set p.1 (some p.2)) env) σ' → (∀ (vs : List Nat), (∀ i ∈ is, i ∈ vs) → L2.wipe σ' vs = L2.wipe σ vs) → Q σ' H) → gTgs is vs σ H Q
  | [], [], _, env, σ, he, .nil, _, k => ⟨rfl, k σ he fun _ _ => rfl⟩
  | i :: is, x :: xs, _, env, σ, he, .cons r rs, hl, k => by
    refine ⟨_, _, rfl, gTgs_ok (he.set r) rs (by simpa using hl) fun σ' he' hw => k σ' he' fun vs hv => ?_⟩
    rw [hw vs fun j hj => hv j (List.mem_cons_of_mem _ hj)]
    exact wipe_set σ (hv i List.mem_cons_self)
  | [], _ :: _, _, _, _, _, _, hl, _ => by simp at hl
  | _ :: _, [], _, _, _, _, _, hl, _ => by simp at hl
theorem gTg_ok {t : Tg} {d : D} {v : V} {env env' : Env} {σ : L2.St} {Q : L2.St → Hp → Prop} (he : ERel X ρ H env σ) (r : Rep X.K ρ H d v) (h : setTg t d env = some env') (k : ∀ σ', ERel X ρ H env' σ' → (∀ (vs : List Nat), (∀ i ∈ tgNames t, i ∈ vs) → L2.wipe σ' vs = L2.wipe σ vs) → Q σ' H) : gTg X.K t v σ H Q := by
  cases t with
  | nm i =>
    simp only [setTg, Option.some.injEq] at h
    subst h
    exact k _ (he.set r) fun vs hv => wipe_set σ (hv i (List.mem_singleton.mpr rfl))
  | tp is =>
    unfold setTg at h
    simp only at h
    cases r with
    | tup q rs =>
      simp only at h
      split at h
      · rename_i hl
        cases h
        exact ⟨_, _, rfl, q, by rw [← rs.length]; exact hl, gTgs_ok he rs hl k⟩
      · cases h
    | _ => simp at h

/-! ### statements -/
/-- what a statement is to reach -/
def rFl (X : Cx) (ρ : List Addr) (H : Hp) (f : Fl) (g : L2.St ⊕ V) : Prop := match f, g with
  | .nx env, .inl σ => ERel X ρ H env σ
  | .rt d, .inr v => Rep X.K ρ H d v
  | _, _ => False
def endsQ (D : Ends) : L2.St ⊕ V → Hp → Prop
  | .inl σ, H => D.nx σ H
  | .inr v, H => D.rt v H
def tS (m : Md) (E : XK) (X : Cx) (f : Env → Store → R Fl) : TS := fun D σ H => ∃ ρ env st, ERel X ρ H env σ ∧ Rel m X ρ H st ∧ Fin m E X ρ H (f env st) (rFl X) (endsQ D)
abbrev tSt (m : Md) (E : XK) (X : Cx) (s : St) : TS := tS m E X (exS m.T m.F m.call s)
abbrev tSs (m : Md) (E : XK) (X : Cx) (s : Ss) : TS := tS m E X (exSs m.T m.F m.call s)
theorem Fin.nx {D : Ends} {env : Env} {st : Store} {σ : L2.St} (h : Fin m E X ρ H (.ok (.nx env) st) (rFl X) (endsQ D)) (S : Rel m X ρ H st) (r : ERel X ρ H env σ) : D.nx σ H := h ρ H (Sum.inl σ) (Step.refl _ _) S r
theorem Fin.rt {D : Ends} {d : VI.D} {st : Store} {v : V} (h : Fin m E X ρ H (.ok (.rt d) st) (rFl X) (endsQ D)) (S : Rel m X ρ H st) (r : Rep X.K ρ H d v) : D.rt v H := h ρ H (Sum.inr v) (Step.refl _ _) S r
theorem imS {st : Stmt} {t t' : TS} (h : PS X st t) (k : ∀ D σ H, t' D σ H → t D σ H) : PS X st t' := ⟨fun pins s σ H D I q => h.run pins s σ H D I (k D σ H q)⟩
theorem imSs {st : List Stmt} {t t' : TS} (h : PSs X st t) (k : ∀ D σ H, t' D σ H → t D σ H) : PSs X st t' := ⟨fun pins s σ H D I q => h.run pins s σ H D I (k D σ H q)⟩
theorem ss_nil : PSs X [] (tSs m E X .nil) := imSs pss_nil fun D σ H ⟨ρ, env, st, he, S, hf⟩ => hf.nx S he
theorem ss_cons {st : Stmt} {rest : List Stmt} {t : St} {u : Ss} (h1 : PS X st (tSt m E X t)) (h2 : PSs X rest (tSs m E X u)) : PSs X (st :: rest) (tSs m E X (.cons t u)) :=
  imSs (pss_cons h1 h2) fun D σ H ⟨ρ, env, st, he, S, hf⟩ => by
    simp only [exSs] at hf
    refine ⟨ρ, env, st, he, S, hf.bind fun f st1 ρ1 H1 g s1 S1 r1 hf1 => ?_⟩
    cases f with
    | nx env1 =>
      cases g with
      | inl σ1 => exact ⟨ρ1, env1, st1, r1, S1, hf1⟩
      | inr v => exact r1.elim
    | rt d =>
      cases g with
      | inl σ1 => exact r1.elim
      | inr v => exact hf1.rt S1 r1
theorem ss_expr (he : PE X e (tEv m E X x)) (hs : swapsWith e none pos.line X.env = pure false) : PS X (.Expr e pos) (tSt m E X (.ex x)) :=
  imS (ps_expr he hs) fun D σ H ⟨ρ, env, st, hen, S, hf⟩ => by
    simp only [exS] at hf
    refine ⟨ρ, env, st, hen, S, hf.bind fun d st1 ρ1 H1 v s1 S1 r1 hf1 => ?_⟩
    exact hf1.nx S1 (hen.mono S s1)
theorem ss_ret (he : PE X e (tEv m E X x)) : PS X (.Return (some e) pos) (tSt m E X (.ret x)) :=
  imS (ps_ret he) fun D σ H ⟨ρ, env, st, hen, S, hf⟩ => by
    simp only [exS] at hf
    refine ⟨ρ, env, st, hen, S, hf.bind fun d st1 ρ1 H1 v s1 S1 r1 hf1 => ?_⟩
    exact hf1.rt S1 r1
theorem ss_bad {st : Stmt} : PS X st (tSt m E X .bad) := imS ps_never fun D σ H ⟨ρ, env, st, hen, S, hf⟩ => hf
theorem bind_bool {α : Type} (r : R D) (f : Bool → Store → R α) : (r.bind fun x s => (boolOf x s).bind f) = (r.bind boolOf).bind f := by rw [bind_assoc]
theorem ss_if {p q : List Stmt} {t u : Ss} (hc : PT X c (tEvT m E X x)) (ha : PSs X p (tSs m E X t)) (hb : PSs X q (tSs m E X u)) : PS X (.If c p q pos) (tSt m E X (.ite x t u)) :=
  imS (ps_if hc ha hb) fun D σ H ⟨ρ, env, st, hen, S, hf⟩ => by
    simp only [exS] at hf
    rw [bind_bool] at hf
    refine ⟨ρ, env, st, hen, S, hf.bind fun k st1 ρ1 H1 k' s1 S1 r1 hf1 => ?_⟩
    cases r1
    cases k with
    | true => exact iteT ⟨ρ1, env, st1, hen.mono S s1, S1, hf1⟩
    | false => exact iteF ⟨ρ1, env, st1, hen.mono S s1, S1, hf1⟩
/-- an assignment -/
def tA (m : Md) (E : XK) (X : Cx) (t : As) : TG := fun v σ H Q => ∃ ρ env st d, ERel X ρ H env σ ∧ Rel m X ρ H st ∧ Rep X.K ρ H d v ∧ Fin m E X ρ H (asgI m.T m.F m.call t d env st) (ERel X) Q
theorem imG {t t' : TG} (h : PG X tg t) (k : ∀ v σ H Q, t' v σ H Q → t v σ H Q) : PG X tg t' := ⟨fun pins s σ H v u Q I r q => h.run pins s σ H v u Q I r (k v σ H Q q)⟩
theorem sg_name {i : Nat} {w : Str} (hN : X.N.Nodup) (hi : X.N[i]? = some w) (hx : Loc X.env.scope w) (hf : X.fn w = true ∨ X.env.scope.names.lookup w = some .local) : PG X (.Name w pos) (tA m E X (.nm i)) :=
  imG (pg_name hN hi hx hf) fun v σ H Q ⟨ρ, env, st, d, he, S, r, hf⟩ => by
    simp only [asgI] at hf
    exact hf.now S (he.set r)
theorem sg_sub (hu : X.A.units + 65 < cLine) (ho : PE X a (tEv m E X x)) (hi : PE X b (tEv m E X y)) (ha : ∀ v, assign (.Subscript a b pos) X.env v = (do
      let ov ← holding [v] (eval a X.env)
      let iv ← holding [v, ov] (eval b X.env)
      standAt pos
      holding [v, ov, iv] (setItem ov iv v)
      release [v, ov, iv] [])) : PG X (.Subscript a b pos) (tA m E X (.sub x y)) :=
  imG (pg_sub ho hi (set_any (m := m) (E := E) hu) ha) fun v σ H Q ⟨ρ, env, st, d, he, S, r, hf⟩ => by
    simp only [asgI] at hf
    refine ⟨ρ, env, st, he, S, hf.bind fun d1 st1 ρ1 H1 v1 s1 S1 r1 hf1 => ?_⟩
    refine ⟨ρ1, env, st1, he.mono S s1, S1, hf1.bind fun d2 st2 ρ2 H2 v2 s2 S2 r2 hf2 => ?_⟩
    refine ⟨ρ2, st2, d1, d2, d, S2, Rep.mono S1 s2 _ _ r1, r2, Rep.mono S (s1.trans s2) _ _ r, hf2.bind fun _ st3 ρ3 H3 _ s3 S3 _ hf3 => ?_⟩
    exact hf3.now S3 (((he.mono S s1).mono S1 s2).mono S2 s3)
theorem ss_asg {t : As} (he : PE X e (tEv m E X x)) (hg : PG X tg (tA m E X t)) (hs : swapsWithSole [tg] e pos.line X.env = pure false) (hw : swappedStores [tg] e X.env = pure none)
    (h1 : (assignEach [tg] X.env).map (·.2) = [assign tg X.env]) : PS X (.Assign [tg] e pos) (tSt m E X (.asg t x)) :=
  imS (ps_asg he hg hs hw h1) fun D σ H ⟨ρ, env, st, hen, S, hf⟩ => by
    simp only [exS] at hf
    refine ⟨ρ, env, st, hen, S, hf.bind fun d st1 ρ1 H1 v s1 S1 r1 hf1 => ?_⟩
    refine ⟨ρ1, env, st1, d, hen.mono S s1, S1, r1, hf1.bind fun env2 st2 ρ2 H2 σ2 s2 S2 r2 hf2 => ?_⟩
    exact hf2.nx S2 r2
theorem ss_set {i : Nat} {w : Str} {pos' : Pos} (hN : X.N.Nodup) (hi : X.N[i]? = some w) (hx : Loc X.env.scope w) (he : PE X e (tEv m E X x)) (hs : swapsWith e (some (.Name w pos')) pos.line X.env = pure false) (hf : X.fn w = true ∨ X.env.scope.names.lookup w = some .local) :
    PS X (.Assign [.Name w pos'] e pos) (tSt m E X (.asg (.nm i) x)) :=
  imS (ps_set hN hi hx he hs hf) fun D σ H ⟨ρ, env, st, hen, S, hf⟩ => by
    simp only [exS, asgI] at hf
    refine ⟨ρ, env, st, hen, S, hf.bind fun d st1 ρ1 H1 v s1 S1 r1 hf1 => ?_⟩
    exact Fin.nx hf1 S1 ((hen.mono S s1).set r1)
end
end VI
/-! VIm: loops, comprehensions, several targets. -/
namespace VI
open PySem PySem.Spec PyProof.Rows L2
/-- a walk that locks nothing -/
def Itk.free : Itk → Bool
  | .val | .rng | .enum | .zip => true
  | .items | .values => false
theorem set_dct {s : Store} {n : Nat} {o ob : Ob} (h : s.get n = some o) : (s.set n ob).get n = some ob := Store.get_set_self (Store.get_lt h)
theorem lock_free {k : Itk} {ds : List D} {s : Store} (hk : k.free = true) (h : itAt k ds 0 (lock (lockOf k ds s) s) ≠ .bad) : lockOf k ds s = none := by
  cases hl : lockOf k ds s with
  | none => rfl
  | some p =>
    exfalso
    obtain ⟨n, kvs⟩ := p
    rw [hl] at h
    unfold lockOf at hl
    split at hl
    · split at hl
      · rename_i m kvs' g
        cases hl
        have g' : (lock (some (n, kvs)) s).get n = some (.dct true kvs) := set_dct g
        apply h
        cases k with
        | val =>
          unfold itAt; simp only
          unfold itVal; simp only [g']
        | rng => rfl
        | enum => unfold itAt; simp only [g']
        | zip => rfl
        | items => cases hk
        | values => cases hk
      · cases hl
    · cases hl
theorem unl_none {α : Type} (r : R α) : R.unl none r = r := by cases r <;> rfl
section
variable {m : Md} {E : XK} {X : Cx} {e a b c : Expr} {x y z : Ex} {pos : Pos} {tg : Expr} {ρ : List Addr} {H : Hp}
theorem ss_while {body : List Stmt} {t : Ss} (hp : PassesOwn (model X.prog X.w) X.A X.env X.xe) (hc : PT X c (tEvT m E X x)) (hb : PSs X body (tSs m E X t)) : PS X (.While c body [] pos) (tSt m E X (.whl x t)) :=
  imS (ps_while hp hc hb) fun D σ H ⟨ρ, env, st, he, S, hf⟩ => by
    refine ⟨fun n σ H => ∃ ρ env st, ERel X ρ H env σ ∧ Rel m X ρ H st ∧ Fin m E X ρ H (loop (fun env s => (evE m.T m.F m.call x env s).bind fun x s => boolOf x s) (fun env s => exSs m.T m.F m.call t env s) n env st) (rFl X) (endsQ D), ⟨m.F, ρ, env, st, he, S, hf⟩, ?_⟩
    rintro n σ H ⟨ρ, env, st, he, S, hf⟩
    cases n with
    | zero => exact hf.elim
    | succ n =>
      unfold loop at hf
      refine ⟨ρ, env, st, he, S, hf.bind fun k st1 ρ1 H1 k' s1 S1 r1 hf1 => ?_⟩
      cases r1
      cases k with
      | false =>
        rw [if_neg Bool.false_ne_true]
        exact Fin.nx hf1 S1 (he.mono S s1)
      | true =>
        rw [if_pos rfl]
        refine ⟨fun σ H => ∃ ρ env st, ERel X ρ H env σ ∧ Rel m X ρ H st ∧ Fin m E X ρ H (loop (fun env s => (evE m.T m.F m.call x env s).bind fun x s => boolOf x s) (fun env s => exSs m.T m.F m.call t env s) n env st) (rFl X) (endsQ D), fun σ' H' h => ⟨n, Nat.lt_succ_self _, h⟩, ?_⟩
        refine ⟨ρ1, env, st1, he.mono S s1, S1, Fin.bind hf1 fun f st2 ρ2 H2 g s2 S2 r2 hf2 => ?_⟩
        cases f with
        | nx env2 =>
          cases g with
          | inl σ2 => exact ⟨ρ2, env2, st2, r2, S2, hf2⟩
          | inr v => exact r2.elim
        | rt d =>
          cases g with
          | inl σ2 => exact r2.elim
          | inr v => exact Fin.rt (D := D) hf2 S2 r2
/-- one turn's body -/
def turnB (T : Tbl) (F : Nat) (call : Caller) (t : Tg) (b : Ss) : D → Env → Store → R Fl := fun d env s => match setTg t d env with
  | some e => exSs T F call b e s
  | none => .stuck
theorem ss_for {iter : Expr} {body : List Stmt} {t : Tg} {k : Itk} {es : Xs} {u : Ss} (hk : k.free = true) (hp : PassesOwn (model X.prog X.w) X.A X.env X.xe) (hN : X.N.Nodup) (hc : X.calm = true) (hi : PI X tg iter (iEv m E X k es)) (hg : TgOk X tg t) (hb : PSs X body (tSs m E X u))
    (hs : ∀ x, foldedSetIterable iter X.env x = pure x) : PS X (.For tg iter body [] pos) (tSt m E X (.for t k es u)) :=
  imS (ps_for hp hc hi (pg_tg hN hc hg) hb hs) fun D σ H ⟨ρ, env, st, he, S, hf⟩ => by
    simp only [exS] at hf
    have hf' : Fin m E X ρ H (((evX m.T m.F m.call es env st).bind fun ds s => .ok (ds, s) s).bind fun p s => R.unl (lockOf k p.1 s) (turns k p.1 (turnB m.T m.F m.call t u) m.F 0 env (lock (lockOf k p.1 s) s))) (rFl X) (endsQ D) := by
      rw [bind_assoc]; exact hf
    refine ⟨ρ, env, st, he, S, hf'.bind fun p st1 ρ1 H1 vs s1 S1 r1 hf1 => ?_⟩
    have hnb : itAt k p.1 0 (lock (lockOf k p.1 st1) st1) ≠ .bad := fun z => by
      cases hF : m.F with
      | zero => rw [hF] at hf1; cases lockOf k p.1 st1 <;> exact hf1.elim
      | succ n =>
        rw [hF] at hf1
        unfold turns at hf1
        rw [z] at hf1
        exact hf1.elim
    have hl := lock_free hk hnb
    rw [hl] at hf1 hnb
    rw [unl_none] at hf1
    refine ⟨ρ1, st1, p.1, s1, S1, r1, hnb, fun J hJ => ?_⟩
    refine ⟨fun i n σ H => ∃ ρ env st, ERel X ρ H env σ ∧ Rel m X ρ H st ∧ Reps X.K ρ H p.1 vs ∧ Fin m E X ρ H (turns k p.1 (turnB m.T m.F m.call t u) n i env st) (rFl X) (endsQ D), ⟨m.F, ρ1, env, st1, he.mono S s1, S1, r1, hf1⟩, ?_⟩
    rintro i n σ H ⟨ρ, env, st, he, S, rs, hf⟩
    obtain ⟨j1, j2⟩ := hJ i ρ H st S rs
    cases n with
    | zero => exact hf.elim
    | succ n =>
      unfold turns at hf
      cases hx : itAt k p.1 i st with
      | bad => rw [hx] at hf; exact hf.elim
      | stop => rw [hx] at hf; exact .inl ⟨j1 hx, Fin.nx hf S he⟩
      | item d =>
        rw [hx] at hf
        obtain ⟨g1, g2⟩ := j2 d hx
        refine .inr ⟨g1, fun σ' H' => ∃ ρ env st, ERel X ρ H' env σ' ∧ Rel m X ρ H' st ∧ Reps X.K ρ H' p.1 vs ∧ Fin m E X ρ H' (turns k p.1 (turnB m.T m.F m.call t u) n (i + 1) env st) (rFl X) (endsQ D), fun σ' H' h => ⟨n, Nat.lt_succ_self _, h⟩, fun v H' hy => ?_⟩
        obtain ⟨S2, s2, r2⟩ := g2 v H' hy
        have hf := Fin.step hf s2
        cases ht : setTg t d env with
        | none =>
          simp only [turnB, ht] at hf
          exact hf.elim
        | some e =>
          simp only [turnB, ht] at hf
          refine gTg_ok (he.mono S s2) r2 ht fun σ' he' _ => ⟨ρ, e, st, he', S2, Fin.bind hf fun f st3 ρ3 H3 g s3 S3 r3 hf3 => ?_⟩
          cases f with
          | nx env3 =>
            cases g with
            | inl σ3 => exact ⟨ρ3, env3, st3, r3, S3, Reps.mono S (s2.trans s3) _ _ rs, hf3⟩
            | inr v => exact r3.elim
          | rt d =>
            cases g with
            | inl σ3 => exact r3.elim
            | inr v => exact Fin.rt (D := D) hf3 S3 r3

/-! comprehensions -/
mutual
theorem Rep.mv {K : PySem.W.Frag} {ρ ρ' : List Addr} {H H' : Hp} (h1 : ∀ (n : Nat) (a : Addr), ρ[n]? = some a → ρ'[n]? = some a) (h2 : ∀ a xs, SqT K H a xs → SqT K H' a xs) : ∀ (d : D) (v : V), Rep K ρ H d v → Rep K ρ' H' d v
  | .non, _, .non => .non
  | .bl b, _, .bl _ => .bl b
  | .int i, _, .int _ => .int i
  | .str x, _, .str _ => .str x
  | .tup xs, _, .tup q r => .tup (h2 _ _ q) (Reps.mv h1 h2 xs _ r)
  | .ref n, _, .ref q => .ref (h1 n _ q)
theorem Reps.mv {K : PySem.W.Frag} {ρ ρ' : List Addr} {H H' : Hp} (h1 : ∀ (n : Nat) (a : Addr), ρ[n]? = some a → ρ'[n]? = some a) (h2 : ∀ a xs, SqT K H a xs → SqT K H' a xs) : ∀ (d : List D) (v : List V), Reps K ρ H d v → Reps K ρ' H' d v
  | [], _, .nil => .nil
  | x :: xs, _, .cons a b => .cons (Rep.mv h1 h2 x _ a) (Reps.mv h1 h2 xs _ b)
end
theorem ORep.mv {nm : Nm} {P : Program} {w : World} {K : PySem.W.Frag} {ρ ρ' : List Addr} {H H' : Hp} (h1 : ∀ (n : Nat) (a : Addr), ρ[n]? = some a → ρ'[n]? = some a) (h2 : ∀ a xs, SqT K H a xs → SqT K H' a xs) {o : Ob} {a : Addr} (e : H' a = H a) (r : ORep nm P w K ρ H o a) : ORep nm P w K ρ' H' o a := by
  cases o with
  | lst xs => obtain ⟨vs, q, r⟩ := r; exact ⟨vs, e.trans q, Reps.mv h1 h2 _ _ r⟩
  | flst xs => obtain ⟨u, vs, q, r⟩ := r; exact ⟨u, vs, e.trans q, Reps.mv h1 h2 _ _ r⟩
  | dct lk kvs =>
    obtain ⟨z, y, r⟩ := r
    have hat : ∀ u, At H lk a u → At H' lk a u := fun u q => by
      unfold At at q ⊢
      rw [e]; exact q
    refine ⟨z, y, ?_⟩
    rcases r with ⟨kv, q, r⟩ | ⟨ne, xs, q, r, n⟩
    · exact .inl ⟨kv, hat _ q, paired_imp r fun p q z => ⟨z.1, Rep.mv h1 h2 _ _ z.2⟩⟩
    · exact .inr ⟨ne, xs, hat _ q, paired_imp r fun p q z => ⟨z.1, z.2.1, Rep.mv h1 h2 _ _ z.2.2.1, let ⟨v, h3, h4⟩ := z.2.2.2; ⟨v, h3, Rep.mv h1 h2 _ _ h4⟩⟩, n⟩
  | ins c fs => obtain ⟨C, dx, fv, c1, q, r⟩ := r; exact ⟨C, dx, fv, c1, e.trans q, paired_imp r fun p q z => ⟨z.1, Rep.mv h1 h2 _ _ z.2⟩⟩
theorem sqt_upd {K : PySem.W.Frag} {H : Hp} {p : Addr} {av : List V} {o : HO} (h : H p = some (.lst av)) : ∀ a xs, SqT K H a xs → SqT K (upd H p o) a xs := fun a xs q => by
  rcases q with q | q
  · have hn : a ≠ p := fun z => by
      subst z
      rcases q with q | ⟨u, q⟩ <;> (rw [h] at q; cases q)
    rcases q with q | ⟨u, q⟩
    · exact .inl (.inl (by rw [upd_ne hn]; exact q))
    · exact .inl (.inr ⟨u, by rw [upd_ne hn]; exact q⟩)
  · exact .inr q
/-- a list that stands beside the store is changed -/
theorem SRel.beside {nm : Nm} {P : Program} {w : World} {K : PySem.W.Frag} {st : Store} (S : SRel nm P w K ρ H st) {p : Addr} {av : List V} {o : HO} (h : H p = some (.lst av)) (hp : p ∉ ρ) : SRel nm P w K ρ (upd H p o) st :=
  ⟨S.nd, S.sz, fun n a ha => by
    obtain ⟨ob, g, r⟩ := S.ob n a ha
    exact ⟨ob, g, ORep.mv (fun _ _ z => z) (sqt_upd h) (upd_ne fun z => hp (z ▸ List.mem_of_getElem? ha)) r⟩⟩
theorem ext_app {ρ : List Addr} {p : Addr} : ∀ (n : Nat) (a : Addr), ρ[n]? = some a → (ρ ++ [p])[n]? = some a := fun n a h => by
  rw [List.getElem?_append_left (List.getElem?_eq_some_iff.mp h).1]; exact h
/-- .. it becomes one of the store -/
theorem SRel.adopt {nm : Nm} {P : Program} {w : World} {K : PySem.W.Frag} {st : Store} (S : SRel nm P w K ρ H st) {p : Addr} {acc : List D} {av : List V} (h : H p = some (.lst av)) (hp : p ∉ ρ) (r : Reps K ρ H acc av) : SRel nm P w K (ρ ++ [p]) H (st.add (.lst acc)) := by
  refine ⟨?_, ?_, fun n a ha => ?_⟩
  · rw [List.nodup_append]
    refine ⟨S.nd, by simp, fun a ha b hb => ?_⟩
    simp at hb
    subst hb
    exact fun e => hp (e ▸ ha)
  · rw [Store.add_sz, S.sz]; simp
  · rcases get_app ha with ⟨hl, ha⟩ | ⟨rfl, rfl⟩
    · obtain ⟨ob, g, q⟩ := S.ob n a ha
      exact ⟨ob, by rw [Store.get_add_ne (by rw [S.sz]; omega)]; exact g, ORep.mv ext_app (fun _ _ z => z) rfl q⟩
    · exact ⟨.lst acc, by rw [← S.sz]; exact Store.get_add_self, av, h, Reps.mv ext_app (fun _ _ z => z) _ _ r⟩
theorem bind_ok {α β : Type} {r : R α} {f : α → Store → R β} {b : β} {s' : Store} (h : r.bind f = .ok b s') : ∃ a s, r = .ok a s ∧ f a s = .ok b s' := by
  cases r with
  | ok a s => exact ⟨a, s, rfl, h⟩
  | exc c x s => cases h
  | stuck => cases h
theorem wipe_none (σ : L2.St) : ∀ (vs : List Nat) (i : Nat), i ∈ vs → ∀ x, (L2.wipe σ vs)[i]? = some x → x = none
  | v :: vs, i, h, x, e => by
    unfold L2.wipe at e
    by_cases hv : v = i
    · subst hv
      by_cases hl : v < (L2.wipe σ vs).length
      · rw [List.getElem?_set_self hl] at e; cases e; rfl
      · rw [List.getElem?_eq_none (by simpa using hl)] at e; cases e
    · rw [List.getElem?_set_ne hv] at e
      rcases List.mem_cons.mp h with z | z
      · exact absurd z.symm hv
      · exact wipe_none σ vs i z x e
theorem wipe_id (τ : L2.St) : ∀ (vs : List Nat), (∀ i ∈ vs, ∀ x, τ[i]? = some x → x = none) → L2.wipe τ vs = τ
  | [], _ => rfl
  | v :: vs, h => by
    unfold L2.wipe
    rw [wipe_id τ vs fun i hi => h i (List.mem_cons_of_mem _ hi)]
    apply List.ext_getElem?
    intro j
    by_cases hj : v = j
    · subst hj
      by_cases hl : v < τ.length
      · rw [List.getElem?_set_self hl]
        have := h v List.mem_cons_self _ (List.getElem?_eq_getElem hl)
        rw [List.getElem?_eq_getElem hl, this]
      · rw [List.getElem?_eq_none (by simpa using hl), List.getElem?_eq_none (by simpa using hl)]
    · rw [List.getElem?_set_ne hj]
theorem wipe_twice (σ : L2.St) (vs : List Nat) : L2.wipe (L2.wipe σ vs) vs = L2.wipe σ vs := wipe_id _ vs (wipe_none σ vs)
def noE : XK := fun _ _ _ => False
theorem ERel.cx {X X' : Cx} {env : Env} {σ : L2.St} (h : X.K = X'.K) (r : ERel X ρ H env σ) : ERel X' ρ H env σ := ⟨r.len, fun i d e => by rw [← h]; exact r.at_ i d e⟩
/-- a turn of a comprehension -/
def lcB (T : Tbl) (F : Nat) (call : Caller) (own : List Nat) (t : Tg) (cond elt : Ex) (env : Env) : D → List D → Store → R (List D) := fun d acc s => match setTg t d (wipeE env own) with
  | some e => (evE T F call cond e s).bind fun x s => (boolOf x s).bind fun b s =>
      if b then (evE T F call elt e s).bind fun y s => if acc.length < line then .ok (acc ++ [y]) s else .stuck else .ok acc s
  | none => .stuck
theorem lc_im {own : List Nat} {t : Tg} {k : Itk} {es : Xs} {cx ex : Ex} {σ : L2.St} {Q : VK} (hk : k.free = true) (ho : ∀ i ∈ tgNames t, i ∈ own) (h : tEv m E X (.lc own t k es cx ex) σ H Q) :
    tLc (iEv m E X k es) (gTg X.K t) (tEvT m noE X cx) (tEv m noE X ex) own σ H Q := by
  obtain ⟨ρ, env, st, he, S, hf⟩ := h
  simp only [evE] at hf
  have hf' : Fin m E X ρ H (((evX m.T m.F m.call es env st).bind fun ds s => .ok (ds, s) s).bind fun p s => R.unl (lockOf k p.1 s) ((walk k p.1 (lcB m.T m.F m.call own t cx ex env) m.F 0 [] (lock (lockOf k p.1 s) s)).noexc.bind fun acc s => .ok (.ref s.sz) (s.add (.lst acc)))) (rD X) Q := by
    rw [bind_assoc]; exact hf
  refine ⟨ρ, env, st, he, S, hf'.bind fun p st1 ρ1 H1 vs s1 S1 r1 hf1 => ?_⟩
  have hwok : ∃ accF stF, walk k p.1 (lcB m.T m.F m.call own t cx ex env) m.F 0 [] (lock (lockOf k p.1 st1) st1) = .ok accF stF := by
    cases hw : walk k p.1 (lcB m.T m.F m.call own t cx ex env) m.F 0 [] (lock (lockOf k p.1 st1) st1) with
    | ok a s => exact ⟨a, s, rfl⟩
    | exc c x s => rw [hw] at hf1; exact hf1.elim
    | stuck => rw [hw] at hf1; exact hf1.elim
  obtain ⟨accF, stF, hw⟩ := hwok
  have hnb : itAt k p.1 0 (lock (lockOf k p.1 st1) st1) ≠ .bad := fun z => by
    cases hF : m.F with
    | zero => rw [hF] at hw; cases hw
    | succ n =>
      rw [hF] at hw
      unfold walk at hw
      rw [z] at hw
      cases hw
  have hl := lock_free hk hnb
  rw [hl] at hf1 hnb hw
  have hw : walk k p.1 (lcB m.T m.F m.call own t cx ex env) m.F 0 [] st1 = .ok accF stF := hw
  have hf1 : Fin m E X ρ1 H1 (.ok (.ref stF.sz) (stF.add (.lst accF))) (rD X) Q := by
    rw [unl_none] at hf1
    have e : lock none st1 = st1 := rfl
    rw [e, hw] at hf1
    exact hf1
  have he1 := (he.mono S s1).wipe own
  refine ⟨ρ1, st1, p.1, s1, S1, r1, hnb, fun J hJ D hD => ?_⟩
  have hnD : D ∉ ρ1 := fun z => S1.live z hD
  refine ⟨fun i n H => ∃ ρ acc av st, Step ρ1 H1 ρ H ∧ D ∉ ρ ∧ H D = some (.lst av) ∧ Reps X.K ρ H acc av ∧ ERel X ρ H (wipeE env own) (L2.wipe σ own) ∧ Rel m X ρ H st ∧ Reps X.K ρ H p.1 vs ∧ walk k p.1 (lcB m.T m.F m.call own t cx ex env) n i acc st = .ok accF stF, ⟨m.F, ?_⟩, ?_⟩
  · obtain ⟨S2, s2⟩ := SRel.other (o := .lst []) S1 hD
    exact ⟨ρ1, [], [], st1, s2, hnD, upd_same, .nil, he1.mono S1 s2, S2, Reps.mono S1 s2 _ _ r1, hw⟩
  · rintro i n H ⟨ρ, acc, av, st, stp, hnD, hD2, racc, he, S, rs, hw⟩
    obtain ⟨j1, j2⟩ := hJ i ρ H st S rs
    cases n with
    | zero => cases hw
    | succ n =>
      unfold walk at hw
      cases hx : itAt k p.1 i st with
      | bad => rw [hx] at hw; cases hw
      | stop =>
        rw [hx] at hw
        cases hw
        refine .inl ⟨j1 hx, hf1 (ρ ++ [D]) H (.ref D) ⟨fun n a h => ext_app n a (stp.ext n a h), fun a o h hn => ?_⟩ (S.adopt hD2 hnD racc) (.ref ?_)⟩
        · obtain ⟨k1, k2⟩ := stp.keep a o h hn
          refine ⟨k1, fun z => ?_⟩
          rcases List.mem_append.mp z with z | z
          · exact k2 z
          · have : a = D := by simpa using z
            subst this
            rw [hD] at h; cases h
        · rw [S.sz, List.getElem?_append_right (Nat.le_refl _)]
          simp
      | item d =>
        rw [hx] at hw
        obtain ⟨g1, g2⟩ := j2 d hx
        refine .inr ⟨g1, _, fun H' h => ⟨n, Nat.lt_succ_self _, h⟩, fun v H' hy => ?_⟩
        obtain ⟨S2, s2, r2⟩ := g2 v H' hy
        obtain ⟨acc', st', hb, hw⟩ := bind_ok hw
        cases ht : setTg t d (wipeE env own) with
        | none =>
          simp only [lcB, ht] at hb
          cases hb
        | some e =>
          simp only [lcB, ht] at hb
          rw [bind_bool] at hb
          obtain ⟨bb, st3, hb1, hb2⟩ := bind_ok hb
          refine gTg_ok (he.mono S s2) r2 ht fun σ' he' hwp => ⟨(hwp own ho).trans (wipe_twice σ own), ρ, e, st, he', S2, ?_⟩
          rw [hb1]
          intro ρ3 H3 b' s3 S3 r3
          cases r3
          cases bb with
          | false =>
            rw [if_neg Bool.false_ne_true] at hb2 ⊢
            cases hb2
            obtain ⟨k1, k2⟩ := (s2.trans s3).keep D _ hD2 hnD
            exact ⟨ρ3, acc, av, _, (stp.trans s2).trans s3, k2, k1, Reps.mono S (s2.trans s3) _ _ racc, he.mono S (s2.trans s3), S3, Reps.mono S (s2.trans s3) _ _ rs, hw⟩
          | true =>
            rw [if_pos rfl] at hb2 ⊢
            obtain ⟨y, st4, hb3, hb4⟩ := bind_ok hb2
            refine ⟨ρ3, e, st3, he'.mono S2 s3, S3, ?_⟩
            rw [hb3]
            intro ρ4 H4 v4 s4 S4 r4
            split at hb4
            · rename_i hlen
              cases hb4
              have s24 := s2.trans (s3.trans s4)
              obtain ⟨k1, k2⟩ := s24.keep D _ hD2 hnD
              have mv := sqt_upd (K := X.K) (o := .lst (av ++ [v4])) k1
              refine ⟨av, k1, by rw [← racc.length, ← line_eq]; exact hlen, ρ4, acc ++ [y], av ++ [v4], _, ⟨fun n a h => (stp.trans s24).ext n a h, fun a o h hn => ?_⟩, k2, upd_same, ?_, ?_, S4.beside k1 k2, ?_, hw⟩
              · obtain ⟨q1, q2⟩ := (stp.trans s24).keep a o h hn
                refine ⟨?_, q2⟩
                rw [upd_ne]
                · exact q1
                · intro z; subst z; rw [hD] at h; cases h
              · exact Reps.mv (fun _ _ z => z) mv _ _ ((Reps.mono S s24 _ _ racc).append (.cons r4 .nil))
              · have he4 := he.mono S s24
                exact ⟨he4.len, fun i d h => let ⟨v, h1, h2⟩ := he4.at_ i d h; ⟨v, h1, Rep.mv (fun _ _ z => z) mv _ _ h2⟩⟩
              · exact Reps.mv (fun _ _ z => z) mv _ _ (Reps.mono S s24 _ _ rs)
            · cases hb4
/-- the tests of a comprehension -/
def LcT (X : Cx) (m : Md) (ifs : List Expr) (cx : Ex) : Prop := (ifs = [] ∧ cx = .c (.bl true)) ∨ ∃ c, ifs = [c] ∧ PT X c (tEvT m noE X cx)
theorem lct_ok {ifs : List Expr} {cx : Ex} (h : LcT X m ifs cx) : PTs X ifs (tEvT m noE X cx) := by
  rcases h with ⟨rfl, rfl⟩ | ⟨c, rfl, h⟩
  · exact ⟨fun pins s σ H Q I ⟨ρ, env, st, he, S, hf⟩ => pts_nil.run pins s σ H Q I (Fin.now (a := true) (b := true) hf S rfl)⟩
  · exact pts_one h
theorem se_lc {elt iter : Expr} {ifs : List Expr} {scope : Scope} {own : List (Str × Nat)} {t : Tg} {k : Itk} {es : Xs} {cx ex : Ex} (hk : k.free = true) (ho : ∀ i ∈ tgNames t, i ∈ own.map (·.2)) (hc : X.calm = true) (hN : X.N.Nodup) (hi : PI X tg iter (iEv m E X k es)) (ok : BlkOk X.N X.env.scope scope own)
    (hb : ∀ (s : Shared) (H : Hp) (C : Addr) (cl : List (Str × Addr)) (fp : List Addr), TgOk (X.blk s H scope (compEnvC scope cl C X.env) fp) tg t ∧ LcT (X.blk s H scope (compEnvC scope cl C X.env) fp) m ifs cx ∧ PE (X.blk s H scope (compEnvC scope cl C X.env) fp) elt (tEv m noE (X.blk s H scope (compEnvC scope cl C X.env) fp) ex))
    (hs : ∀ x, foldedSetIterable iter X.env x = pure x) : PE X (.ListComp elt [⟨tg, iter, ifs, 0⟩] scope pos) (tEv m E X (.lc (own.map (·.2)) t k es cx ex)) :=
  imE (pe_lc hc hN hi ok (fun s H C cl fp => pg_tg (X := X.blk s H scope (compEnvC scope cl C X.env) fp) hN hc (hb s H C cl fp).1)
    (fun s H C cl fp => ⟨fun pins s' σ H' Q I ⟨ρ, env, st, he, S, hf⟩ => (lct_ok (hb s H C cl fp).2.1).run pins s' σ H' Q I ⟨ρ, env, st, ⟨he.len, he.at_⟩, S, hf⟩⟩)
    (fun s H C cl fp => ⟨fun pins s' σ H' Q I ⟨ρ, env, st, he, S, hf⟩ => ((hb s H C cl fp).2.2).run pins s' σ H' Q I ⟨ρ, env, st, ⟨he.len, he.at_⟩, S, hf⟩⟩) hs) fun σ H Q h => lc_im hk ho h
/-- name = [..] on one line -/
theorem ss_setLc {i : Nat} {w : Str} {py pos' : Pos} {elt iter : Expr} {ifs : List Expr} {scope : Scope} {own : List (Str × Nat)} {t : Tg} {k : Itk} {es : Xs} {cx ex : Ex} (hk : k.free = true) (ho : ∀ i ∈ tgNames t, i ∈ own.map (·.2)) (hc : X.calm = true) (hN : X.N.Nodup) (hy : X.N[i]? = some w) (hyl : X.env.scope.names.lookup w = some .local)
    (hsw : swapsWith (.ListComp elt [⟨tg, iter, ifs, 0⟩] scope pos') (some (.Name w py)) pos.line X.env = pure true) (hi : PI X tg iter (iEv m E X k es)) (ok : BlkOk X.N X.env.scope scope own)
    (hb : ∀ (s : Shared) (H : Hp) (C : Addr) (cl : List (Str × Addr)) (fp : List Addr), TgOk (X.blk s H scope (compEnvC scope cl C X.env) fp) tg t ∧ LcT (X.blk s H scope (compEnvC scope cl C X.env) fp) m ifs cx ∧ PE (X.blk s H scope (compEnvC scope cl C X.env) fp) elt (tEv m noE (X.blk s H scope (compEnvC scope cl C X.env) fp) ex))
    (hs : ∀ x, foldedSetIterable iter X.env x = pure x) : PS X (.Assign [.Name w py] (.ListComp elt [⟨tg, iter, ifs, 0⟩] scope pos') pos) (tSt m E X (.asg (.nm i) (.lc (own.map (·.2)) t k es cx ex))) :=
  imS (ps_setLc (tt := tEvT m noE X cx) (te := tEv m noE X ex) hc hN hy hyl hsw hi ok (fun s H C cl fp => pg_tg (X := X.blk s H scope (compEnvC scope cl C X.env) fp) hN hc (hb s H C cl fp).1)
    (fun s H C cl fp => ⟨fun pins s' σ H' Q I ⟨ρ, env, st, he, S, hf⟩ => (lct_ok (hb s H C cl fp).2.1).run pins s' σ H' Q I ⟨ρ, env, st, ⟨he.len, he.at_⟩, S, hf⟩⟩)
    (fun s H C cl fp => ⟨fun pins s' σ H' Q I ⟨ρ, env, st, he, S, hf⟩ => ((hb s H C cl fp).2.2).run pins s' σ H' Q I ⟨ρ, env, st, ⟨he.len, he.at_⟩, S, hf⟩⟩) hs) fun D σ H ⟨ρ, env, st, hen, S, hf⟩ => by
    simp only [exS, asgI] at hf
    refine lc_im hk ho ⟨ρ, env, st, hen, S, hf.bind fun d st1 ρ1 H1 v s1 S1 r1 hf1 => ?_⟩
    exact Fin.nx hf1 S1 ((hen.mono S s1).set r1)

/-! several targets -/
theorem ss_par {i j : Nat} {u v : Str} {ys : Xs} {px py pt : Pos} {kt k2 pt2} (hc : X.calm = true) (hN : X.N.Nodup) (hi : X.N[i]? = some u) (hj : X.N[j]? = some v) (hij : i ≠ j)
    (hx : X.env.scope.names.lookup u = some .local) (hy : X.env.scope.names.lookup v = some .local) (ha : PA X [a, b] (tEvX m E X ys))
    (hw : swappedStores [.Tuple [.Name u px, .Name v py] kt pt] (.Tuple [a, b] k2 pt2) X.env = pure (some [u, v]))
    (hs : swapsWithSole [.Tuple [.Name u px, .Name v py] kt pt] (.Tuple [a, b] k2 pt2) pos.line X.env = pure false) :
    PS X (.Assign [.Tuple [.Name u px, .Name v py] kt pt] (.Tuple [a, b] k2 pt2) pos) (tSt m E X (.par [i, j] ys)) :=
  imS (ps_par hc hN hi hj hij hx hy ha hw hs) fun D σ H ⟨ρ, env, st, hen, S, hf⟩ => by
    simp only [exS] at hf
    refine ⟨ρ, env, st, hen, S, hf.bind fun ds st1 ρ1 H1 vs s1 S1 r1 hf1 => ?_⟩
    split at hf1
    · rename_i hl
      match ds, vs, r1, hl with
      | [d1, d2], _, .cons q1 (.cons q2 .nil), _ => exact ⟨_, _, rfl, Fin.nx hf1 S1 (((hen.mono S s1).set q1).set q2)⟩
    · exact hf1.elim
theorem ss_par3 {i j l : Nat} {u v w : Str} {ys : Xs} {px py pz pt : Pos} {kt k2 pt2} (hc : X.calm = true) (hN : X.N.Nodup) (hi : X.N[i]? = some u) (hj : X.N[j]? = some v) (hl : X.N[l]? = some w) (hij : i ≠ j) (hil : i ≠ l) (hjl : j ≠ l)
    (hx : X.env.scope.names.lookup u = some .local) (hy : X.env.scope.names.lookup v = some .local) (hz : X.env.scope.names.lookup w = some .local) (ha : PA X [a, b, c] (tEvX m E X ys))
    (hw : swappedStores [.Tuple [.Name u px, .Name v py, .Name w pz] kt pt] (.Tuple [a, b, c] k2 pt2) X.env = pure (some [u, v, w]))
    (hs : swapsWithSole [.Tuple [.Name u px, .Name v py, .Name w pz] kt pt] (.Tuple [a, b, c] k2 pt2) pos.line X.env = pure false) :
    PS X (.Assign [.Tuple [.Name u px, .Name v py, .Name w pz] kt pt] (.Tuple [a, b, c] k2 pt2) pos) (tSt m E X (.par [i, j, l] ys)) :=
  imS (ps_par3 hc hN hi hj hl hij hil hjl hx hy hz ha hw hs) fun D σ H ⟨ρ, env, st, hen, S, hf⟩ => by
    simp only [exS] at hf
    refine ⟨ρ, env, st, hen, S, hf.bind fun ds st1 ρ1 H1 vs s1 S1 r1 hf1 => ?_⟩
    split at hf1
    · rename_i hl
      match ds, vs, r1, hl with
      | [d1, d2, d3], _, .cons q1 (.cons q2 (.cons q3 .nil)), _ => exact ⟨_, _, _, rfl, Fin.nx hf1 S1 ((((hen.mono S s1).set q1).set q2).set q3)⟩
    · exact hf1.elim
/-- targets, one after another -/
def tAs (m : Md) (E : XK) (X : Cx) (ts : Ats) : TGs := fun vs σ H Q => ∃ ρ env st ds, ERel X ρ H env σ ∧ Rel m X ρ H st ∧ Reps X.K ρ H ds vs ∧ Fin m E X ρ H (asgs m.T m.F m.call ts ds env st) (ERel X) Q
theorem sgs_nil : PGs X [] (tAs m E X .nil) := ⟨fun pins s σ H vs us Q I r ⟨ρ, env, st, ds, he, S, rs, hf⟩ => pgs_nil.run pins s σ H vs us Q I r (by
  cases rs with
  | nil => simp only [asgs] at hf; exact ⟨rfl, hf.now S he⟩
  | cons _ _ => simp only [asgs] at hf; exact hf.elim)⟩
theorem sgs_cons {es : List Expr} {t : As} {ts : Ats} (h1 : PG X e (tA m E X t)) (h2 : PGs X es (tAs m E X ts)) (hs : (assignEach (e :: es) X.env).map (·.2) = assign e X.env :: (assignEach es X.env).map (·.2)) : PGs X (e :: es) (tAs m E X (.cons t ts)) :=
  ⟨fun pins s σ H vs us Q I r ⟨ρ, env, st, ds, he, S, rs, hf⟩ => (pgs_cons h1 h2 hs).run pins s σ H vs us Q I r (by
    cases rs with
    | nil => simp only [asgs] at hf; exact hf.elim
    | cons q rr =>
      simp only [asgs] at hf
      refine ⟨_, _, rfl, ρ, env, st, _, he, S, q, hf.bind fun env1 st1 ρ1 H1 σ1 s1 S1 r1 hf1 => ?_⟩
      exact ⟨ρ1, env1, st1, _, r1, S1, Reps.mono S s1 _ _ rr, hf1⟩)⟩
theorem sg_tup {es : List Expr} {k : Nat} {ts : Ats} (hc : X.calm = true) (h : PGs X es (tAs m E X ts)) (hn : (assignEach es X.env).length = ts.len) (hst : (assignEach es X.env).findIdx? (·.1) = none) : PG X (.Tuple es k pos) (tA m E X (.tp ts)) :=
  imG (pg_tup hc h hn hst) fun v σ H Q ⟨ρ, env, st, d, he, S, r, hf⟩ => by
    cases r with
    | tup q rs =>
      simp only [asgI] at hf
      split at hf
      · rename_i hl
        exact ⟨_, _, rfl, q, by rw [← rs.length]; exact hl, ρ, env, st, _, he, S, rs, hf⟩
      · exact hf.elim
    | _ => simp only [asgI] at hf; exact hf.elim
/-- name += an int -/
theorem ss_aug {i : Nat} {w : Str} {pos' : Pos} (hN : X.N.Nodup) (hi : X.N[i]? = some w) (hx : Loc X.env.scope w) (he : PE X e (tEv m E X x)) (hf : X.fn w = true ∨ X.env.scope.names.lookup w = some .local) :
    PS X (.AugAssign (.Name w pos') .Add e pos) (tSt m E X (.aug i x)) :=
  imS (ps_aug hN hi hx he ip_add hf) fun D σ H ⟨ρ, env, st, hen, S, hf⟩ => by
    simp only [exS] at hf
    split at hf
    · rename_i d hd
      obtain ⟨v, h1, h2⟩ := hen.at_ i d hd
      refine ⟨v, h1, ρ, env, st, hen, S, hf.bind fun d2 st1 ρ1 H1 v2 s1 S1 r1 hf1 => ?_⟩
      split at hf1
      · cases h2
        cases r1
        exact ⟨_, _, rfl, rfl, Fin.nx hf1 S1 ((hen.mono S s1).set (.int _))⟩
      · exact hf1.elim
    · exact hf.elim
/-- == and != where no class has an own __eq__ -/
theorem opr_eq (hu : X.A.units + 65 < cLine) (h : ∀ c : Nat, (m.T.cls[c]?).bind (·.eq) = none) : OpR X (compareOp .Eq) (R2D m E X (cmpC m.T m.call .eq)) := by
  intro pins s σ H x y v u Q I rx ry ⟨ρ, st, d, e, S, r1, r2, hf⟩
  cases hc : clsAt st d with
  | none =>
    rw [cmpC_plain (.inl hc)] at hf
    exact cmp_eq (m := m) (E := E) hu pins s σ H x y v u Q I rx ry ⟨ρ, st, d, e, S, r1, r2, hf⟩
  | some c =>
    unfold cmpC at hf
    rw [hc] at hf
    simp only [h c] at hf
    exact hf.elim
theorem opr_ne (hu : X.A.units + 65 < cLine) (h : ∀ c : Nat, (m.T.cls[c]?).bind (·.eq) = none) : OpR X (compareOp .NotEq) (R2D m E X (cmpC m.T m.call .ne)) := by
  intro pins s σ H x y v u Q I rx ry ⟨ρ, st, d, e, S, r1, r2, hf⟩
  cases hc : clsAt st d with
  | none =>
    rw [cmpC_plain (.inl hc)] at hf
    exact cmp_ne (m := m) (E := E) hu pins s σ H x y v u Q I rx ry ⟨ρ, st, d, e, S, r1, r2, hf⟩
  | some c =>
    unfold cmpC at hf
    rw [hc] at hf
    simp only [h c] at hf
    exact hf.elim
end
end VI
/-! VIn: isinstance, list(range(n)). -/
namespace VI
open PySem PySem.Spec PyProof.Rows L2
/-- the types of things, by number -/
def tyNo (st : Store) : D → Option (Nat ⊕ Nat)
  | .non => some (.inl 0)
  | .bl _ => some (.inl 1)
  | .int _ => some (.inl 2)
  | .str _ => some (.inl 3)
  | .tup _ => some (.inl 4)
  | .ref n => match st.get n with
    | some (.lst _) => some (.inl 5)
    | some (.flst _) => some (.inl 5)
    | some (.dct _ _) => some (.inl 6)
    | some (.ins c _) => some (.inr c)
    | none => none
def tyNames : List String := ["NoneType", "bool", "int", "str", "tuple", "list", "dict"]
def tyIs (ty : Ty) (k : Nat) : Bool := match ty with
  | .str => k == 3
  | .tuple => k == 4
  | .int => k == 1 || k == 2
  | .bool => k == 1
  | .dict => k == 6
  | .list => k == 5
  | .cls _ => false
def tyIsC (ty : Ty) (c : Nat) : Bool := match ty with
  | .cls c' => c' == c
  | _ => false
theorem isTy_no {st : Store} {d : D} {ty : Ty} {k : Nat ⊕ Nat} (h : tyNo st d = some k) : isTy st d ty = some (match k with | .inl k => tyIs ty k | .inr c => tyIsC ty c) := by
  cases d with
  | ref n =>
    simp only [tyNo] at h
    cases hg : st.get n with
    | none => rw [hg] at h; cases h
    | some o =>
      rw [hg] at h
      cases o <;> (cases h; cases ty <;> simp only [isTy, hg] <;> try rfl)
      all_goals (simp only [tyIsC]; congr 1; exact Bool.eq_iff_iff.mpr (by simp [eq_comm]))
  | _ => cases h; cases ty <;> rfl
/-- what isinstance answers, by types: the table of a class -/
structure IsTab (nm : Nm) (K : PySem.W.Frag) (ty : Ty) (u : Value) : Prop where
  blt : ∀ (k : Nat) (n : String), tyNames[k]? = some n → PySem.W.kitOne K (.type n) u = some (tyIs ty k)
  ins : ∀ (c : Nat) (C : Addr), nm.cA[c]? = some C → PySem.W.kitOne K (.ref C) u = some (tyIsC ty c)
/-- what the classes of instances are known to be -/
structure ClsOk (nm : Nm) (K : PySem.W.Frag) : Prop where
  at_ : ∀ (c : Nat) (C : Addr), nm.cA[c]? = some C → Cls K C ∧ PySem.W.findIn K (.ref C) "__class__" = some (some (.builtin "object.__class__")) ∧ PySem.W.specialIn K (.builtin "object.__class__") "__get__" = some (some (.builtin "getset_descriptor.__get__")) ∧
    PySem.W.takesIn K (.builtin "object.__class__") = some true ∧ PySem.W.mroIn K C (.type "object") = some true
section
variable {m : Md} {E : XK} {X : Cx} {e a b c : Expr} {x y z : Ex} {pos : Pos} {tg : Expr} {ρ : List Addr} {H : Hp}
theorem kit_D {pins : List (Addr × Obj)} {σ : L2.St} {s : Shared} {st : Store} {d : D} {v : V} {u : Value} {k : Nat ⊕ Nat} (hcl : ClsOk m.nm X.K) (I : Inv X pins σ H s) (S : Rel m X ρ H st) (r : Rep X.K ρ H d v) (ru : RelV v u) (hk : tyNo st d = some k) :
    ∃ t P, PySem.W.KitX X.K u t P ∧ P s.heap ∧ u ≠ .builtin "__main__.__loader__#opaque" ∧ match k with | .inl k => ∃ n, tyNames[k]? = some n ∧ t = .type n | .inr c => ∃ C, m.nm.cA[c]? = some C ∧ t = .ref C := by
  have go : ∀ {t : Value}, TyX X.K H v t → (match k with | .inl k => ∃ n, tyNames[k]? = some n ∧ t = .type n | .inr c => ∃ C, m.nm.cA[c]? = some C ∧ t = .ref C) → ∃ t P, PySem.W.KitX X.K u t P ∧ P s.heap ∧ u ≠ .builtin "__main__.__loader__#opaque" ∧ match k with | .inl k => ∃ n, tyNames[k]? = some n ∧ t = .type n | .inr c => ∃ C, m.nm.cA[c]? = some C ∧ t = .ref C := fun {t} h q => by
    obtain ⟨P, h1, h2, h3⟩ := kit_of I ru h
    exact ⟨t, P, h1, h2, h3, q⟩
  cases r with
  | non => cases hk; exact go (.base .non) ⟨_, rfl, rfl⟩
  | bl b => cases hk; exact go (.base (.bl b)) ⟨_, rfl, rfl⟩
  | int i => cases hk; exact go (.base (.int i)) ⟨_, rfl, rfl⟩
  | str x => cases hk; exact go (.base (.str _)) ⟨_, rfl, rfl⟩
  | tup q rs =>
    cases hk
    rcases q with (q | ⟨o, q⟩) | ⟨o, its, n, q1, q2, _⟩
    · exact go (.base (.tup q)) ⟨_, rfl, rfl⟩
    · exact go (.fTuple q) ⟨_, rfl, rfl⟩
    · exact go (.kTuple q1 q2) ⟨_, rfl, rfl⟩
  | ref ha =>
    unfold tyNo at hk
    simp only at hk
    split at hk
    · rename_i xs g
      cases hk
      obtain ⟨vs, q, _⟩ := S.lst_at ha g
      exact go (.base (.lst q)) ⟨_, rfl, rfl⟩
    · rename_i xs g
      cases hk
      obtain ⟨o, vs, q, _⟩ := S.flst_at ha g
      exact go (.base (.frz q)) ⟨_, rfl, rfl⟩
    · rename_i lk kvs g
      cases hk
      cases ru
      obtain ⟨es, ep, ⟨o, h1, h2, h3⟩, _⟩ := dct_raw I (S.dct_at ha g)
      exact ⟨_, _, PySem.W.kitx_dict, ⟨o, h1, h2.1⟩, (fun z => nomatch z), _, rfl, rfl⟩
    · rename_i cc fs g
      cases hk
      obtain ⟨o, g', q⟩ := S.ob _ _ ha
      rw [g] at g'; cases g'
      obtain ⟨C, dx, fv, hC, q, _⟩ := q
      obtain ⟨k1, k2, k3, k4, k5⟩ := hcl.at_ _ _ hC
      exact go (.base (.ins q k1 k2 k3 k4 k5)) ⟨_, hC, rfl⟩
    · cases hk
/-- isinstance(a, T) -/
def rIsD (m : Md) (X : Cx) (ty : Ty) (cv : V) : List V → Hp → VK → Prop := fun xs H Q => ∃ ρ st d v b, xs = [v, cv] ∧ Rel m X ρ H st ∧ Rep X.K ρ H d v ∧ isTy st d ty = some b ∧ Q (.bl b) H
theorem call_isD {ty : Ty} {cv : V} {u : Value} (hcl : ClsOk m.nm X.K) (hc : ClsV cv u) (ht : IsTab m.nm X.K ty u) : CallR X (.builtin "isinstance") (rIsD m X ty cv) := by
  intro pins s σ H xs us Q I r h
  obtain ⟨ρ, st, d, v, b, rfl, S, rd, e, q⟩ := h
  obtain ⟨u1, u2, rfl, r1, r2⟩ := vals2 r
  have e2 := hc.eq r2
  subst e2
  obtain ⟨k, hk⟩ : ∃ k, tyNo st d = some k := by
    cases rd with
    | ref ha =>
      obtain ⟨o, g, _⟩ := S.ob _ _ ha
      unfold tyNo
      simp only [g]
      cases o <;> exact ⟨_, rfl⟩
    | _ => exact ⟨_, rfl⟩
  rw [isTy_no hk] at e
  have e := Option.some.inj e
  obtain ⟨t, P, Z, p, hx, hq⟩ := kit_D hcl I S rd r1 hk
  have hone : PySem.W.kitOne X.K t u2 = some b := by
    cases k with
    | inl k =>
      obtain ⟨n, hn, rfl⟩ := hq
      rw [ht.blt k n hn, ← e]
    | inr c =>
      obtain ⟨C, hC, rfl⟩ := hq
      rw [ht.ins c C hC, ← e]
  exact PySem.W.kia_one Z I.kIn p hone hx fun tk => ⟨.bl b, H, I.tok tk, rfl, q⟩
/-- a class's name as a value -/
def tVal (v : V) : TE := fun _ H Q => Q v H
theorem pe_tyName {w : Str} {n : String} (hg : Gl X w) (hm : X.mg w = none) (hv : bootBuiltins w = some (.type n)) (hn : w ≠ "__name__") (hd : (w == ("__debug__" : Str)) = false) : PE X (.Name w pos) (tVal (.ty n)) :=
  ⟨fun pins s σ H Q I h => ld_blt I hg hm hv ⟨.ty n, H, I, rfl, h⟩ hn hd⟩
theorem pe_clsName {w : Str} {C : Addr} (hg : Gl X w) (hm : X.mg w = some (.ref C)) (hd : (w == ("__debug__" : Str)) = false) : PE X (.Name w pos) (tVal (.ref C)) :=
  ⟨fun pins s σ H Q I h => ld_glob I hg hm ⟨.ref C, H, I, rfl, h⟩ hd⟩
theorem se_isi {ty : Ty} {cv : V} {u : Value} {p : Pos} (hcl : ClsOk m.nm X.K) (hc : ClsV cv u) (ht : IsTab m.nm X.K ty u) (hg : Gl X "isinstance") (hm : X.mg "isinstance" = none) (ha : PE X a (tEv m E X x)) (hb : PE X b (tVal cv))
    (he : starEach [a, b] X.env = (false, eval a X.env) :: starEach [b] X.env) (he2 : starEach [b] X.env = (false, eval b X.env) :: starEach [] X.env) (hpl : (backTo pos (starEach [b] X.env)).any (·.1) = false) :
    PE X (.Call (.Name "isinstance" p) [a, b] [] pos) (tEv m E X (.blt (.isi [ty]) (.cons false x .nil))) :=
  imE (pe_callB (call_isD (m := m) hcl hc ht) hg hm rfl (pa_cons ha (pa_cons hb pa_nil he2) he) (by decide) (by decide) he hpl) fun σ H Q ⟨ρ, env, st, he, S, hf⟩ => by
    simp only [evE, ev1, bind_assoc] at hf
    refine ⟨ρ, env, st, he, S, hf.bind fun d st1 ρ1 H1 v s1 S1 r1 hf1 => ?_⟩
    have hf1 : Fin m E X ρ1 H1 (isiV [ty] [d] st1) (rD X) Q := hf1
    unfold isiV at hf1
    simp only [isTys] at hf1
    cases hi : isTy st1 d ty with
    | none => rw [hi] at hf1; exact hf1.elim
    | some bb =>
      rw [hi] at hf1
      simp only [Bool.or_false] at hf1
      exact ⟨ρ1, st1, d, v, bb, rfl, S1, r1, hi, hf1.now S1 (.bl bb)⟩
/-- list(range(n)) -/
theorem rgV_reps {n : Int} : Reps X.K ρ H ((List.range n.toNat).map fun (i : Nat) => D.int (i : Int)) (rgV 0 n) := by
  unfold rgV
  have e : (n - 0).toNat = n.toNat := by omega
  rw [e]
  induction List.range n.toNat with
  | nil => exact .nil
  | cons i r ih =>
    refine .cons ?_ ih
    have : (0 : Int) + (i : Nat) = (i : Int) := by omega
    show Rep X.K ρ H (.int (i : Int)) (.int ((0 : Int) + (i : Nat)))
    rw [this]
    exact .int _
theorem se_listRg {p p1 p2 : Pos} (hc : X.calm = true) (hg : Gl X "list") (hm : X.mg "list" = none) (hg2 : Gl X "range") (hm2 : X.mg "range" = none) (ha : PE X a (tEv m E X x)) (na : starEach [a] X.env = (false, eval a X.env) :: starEach [] X.env)
    (ne : starEach [.Call (.Name "range" p1) [a] [] p2] X.env = (false, eval (.Call (.Name "range" p1) [a] [] p2) X.env) :: starEach [] X.env) : PE X (.Call (.Name "list" p) [.Call (.Name "range" p1) [a] [] p2] [] pos) (tEv m E X (.blt .listRange (.cons false x .nil))) :=
  imE (pe_listRg hc hg hm (prg_1 hg2 hm2 ha na) ne) fun σ H Q ⟨ρ, env, st, he, S, hf⟩ => by
    simp only [evE, ev1, bind_assoc] at hf
    refine ⟨ρ, env, st, he, S, hf.bind fun d st1 ρ1 H1 v s1 S1 r1 hf1 => ?_⟩
    have hf1 : Fin m E X ρ1 H1 (listRangeV [d] st1) (rD X) Q := hf1
    unfold listRangeV at hf1
    cases r1 with
    | int n =>
      simp only at hf1
      split at hf1
      · rename_i hl
        refine ⟨n, rfl, ⟨by omega, by omega, ?_, ?_, ?_⟩, fun q hq => hf1.lst S1 rgV_reps hq⟩
        all_goals omega
      · exact hf1.elim
    | _ => exact hf1.elim
end
end VI
/-! VIo: displays of dicts. -/
namespace VI
open PySem PySem.Spec PyProof.Rows L2
section
variable {m : Md} {E : XK} {X : Cx} {pos : Pos} {ρ : List Addr} {H : Hp} {pins : List (Addr × Obj)} {σ : L2.St} {s : Shared} {st : Store}
theorem room8' {A : Around} (h : A.units + 65 < cLine) : (nestedKind X.prog X.w).room A := by
  show A.units + 8 < cLine
  omega
theorem dct_put2 (I : Inv X pins σ H s) (hu : X.A.units + 65 < cLine) (S : Rel m X ρ H st) {n : Nat} {a : Addr} {kvs : List (D × D)} {k d : D} {y v : V} {u z : Value} (ha : ρ[n]? = some a) (g : st.get n = some (.dct false kvs)) (hk : kkOk kvs k = true) (hl : kvs.length < sizeLine)
    (r : Rep X.K ρ H k y) (ru : RelV y u) (rd : Rep X.K ρ H d v) (rv : RelV v z) {Q : Unit → Shared → Prop} {E : Value → Shared → Prop}
    (h : ∀ H' s', Inv X pins σ H' s' → Step ρ H ρ H' → Rel m X ρ H' (st.set n (.dct false (putD kvs k d))) → Q () s') : wpAny (model X.prog X.w) X.A (dictSet a u z) Q E s := by
  obtain ⟨hz, hs, hv⟩ := dict_view S ha g hk
  have hz' : (putD kvs k d).length ≤ sizeLine := Nat.le_trans (putD_len kvs k d) hl
  rcases hv with ⟨j, kv, hj, q, lp⟩ | ⟨h2, hv⟩
  · obtain rfl := leafK_rep hj r
    have e : (lookD kvs k).isSome = (valV kv j).isSome := by
      rcases lp_look hj lp with ⟨h1, h2⟩ | ⟨d, v, h1, h2, _⟩ <;> rw [h1, h2] <;> rfl
    have q : H a = some (.dK kv) := q
    have hkv : kv.length < sizeLine := by rw [← paired_len lp]; exact hl
    obtain ⟨z0, hd, vs, rel, dd⟩ := dk_of I.hok q
    have hl' : (putK kv j v).length ≤ sizeLine := by have := length_putK kv j v; omega
    refine wpAny_dictSet_pairs (hsz := by rw [← rel.length]; omega) (kV_is ru) dd fun h' dd' hsb => ?_
    have he : ∃ q, h'.get? a = some q := let ⟨q, _, _, hq, _⟩ := dd'; ⟨q, hq⟩
    have I' := d_write (t' := s.toks + 1) I (by rw [q]; exact True.intro) hsb he (dk_new hl' hd (rel.put j rv) dd')
    obtain ⟨S', stp⟩ := SRel.dset (o := .dK (putK kv j v)) (kvs := putD kvs k d) S ha fun stp => ⟨hz', hs, .inl ⟨_, upd_same, by
      have := LPairs.put hj rd lp e
      exact paired_imp this fun p q z => ⟨z.1, Rep.mono S stp _ _ z.2⟩⟩⟩
    exact h _ _ I' stp S'
  · obtain ⟨xs0, rfl, _⟩ := kk2 h2
    cases r with
    | tup q1 q2 =>
      rename_i b _
      cases ru
      have hkey := key_is I h2 (.tup q1 q2)
      have fin : ∀ (xs : List (NestedKey × Addr × Value)) (o0 : HO) (h' : Heap), H a = some o0 → Mut (some o0) → TPairs X.K ρ H kvs xs → h'.DictOfH (nestedKind X.prog X.w) a (storedH xs (nkey (.tup xs0)) b z) → Heap.SameBut a s.heap h' →
          (lookD kvs (.tup xs0)).isSome = (atKey xs (nkey (.tup xs0))).isSome → ∀ tk, Q () { s with heap := h', toks := tk } := fun xs o0 h' e0 mu tp hm' hsb e tk => by
        obtain ⟨o, es, ep, e1, e2, e3, e4, e5, e6⟩ := hm'
        have tp' := TPairs.put (k := .tup xs0) h2 (.tup q1 q2) rd rv tp e
        have raw : rawD X.prog X.w a (storedH xs (nkey (.tup xs0)) b z) h' := ⟨o, es, ep, e1, e2, e3, e4⟩
        have I' : Inv X pins σ (upd H a (.ext (rawD X.prog X.w a (storedH xs (nkey (.tup xs0)) b z)))) { s with heap := h', toks := tk } :=
          I.write (x := a) (e := a) (by rw [e0]; exact mu) (.inl rfl) (fun b' u' hb hu' => (hsb.2 b' hb).trans hu') ⟨o, e1⟩ ⟨raw, ⟨o, e1⟩, fun h1 h2 r k => rawD_stay r k⟩
        obtain ⟨S', stp⟩ := SRel.dset (o := .ext (rawD X.prog X.w a (storedH xs (nkey (.tup xs0)) b z))) (kvs := putD kvs (.tup xs0) d) S ha fun stp => ⟨hz', hs, .inr ⟨putD_ne _ _ _, _, upd_same, paired_imp tp' fun p q z => ⟨z.1, z.2.1, Rep.mono S stp _ _ z.2.2.1, let ⟨v, h1, h2⟩ := z.2.2.2; ⟨v, h1, Rep.mono S stp _ _ h2⟩⟩, e6⟩⟩
        exact h _ _ I' stp S'
      rcases hv with ⟨rfl, q⟩ | ⟨xs, ne, q, tp, nd⟩
      · have q' : H a = some (.dK []) := q
        exact wpAny_dictSet_heap (hsz := Nat.zero_le _) (room8' hu) hkey (empty_of I q) fun h' hm' hsb => fin [] _ h' q' trivial .nil hm' hsb rfl _
      · have q' : H a = some (.ext _) := q
        refine wpAny_dictSet_heap (hsz := by rw [← paired_len tp]; exact hz) (room8' hu) hkey (dictOfH I q tp nd) fun h' hm' hsb => fin xs _ h' q' trivial tp hm' hsb ?_ _
        rcases tp_look h2 tp with ⟨h1, h2⟩ | ⟨d, p, v, h1, h2, _⟩ <;> rw [h1, h2] <;> rfl
/-- pairs one after another -/
def flatP : List (Value × Value) → List Value
  | [] => []
  | p :: r => p.1 :: p.2 :: flatP r
theorem store_pairs (hu : X.A.units + 65 < cLine) {Q : PUnit → Shared → Prop} {E : Value → Shared → Prop} {n : Nat} {a : Addr} {stF : Store} {dF : D} (ha : ρ[n]? = some a) : ∀ (ws : List (Value × Value)) (ds : List D) (vs : List V) (H : Hp) (st : Store) (s : Shared), Inv X pins σ H s → Rel m X ρ H st → (∃ kvs, st.get n = some (.dct false kvs)) →
    Reps X.K ρ H ds vs → Vals vs (flatP ws) → mkDict ds n st = .ok dF stF → (∀ H' s', Inv X pins σ H' s' → Step ρ H ρ H' → Rel m X ρ H' stF → dF = .ref n → Q PUnit.unit s') → wpAny (model X.prog X.w) X.A (storeAll a ws) Q E s
  | [], ds, vs, H, st, s, I, S, hg, rs, hv, hm, h => by
    cases hv
    cases rs
    cases hm
    unfold storeAll
    rw [List.forIn_nil]
    exact wpAny_pure (h H s I (Step.refl _ _) S rfl)
  | w :: ws, ds, vs, H, st, s, I, S, ⟨kvs, hg⟩, rs, hv, hm, h => by
    obtain ⟨w1, w2⟩ := w
    cases hv with
    | cons r1 hv =>
      cases hv with
      | cons r2 hv =>
        cases rs with
        | cons q1 rs =>
          cases rs with
          | cons q2 rs =>
            rename_i d1 ds1 d2 ds2
            unfold mkDict at hm
            obtain ⟨_, st2, hs, hm⟩ := bind_ok hm
            unfold setItemV at hs
            simp only [hg] at hs
            split at hs
            · rename_i hc
              cases hs
              simp only [Bool.and_eq_true, decide_eq_true_eq] at hc
              unfold storeAll
              rw [List.forIn_cons]
              refine wpAny_bind (wpAny_bind (dct_put2 I hu S ha hg hc.1 (by rw [← line_eq]; exact hc.2) q1 r1 q2 r2 fun H' s' I' stp S' => wpAny_pure ?_))
              exact store_pairs hu ha ws _ _ H' _ s' I' S' ⟨_, set_dct hg⟩ (Reps.mono S stp _ _ rs) hv hm fun H2 s2 I2 stp2 => h H2 s2 I2 (stp.trans stp2)
            · cases hs
/-- the pairs of a display -/
structure PPd (m : Md) (E : XK) (X : Cx) (pos : Pos) (keys : List (Option Expr)) (values : List Expr) (ys : Xs) : Prop where
  run : ∀ (pins : List (Addr × Obj)) (s : Shared) (σ : L2.St) (H : Hp) (Q : List V → Hp → Prop), Inv X pins σ H s → tEvX m E X ys σ H Q →
    wpAny (model X.prog X.w) X.A (evalPairs (pairTrees keys values X.env pos)) (fun ws s' => ∃ vs H', Inv X pins σ H' s' ∧ Vals vs (flatP ws) ∧ Q vs H') X.xe s
theorem ppd_nil : PPd m E X pos [] [] .nil := ⟨fun pins s σ H Q I ⟨ρ, env, st, he, S, hf⟩ => pairTrees_nil_walk ⟨[], H, I, .nil, by simp only [evX] at hf; exact hf.now S .nil⟩⟩
theorem ppd_cons {k v : Expr} {ks : List (Option Expr)} {vs : List Expr} {x y : Ex} {ys : Xs} (hk : PE X k (tEv m E X x)) (hv : PE X v (tEv m E X y)) (hr : PPd m E X pos ks vs ys) :
    PPd m E X pos (some k :: ks) (v :: vs) (.cons false x (.cons false y ys)) := ⟨fun pins s σ H Q I ⟨ρ, env, st, he, S, hf⟩ => by
  simp only [evX, if_false, Bool.false_eq_true, bind_assoc] at hf
  refine pairTrees_cons_walk (thn (hk.run pins s σ H (fun v H1 => ∃ ρ1 st1 d, Step ρ H ρ1 H1 ∧ Rel m X ρ1 H1 st1 ∧ Rep X.K ρ1 H1 d v ∧ Fin m E X ρ1 H1 ((evE m.T m.F m.call y env st1).bind fun d2 s2 => (evX m.T m.F m.call ys env s2).bind fun dr s3 => .ok (d :: d2 :: dr) s3) (rDs X) Q) I ⟨ρ, env, st, he, S, hf.bind fun d st1 ρ1 H1 v s1 S1 r1 hf1 => ⟨ρ1, st1, d, s1, S1, r1, hf1⟩⟩) fun u s1 ⟨xv, H1, I1, rx, ρ1, st1, d, stp1, S1, r1, hf1⟩ => ?_)
  refine thn (hv.run pins s1 σ H1 (fun v H2 => ∃ ρ2 st2 d2, Step ρ1 H1 ρ2 H2 ∧ Rel m X ρ2 H2 st2 ∧ Rep X.K ρ2 H2 d2 v ∧ Fin m E X ρ2 H2 ((evX m.T m.F m.call ys env st2).bind fun dr s3 => .ok (d :: d2 :: dr) s3) (rDs X) Q) I1 ⟨ρ1, env, st1, he.mono S stp1, S1, hf1.bind fun d st1 ρ1 H1 v s1 S1 r1 hf1 => ⟨ρ1, st1, d, s1, S1, r1, hf1⟩⟩) fun w2 s2 ⟨yv, H2, I2, ry, ρ2, st2, d2, stp2, S2, r2, hf2⟩ => ?_
  refine thn (hr.run pins s2 σ H2 (fun vs H3 => Q (xv :: yv :: vs) H3) I2 ⟨ρ2, env, st2, (he.mono S stp1).mono S1 stp2, S2, hf2.bind fun dr st3 ρ3 H3 vs s3 S3 r3 hf3 => ?_⟩) fun ws s3 ⟨vs, H3, I3, rel, q3⟩ => ⟨xv :: yv :: vs, H3, I3, .cons rx (.cons ry rel), q3⟩
  exact hf3.now S3 (.cons (Rep.mono S1 (stp2.trans s3) _ _ r1) (.cons (Rep.mono S2 s3 _ _ r2) r3))⟩
theorem SRel.adoptO {nm : Nm} {P : Program} {w : World} {K : PySem.W.Frag} {st : Store} (S : SRel nm P w K ρ H st) {p : Addr} {ob : Ob} (hp : p ∉ ρ) (r : ORep nm P w K (ρ ++ [p]) H ob p) : SRel nm P w K (ρ ++ [p]) H (st.add ob) := by
  refine ⟨?_, ?_, fun n a ha => ?_⟩
  · rw [List.nodup_append]
    refine ⟨S.nd, by simp, fun a ha b hb => ?_⟩
    simp at hb
    subst hb
    exact fun e => hp (e ▸ ha)
  · rw [Store.add_sz, S.sz]; simp
  · rcases get_app ha with ⟨hl, ha⟩ | ⟨rfl, rfl⟩
    · obtain ⟨o, g, q⟩ := S.ob n a ha
      exact ⟨o, by rw [Store.get_add_ne (by rw [S.sz]; omega)]; exact g, ORep.mv ext_app (fun _ _ z => z) rfl q⟩
    · exact ⟨ob, by rw [← S.sz]; exact Store.get_add_self, r⟩
theorem mkDict_noexc : ∀ (ds : List D) (n : Nat) (st : Store) (c : Nat) (x : D) (s' : Store), mkDict ds n st ≠ .exc c x s'
  | [], _, _, _, _, _ => by simp [mkDict]
  | [_], _, _, _, _, _ => by simp [mkDict]
  | k :: v :: r, n, st, c, x, s' => fun h => by
    unfold mkDict at h
    cases hs : setItemV (.ref n) k v st with
    | ok a s1 => rw [hs] at h; exact mkDict_noexc r n s1 c x s' h
    | exc c1 x1 s1 =>
      unfold setItemV at hs
      simp only at hs
      split at hs
      · split at hs
        · split at hs <;> cases hs
        · cases hs
      · split at hs <;> cases hs
      · cases hs
    | stuck => rw [hs] at h; cases h
theorem se_dct {keys : List (Option Expr)} {values : List Expr} {ys : Xs} (hu : X.A.units + 65 < cLine) (h : PPd m E X pos keys values ys) (hall : keys.all (·.isSome) = true) (hl : keys.length = values.length) (h0 : keys ≠ []) (h15 : keys.length ≤ 15) : PE X (.Dict keys values pos) (tEv m E X (.dct ys)) := by
  refine ⟨fun pins s σ H Q I ⟨ρ, env, st, he, S, hf⟩ => ?_⟩
  simp only [evE] at hf
  have hn := I.hok.fresh (Nat.le_refl s.heap.objs.size)
  have I1 := I.laid (a := s.heap.objs.size) (o := .dK []) (h' := s.heap.push { cls := .type "dict", data := .dict #[] }) (t' := s.toks) (fun _ _ q => Heap.get?_push_of_some _ q) (Nat.le_refl _) (dk_empty s.heap I.big)
  have hbig : (s.heap.objs.size == sysModules) = false := beq_eq_false_iff_ne.mpr (Ne.symm (Nat.ne_of_lt I.big))
  generalize hD : s.heap.objs.size = D at hn I1 hbig
  obtain ⟨S1, s1⟩ := SRel.other (o := .dK []) S hn
  have hnD : D ∉ ρ := fun z => S.live z hn
  refine wpAny_Dict_any hall hl h0 h15 (thn (h.run pins _ σ _ (fun vs H2 => ∃ ρ2 st2 ds, Step ρ (upd H D (.dK [])) ρ2 H2 ∧ Rel m X ρ2 H2 st2 ∧ Reps X.K ρ2 H2 ds vs ∧ Fin m E X ρ H (mkDict ds st2.sz (st2.add (.dct false []))) (rD X) Q) (hD ▸ I1) ⟨ρ, env, st, he.mono S s1, S1, ?_⟩) fun ws s2 ⟨vs, H2, I2, rel, ρ2, st2, ds, stp2, S2, rs, hfin⟩ => ?_)
  · cases hr : evX m.T m.F m.call ys env st with
    | ok ds st2 =>
      rw [hr] at hf
      exact fun ρ2 H2 vs s2 S2 r2 => ⟨ρ2, st2, ds, s2, S2, r2, hf⟩
    | exc c x s' =>
      rw [hr] at hf
      exact Fin.step (rep := rDs X) (r := .exc c x s') hf s1
    | stuck => rw [hr] at hf; exact hf.elim
  · obtain ⟨k1, k2⟩ := stp2.keep D _ upd_same hnD
    have hDg : (ρ2 ++ [D])[st2.sz]? = some D := by rw [S2.sz, List.getElem?_append_right (Nat.le_refl _)]; simp
    have S3 := S2.adoptO (ob := .dct false []) k2 ⟨Nat.zero_le _, hbig, .inl ⟨[], k1, .nil⟩⟩
    cases hmk : mkDict ds st2.sz (st2.add (.dct false [])) with
    | stuck => rw [hmk] at hfin; exact hfin.elim
    | exc c x s' => exact absurd hmk (mkDict_noexc _ _ _ _ _ _)
    | ok dF stF =>
      rw [hmk] at hfin
      rw [hD]
      refine store_pairs hu hDg ws ds vs H2 _ s2 I2 S3 ⟨[], by exact Store.get_add_self⟩ (Reps.mv ext_app (fun _ _ z => z) _ _ rs) rel hmk fun H3 s3 I3 stp3 S4 hdF => ?_
      subst hdF
      refine ⟨.ref D, H3, I3, rfl, hfin (ρ2 ++ [D]) H3 (.ref D) ⟨fun n a h => ext_app n a ((s1.trans stp2).ext n a h), fun a o h hna => ?_⟩ S4 (.ref hDg)⟩
      obtain ⟨q1, q2⟩ := (s1.trans stp2).keep a o h hna
      have hne : a ≠ D := fun z => by subst z; rw [hn] at h; cases h
      have hnot : a ∉ ρ2 ++ [D] := fun z => by
        rcases List.mem_append.mp z with z | z
        · exact q2 z
        · exact hne (by simpa using z)
      exact stp3.keep a o q1 hnot
/-- {} -/
theorem se_dct0 : PE X (.Dict [] [] pos) (tEv m E X (.dct .nil)) := by
  refine ⟨fun pins s σ H Q I ⟨ρ, env, st, he, S, hf⟩ => ?_⟩
  simp only [evE, evX, R.bind, mkDict] at hf
  have hbig : (s.heap.objs.size == sysModules) = false := beq_eq_false_iff_ne.mpr (Ne.symm (Nat.ne_of_lt I.big))
  refine wpAny_Dict_empty ⟨.ref s.heap.objs.size, _, I.laid (a := s.heap.objs.size) (o := .dK []) (t' := s.toks) (fun _ _ q => Heap.get?_push_of_some _ q) (Nat.le_refl _) (dk_empty s.heap I.big), rfl, ?_⟩
  have hn := I.hok.fresh (Nat.le_refl s.heap.objs.size)
  obtain ⟨S', s'⟩ := SRel.grow (H' := upd H s.heap.objs.size (.dK [])) (ob := .dct false []) S hn (fun a ha _ => upd_ne ha) (fun stp => ⟨Nat.zero_le _, hbig, .inl ⟨[], upd_same, .nil⟩⟩)
  refine hf _ _ _ s' S' (.ref ?_)
  rw [S.sz, List.getElem?_append_right (Nat.le_refl _)]
  simp
end
end VI
/-! VIp: from the text's trees to the form; expressions. -/
namespace VI
open PySem PySem.Spec PyProof.Rows L2
/-- what a module's name is -/
inductive G where
  | fn (i np : Nat)
  | con (d : D)
  | cls (c : Nat)
structure Cc where
  N : List Str
  sc : Scope
  fn : Str → Bool
  gl : Str → Option G
  fr : Str → Bool
def ixOf (N : List Str) (w : Str) : Option Nat := match N.findIdx? (fun x => x == w) with
  | some i => if N[i]? = some w then some i else none
  | none => none
theorem ixOf_ok {N : List Str} {w : Str} {i : Nat} (h : ixOf N w = some i) : N[i]? = some w := by
  unfold ixOf at h
  split at h
  · split at h
    · cases h; assumption
    · cases h
  · cases h
def Cc.kind (c : Cc) (w : Str) : Option NameKind := c.sc.names.lookup w
def Cc.isGl (c : Cc) (w : Str) : Bool := decide (c.kind w = some .globalImplicit)
def Cc.isVis (c : Cc) (w : Str) : Bool := decide (c.kind w = some .local) || decide (c.kind w = some .cell) || decide (c.kind w = some .free)
def Cc.isLoc (c : Cc) (w : Str) : Bool := decide (c.kind w = some .local) || decide (c.kind w = some .cell)
def Cc.canSet (c : Cc) (w : Str) : Bool := c.isLoc w && (c.fn w || decide (c.kind w = some .local))
def Cc.blt (c : Cc) (w : Str) : Bool := c.isGl w && c.fr w
/-- the context of a comprehension's block -/
def blkC (c : Cc) (scope : Scope) : Cc := { c with sc := relS scope c.sc, fn := fun x => scope.names.lookup x == some .cell }

def GOk (m : Md) (X : Cx) (w : Str) : G → Prop
  | .fn i np => ∃ k g fd ps, FnOk X.prog X.w X.K X.mg X.base (L2.CX X.prog X.w) k g fd ps (spI m X.prog X.w X.K m.call i ps.length) ∧ Room k X.A ∧ X.mg w = some (.ref g) ∧ PySem.W.keepIn X.K (.ref g) = true ∧ Binds X.K fd ps [] ∧ ps.length = np
  | .con d => ∃ v u, X.mg w = some u ∧ RelV v u ∧ ∀ ρ H, Rep X.K ρ H d v
  | .cls c => ∃ C, m.nm.cA[c]? = some C ∧ X.mg w = some (.ref C)
def tyOfName : List (Str × String × Ty) := [("str", "str", .str), ("tuple", "tuple", .tuple), ("int", "int", .int), ("bool", "bool", .bool), ("dict", "dict", .dict), ("list", "list", .list)]
structure CcOk (m : Md) (E : XK) (X : Cx) (c : Cc) : Prop where
  N : X.N = c.N
  sc : X.env.scope = c.sc
  fn : X.fn = c.fn
  nd : X.N.Nodup
  calm : X.calm = true
  u : X.A.units + 65 < cLine
  pass : Passes (L2.CX X.prog X.w) X E
  gl : ∀ w g, c.gl w = some g → GOk m X w g
  fr : ∀ w, c.fr w = true → X.mg w = none
  noeq : ∀ k : Nat, (m.T.cls[k]?).bind (·.eq) = none
  cl : ClsOk m.nm X.K
  ty : ∀ p ∈ tyOfName, IsTab m.nm X.K p.2.2 (.type p.2.1)

def opB : Operator → Option Bop
  | .Add => some .add | .Sub => some .sub | .Mult => some .mul | .FloorDiv => some .fdiv | .Mod => some .mod
  | _ => none
def opC : CmpOp → Option Cop
  | .Eq => some .eq | .NotEq => some .ne | .Lt => some .lt | .LtE => some .le | .Gt => some .gt | .GtE => some .ge
  | .Is => some .is | .IsNot => some .isnot | .In => some .inn | .NotIn => some .notin
def Cop.isEq : Cop → Bool
  | .eq | .ne => true
  | _ => false
def isStar : Expr → Bool
  | .Starred .. => true
  | _ => false
def isSlice : Expr → Bool
  | .Slice .. => true
  | _ => false
def isSet : Expr → Bool
  | .Set .. => true
  | _ => false
/-- f() -/
def isCall0 : Expr → Bool
  | .Call _ [] _ _ => true
  | _ => false
def cXs (f : Expr → Option Ex) : List Expr → Option Xs
  | [] => some .nil
  | e :: r => if isStar e then none else match f e, cXs f r with
    | some x, some y => some (.cons false x y)
    | _, _ => none
def cPairs (f : Expr → Option Ex) : List (Option Expr) → List Expr → Option Xs
  | [], [] => some .nil
  | some k :: ks, v :: vs => match f k, f v, cPairs f ks vs with
    | some x, some y, some z => some (.cons false x (.cons false y z))
    | _, _, _ => none
  | _, _ => none
def cNm (c : Cc) : Expr → Option Nat
  | .Name w _ => if c.canSet w then ixOf c.N w else none
  | _ => none
def cNms (c : Cc) : List Expr → Option (List Nat)
  | [] => some []
  | e :: r => match cNm c e, cNms c r with
    | some i, some is => some (i :: is)
    | _, _ => none
def cTg (c : Cc) : Expr → Option Tg
  | .Name w p => (cNm c (.Name w p)).map .nm
  | .Tuple es _ _ => (cNms c es).map .tp
  | _ => none
def isTup : Expr → Bool
  | .Tuple .. => true
  | _ => false
/-- what is walked -/
def cIv (f : Expr → Option Ex) (e : Expr) : Option (Itk × Xs) := (f e).map fun x => (.val, .cons false x .nil)
def cI (f : Expr → Option Ex) (c : Cc) (tg : Expr) (it : Expr) : Option (Itk × Xs) := match it with
  | .Call (.Name w p) [a] [] pos => if w = "range" then (if c.blt "range" && !isStar a then (f a).map fun x => (.rng, .cons false x .nil) else none) else if w = "enumerate" then none else cIv f (.Call (.Name w p) [a] [] pos)
  | .Call (.Name w p) [a, b] [] pos => if w = "zip" then (if c.blt "zip" && !isStar a && !isStar b && isTup tg then match f a, f b with
      | some x, some y => some (.zip, .cons false x (.cons false y .nil))
      | _, _ => none else none) else cIv f (.Call (.Name w p) [a, b] [] pos)
  | e => if isSet e then none else cIv f e
def ownOf (c : Cc) (scope : Scope) : List (Str × Nat) := scope.names.filterMap fun p => if decide (p.2 = .local) || decide (p.2 = .cell) then (ixOf c.N p.1).map fun i => (p.1, i) else none
def blkOk (c : Cc) (scope : Scope) : Bool := decide (scope.kind = .function) && scope.names.all (fun y => decide (scope.names.lookup y.1 = some y.2)) &&
  scope.names.all (fun y => !decide (y.2 = .free) || decide (c.kind y.1 = some .cell) || decide (c.kind y.1 = some .free)) &&
  scope.names.all (fun y => !(decide (y.2 = .local) || decide (y.2 = .cell)) || decide (y.1 ∈ (ownOf c scope).map (·.1)) || decide (y.1 ∉ c.N))
/-- a list comprehension -/
def cLc (rec : Bool → Cc → Expr → Option Ex) (c : Cc) (elt : Expr) (gs : List Comprehension) (scope : Scope) : Option Ex := match gs with
  | [⟨tg, it, ifs, 0⟩] => match cTg (blkC c scope) tg, cI (rec false c) c tg it, (match ifs with | [] => some (Ex.c (.bl true)) | [t] => rec true (blkC c scope) t | _ => none), rec false (blkC c scope) elt with
    | some t, some (k, es), some cx, some ex => if blkOk c scope && (tgNames t).all (fun i => decide (i ∈ (ownOf c scope).map (·.2))) then some (.lc ((ownOf c scope).map (·.2)) t k es cx ex) else none
    | _, _, _, _ => none
  | _ => none
def bltOf (w : Str) : Option Blt :=
  if w = "len" then some .len else if w = "sum" then some .sum else if w = "all" then some .all else if w = "any" then some .any else if w = "int" then some .int else if w = "abs" then some .abs
  else if w = "list" then some .list else if w = "tuple" then some .tuple else if w = "min" then some .min else if w = "max" then some .max else none
def isiOf (c : Cc) (f : Expr → Option Ex) (a : Expr) (t : Str) : Option Ex := if c.blt "isinstance" && c.blt t && !isStar a then match tyOfName.lookup t, f a with
    | some p, some x => some (.blt (.isi [p.2]) (.cons false x .nil))
    | _, _ => none else none
/-- list(range(a)) -/
def rgOf : List Expr → Option Expr
  | [.Call (.Name w _) [a] [] _] => if w = "range" then some a else none
  | _ => none
def cCallN (f : Expr → Option Ex) (c : Cc) (w : Str) (args : List Expr) : Option Ex :=
  if c.isGl w && !(w == "__debug__") && decide (w ≠ "__name__") then match c.gl w with
    | some (.fn i np) => (match cXs f args with
      | some xs => if args.length = np then some (.call i xs) else none
      | none => none)
    | some _ => none
    | none => if !c.fr w then none else
      if w = "isinstance" then (match args with
        | [a, .Name t _] => isiOf c f a t
        | _ => none)
      else match (if w = "list" then rgOf args else none) with
        | some a => if c.blt "range" && !isStar a then (f a).map fun x => .blt .listRange (.cons false x .nil) else none
        | none => match bltOf w, cXs f args with
          | some b, some xs => if args.isEmpty then none else some (.blt b xs)
          | _, _ => none
  else none
def bmOf (w : Str) : Option Bm :=
  if w = "append" then some .append else if w = "pop" then some .pop else if w = "extend" then some .extend else if w = "clear" then some .clear else if w = "reverse" then some .reverse else if w = "join" then some .join else none
def cCallM (f : Expr → Option Ex) (o : Expr) (w : Str) (apos : Pos) (args : List Expr) (pos : Pos) : Option Ex :=
  if !isCall0 o && (apos.endLine == pos.line) && decide (args.length < 30) then match bmOf w, f o, cXs f args with
    | some b, some x, some xs => some (.bm b x xs)
    | _, _, _ => none
  else none
def cCmp (f : Expr → Option Ex) (a : Expr) (ops : List CmpOp) (bs : List Expr) : Option Ex := match ops, bs with
  | [op], [b] => if behindInMarks op b then none else (match opC op, f a, f b with
    | some o, some x, some y => some (.cmp o x y)
    | _, _, _ => none)
  | [op, op'], [b, d] => if lastMarks [op, op'] [b, d] then none else (match opC op, opC op', f a, f b, f d with
    | some o, some o', some x, some y, some z => if o.isEq || o'.isEq then none else some (.chain o o' x y z)
    | _, _, _, _, _ => none)
  | _, _ => none
def cPart (f : Expr → Option Ex) : Option Expr → Option (Bool × Ex)
  | none => some (false, .c .non)
  | some e => (f e).map fun x => (true, x)
/-- as a value -/
def compF (rec : Bool → Cc → Expr → Option Ex) (c : Cc) (e : Expr) : Option Ex := match e with
  | .Constant (.int i) _ _ => some (.c (.int i))
  | .Constant (.bool b) _ _ => some (.c (.bl b))
  | .Constant .none _ _ => some (.c .non)
  | .Constant (.str x) _ _ => some (.c (.str x.cps.toList))
  | .Name w _ => if (w == "__debug__") || (w == "__classdict__") then none else
      if c.isVis w then (ixOf c.N w).map .v else if c.isGl w then (match c.gl w with
        | some (.con d) => some (.c d)
        | _ => none) else none
  | .BinOp a op b _ => (match opB op, rec false c a, rec false c b with
    | some o, some x, some y => some (.bin o x y)
    | _, _, _ => none)
  | .UnaryOp .USub a _ => (rec false c a).map .neg
  | .UnaryOp .Not a _ => (rec false c a).map .not
  | .Compare a ops bs _ => cCmp (rec false c) a ops bs
  | .BoolOp .And (a :: b :: r) p => (match rec false c a, rec false c (.BoolOp .And (b :: r) p) with
    | some x, some y => some (.and x y)
    | _, _ => none)
  | .BoolOp .Or (a :: b :: r) p => (match rec false c a, rec false c (.BoolOp .Or (b :: r) p) with
    | some x, some y => some (.or x y)
    | _, _ => none)
  | .BoolOp _ [a] _ => rec false c a
  | .IfExp t a b _ => (match rec true c t, rec false c a, rec false c b with
    | some x, some y, some z => some (.ite x y z)
    | _, _, _ => none)
  | .Subscript a (.Slice lo hi none _) _ => (match rec false c a, cPart (rec false c) lo, cPart (rec false c) hi with
    | some x, some (hl, l), some (hh, h) => some (.sl x hl l hh h)
    | _, _, _ => none)
  | .Subscript a b _ => if isSlice b then none else (match rec false c a, rec false c b with
    | some x, some y => some (.sub x y)
    | _, _ => none)
  | .Tuple es _ _ => (cXs (rec false c) es).map .tup
  | .List es _ => (cXs (rec false c) es).map .lst
  | .Dict ks vs _ => if decide (ks.length ≤ 15) then (cPairs (rec false c) ks vs).map .dct else none
  | .Call (.Name w _) args [] _ => cCallN (rec false c) c w args
  | .Call (.Attribute o w apos) args [] pos => cCallM (rec false c) o w apos args pos
  | .ListComp elt gs scope _ => cLc rec c elt gs scope
  | _ => none
/-- what is tested by its value -/
def byValue : Expr → Bool
  | .UnaryOp .Not _ _ | .BoolOp .. | .IfExp .. | .Compare .. => false
  | _ => true
/-- as a test -/
def compT (rec : Bool → Cc → Expr → Option Ex) (c : Cc) (e : Expr) : Option Ex := match e with
  | .UnaryOp .Not a _ => (rec true c a).map .not
  | .Compare a ops bs _ => cCmp (rec false c) a ops bs
  | .BoolOp .And (a :: b :: r) p => (match rec true c a, rec true c (.BoolOp .And (b :: r) p) with
    | some x, some y => some (.and x y)
    | _, _ => none)
  | .BoolOp .Or (a :: b :: r) p => (match rec true c a, rec true c (.BoolOp .Or (b :: r) p) with
    | some x, some y => some (.or x y)
    | _, _ => none)
  | .BoolOp _ [a] _ => rec true c a
  | e => if byValue e then rec false c e else none
def comp : Nat → Bool → Cc → Expr → Option Ex
  | 0, _, _, _ => none
  | n + 1, false, c, e => compF (comp n) c e
  | n + 1, true, c, e => compT (comp n) c e

/-! ### they mean the same -/
def isBool : Expr → Bool
  | .BoolOp .. => true
  | _ => false
structure RecOk (rec : Bool → Cc → Expr → Option Ex) : Prop where
  val : ∀ {m : Md} {E : XK} {X : Cx} {c : Cc} {e : Expr} {x : Ex}, CcOk m E X c → rec false c e = some x → PE X e (tEv m E X x)
  test : ∀ {m : Md} {E : XK} {X : Cx} {c : Cc} {e : Expr} {x : Ex}, CcOk m E X c → rec true c e = some x → PT X e (tEvT m E X x)
  bool : ∀ {m : Md} {E : XK} {X : Cx} {c : Cc} {e : Expr} {x : Ex}, CcOk m E X c → rec true c e = some x → isBool e = true → PW X e (tEvT m E X x)
theorem star_no {e : Expr} {es : List Expr} {env : PySem.Env} (h : isStar e = false) : starEach (e :: es) env = (false, eval e env) :: starEach es env := by
  cases e <;> first | rfl | cases h
section
variable {m : Md} {E : XK} {X : Cx} {c : Cc} {f : Expr → Option Ex} {e a b d : Expr} {x y : Ex} {pos : Pos}
theorem cXs_ok (hf : ∀ {e x}, f e = some x → PE X e (tEv m E X x)) : ∀ {es : List Expr} {xs : Xs}, cXs f es = some xs → PA X es (tEvX m E X xs) ∧ (starEach es X.env).all (fun p => !p.1) = true ∧ xs.plain = some es.length
  | [], xs, h => by
    cases h
    exact ⟨sa_nil, rfl, rfl⟩
  | e :: r, xs, h => by
    unfold cXs at h
    split at h
    · cases h
    · rename_i hs
      split at h
      · rename_i x y hx hy
        cases h
        obtain ⟨h1, h2, h3⟩ := cXs_ok hf hy
        have e1 := star_no (env := X.env) (es := r) (by simpa using hs)
        refine ⟨sa_cons (hf hx) h1 e1, ?_, ?_⟩
        · rw [e1]; simpa using h2
        · simp only [Xs.plain, h3, Option.map_some, List.length_cons]
      · cases h
theorem plain_back {es : List Expr} {env : PySem.Env} (h : (starEach es env).all (fun p => !p.1) = true) : (backTo pos (starEach es env)).any (·.1) = false := by
  unfold backTo
  rw [List.any_map]
  rw [List.any_eq_false]
  intro p hp
  have := List.all_eq_true.mp h p hp
  simpa using this
theorem xs_tail (hf : ∀ {e x}, f e = some x → PE X e (tEv m E X x)) {es : List Expr} {xs : Xs} (h : cXs f (e :: es) = some xs) : starEach (e :: es) X.env = (false, eval e X.env) :: starEach es X.env ∧ (backTo pos (starEach es X.env)).any (·.1) = false := by
  unfold cXs at h
  split at h
  · cases h
  · rename_i hs
    split at h
    · rename_i x y hx hy
      exact ⟨star_no (by simpa using hs), plain_back (cXs_ok hf hy).2.1⟩
    · cases h
theorem gl_of (ok : CcOk m E X c) {w : Str} (h : c.isGl w = true) : Gl X w := by
  have := of_decide_eq_true h
  unfold Cc.kind at this
  show X.env.scope.names.lookup w = _
  rw [ok.sc]; exact this
theorem blt_of (ok : CcOk m E X c) {w : Str} (h : c.blt w = true) : Gl X w ∧ X.mg w = none := by
  unfold Cc.blt at h
  rw [Bool.and_eq_true] at h
  exact ⟨gl_of ok h.1, ok.fr w h.2⟩
theorem cCmp_ok (ok : CcOk m E X c) (hf : ∀ {e x}, f e = some x → PE X e (tEv m E X x)) {ops : List CmpOp} {bs : List Expr} (h : cCmp f a ops bs = some x) : PE X (.Compare a ops bs pos) (tEv m E X x) ∧ PT X (.Compare a ops bs pos) (tEvT m E X x) := by
  have key : ∀ (op : CmpOp) (o : Cop), opC op = some o → OpR X (compareOp op) (R2D m E X (cmpV o)) := fun op o ho => by
    cases op <;> (cases ho)
    · exact cmp_eq ok.u
    · exact cmp_ne ok.u
    · exact cmp_lt
    · exact cmp_le
    · exact cmp_gt
    · exact cmp_ge
    · exact cmp_is
    · exact cmp_isnot
    · exact cmp_in ok.u
    · exact cmp_notin ok.u
  have keyC : ∀ (op : CmpOp) (o : Cop), opC op = some o → OpR X (compareOp op) (R2D m E X (cmpC m.T m.call o)) := fun op o ho => by
    have hk := key op o ho
    cases op <;> (cases ho)
    · exact opr_eq ok.u ok.noeq
    · exact opr_ne ok.u ok.noeq
    all_goals exact opr_plain ⟨(fun z => nomatch z), (fun z => nomatch z)⟩ hk
  unfold cCmp at h
  split at h
  · split at h
    · cases h
    · rename_i hb
      have hb := Bool.eq_false_iff.mpr hb
      split at h
      · rename_i o x y ho hx hy
        cases h
        exact ⟨se_eq (keyC _ _ ho) hb (hf hx) (hf hy), st_cmp (keyC _ _ ho) hb (hf hx) (hf hy)⟩
      · cases h
  · split at h
    · cases h
    · rename_i hb
      have hb := Bool.eq_false_iff.mpr hb
      split at h
      · rename_i o o' x y z ho ho' hx hy hz
        split at h
        · cases h
        · cases h
          exact ⟨se_chain (key _ _ ho) (key _ _ ho') hb (hf hx) (hf hy) (hf hz), st_chain (key _ _ ho) (key _ _ ho') hb (hf hx) (hf hy) (hf hz)⟩
      · cases h
  · cases h

theorem cPairs_ok (hf : ∀ {e x}, f e = some x → PE X e (tEv m E X x)) : ∀ {ks : List (Option Expr)} {vs : List Expr} {xs : Xs}, cPairs f ks vs = some xs → PPd m E X pos ks vs xs ∧ ks.all (·.isSome) = true ∧ ks.length = vs.length
  | [], [], xs, h => by
    cases h
    exact ⟨ppd_nil, rfl, rfl⟩
  | some k :: ks, v :: vs, xs, h => by
    unfold cPairs at h
    split at h
    · rename_i x y z hx hy hz
      cases h
      obtain ⟨h1, h2, h3⟩ := cPairs_ok hf hz
      exact ⟨ppd_cons (hf hx) (hf hy) h1, by simpa using h2, by simp [h3]⟩
    · cases h
  | none :: _, _, _, h => by simp [cPairs] at h
  | [], _ :: _, _, h => by simp [cPairs] at h
  | some _ :: _, [], _, h => by simp [cPairs] at h
theorem isVis_of (ok : CcOk m E X c) {w : Str} (h : c.isVis w = true) : Vis X.env.scope w := by
  unfold Cc.isVis at h
  simp only [Bool.or_eq_true, decide_eq_true_eq, Cc.kind, ← ok.sc] at h
  rcases h with (h | h) | h
  · exact .inl h
  · exact .inr (.inl h)
  · exact .inr (.inr h)
theorem canSet_of (ok : CcOk m E X c) {w : Str} (h : c.canSet w = true) : Loc X.env.scope w ∧ (X.fn w = true ∨ X.env.scope.names.lookup w = some .local) := by
  unfold Cc.canSet Cc.isLoc at h
  simp only [Bool.and_eq_true, Bool.or_eq_true, decide_eq_true_eq, Cc.kind, ← ok.sc, ← ok.fn] at h
  exact h
theorem cNm_ok (ok : CcOk m E X c) {i : Nat} (h : cNm c e = some i) : ∃ w p, e = .Name w p ∧ X.N[i]? = some w ∧ Loc X.env.scope w ∧ (X.fn w = true ∨ X.env.scope.names.lookup w = some .local) := by
  unfold cNm at h
  split at h
  · split at h
    · rename_i w p hc
      obtain ⟨h1, h2⟩ := canSet_of ok hc
      exact ⟨w, p, rfl, by rw [ok.N]; exact ixOf_ok h, h1, h2⟩
    · cases h
  · cases h
theorem cNms_ok (ok : CcOk m E X c) : ∀ {es : List Expr} {is : List Nat}, cNms c es = some is → Paired (fun e i => ∃ w p, e = Expr.Name w p ∧ X.N[i]? = some w ∧ Loc X.env.scope w ∧ (X.fn w = true ∨ X.env.scope.names.lookup w = some .local)) es is
  | [], is, h => by cases h; exact .nil
  | e :: r, is, h => by
    unfold cNms at h
    split at h
    · rename_i i is hi hr
      cases h
      exact .cons (cNm_ok ok hi) (cNms_ok ok hr)
    · cases h
theorem cTg_ok (ok : CcOk m E X c) {tg : Expr} {t : Tg} (h : cTg c tg = some t) : TgOk X tg t := by
  unfold cTg at h
  split at h
  · obtain ⟨i, hi, rfl⟩ := Option.map_eq_some_iff.mp h
    exact cNm_ok ok hi
  · obtain ⟨is, hi, rfl⟩ := Option.map_eq_some_iff.mp h
    exact ⟨_, _, _, rfl, cNms_ok ok hi⟩
  · cases h
theorem folded_no {env : PySem.Env} (h : isSet e = false) : ∀ x, foldedSetIterable e env x = pure x := fun x => by
  cases e <;> first | rfl | cases h
theorem cIv_ok (hf : ∀ {e x}, f e = some x → PE X e (tEv m E X x)) {tg : Expr} {k : Itk} {es : Xs} (h : cIv f e = some (k, es)) (hs : isSet e = false) : PI X tg e (iEv m E X k es) ∧ k.free = true ∧ ∀ x, foldedSetIterable e X.env x = pure x := by
  unfold cIv at h
  obtain ⟨x, hx, h⟩ := Option.map_eq_some_iff.mp h
  cases h
  exact ⟨it_val (hf hx), rfl, folded_no hs⟩
theorem cI_ok (ok : CcOk m E X c) (hf : ∀ {e x}, f e = some x → PE X e (tEv m E X x)) {tg : Expr} {k : Itk} {es : Xs} (h : cI f c tg e = some (k, es)) : PI X tg e (iEv m E X k es) ∧ k.free = true ∧ ∀ x, foldedSetIterable e X.env x = pure x := by
  unfold cI at h
  split at h
  · rename_i w p a pos
    split at h
    · rename_i hw
      subst hw
      split at h
      · rename_i hc
        rw [Bool.and_eq_true] at hc
        obtain ⟨x, hx, h⟩ := Option.map_eq_some_iff.mp h
        cases h
        obtain ⟨h1, h2⟩ := blt_of ok hc.1
        have hs : starEach [a] X.env = [(false, eval a X.env)] := star_no (by simpa using hc.2)
        exact ⟨it_rng h1 h2 (sa_cons (hf hx) sa_nil hs) hs, rfl, folded_no rfl⟩
      · cases h
    · split at h
      · cases h
      · exact cIv_ok hf h rfl
  · rename_i w p a b pos
    split at h
    · rename_i hw
      subst hw
      split at h
      · rename_i hc
        simp only [Bool.and_eq_true] at hc
        obtain ⟨⟨⟨hc1, hc2⟩, hc3⟩, hc4⟩ := hc
        split at h
        · rename_i x y hx hy
          cases h
          obtain ⟨h1, h2⟩ := blt_of ok hc1
          have s2 : starEach [b] X.env = (false, eval b X.env) :: starEach [] X.env := star_no (by simpa using hc3)
          have s1 : starEach [a, b] X.env = (false, eval a X.env) :: starEach [b] X.env := star_no (by simpa using hc2)
          cases tg <;> first | cases hc4 | skip
          exact ⟨it_zip h1 h2 (sa_cons (hf hx) (sa_cons (hf hy) sa_nil s2) s1) s1 (by rw [s2]; rfl), rfl, folded_no rfl⟩
        · cases h
      · cases h
    · exact cIv_ok hf h rfl
  · split at h
    · cases h
    · rename_i hs
      exact cIv_ok hf h (by simpa using hs)
theorem blkOk_ok (ok : CcOk m E X c) {scope : Scope} (h : blkOk c scope = true) : BlkOk X.N X.env.scope scope (ownOf c scope) := by
  unfold blkOk at h
  simp only [Bool.and_eq_true, decide_eq_true_eq, List.all_eq_true] at h
  obtain ⟨⟨⟨h1, h2⟩, h3⟩, h4⟩ := h
  refine ⟨h1, h2, fun p hp => ?_, fun y hy e => ?_, fun y hy e => ?_⟩
  · unfold ownOf at hp
    obtain ⟨q, _, hq⟩ := List.mem_filterMap.mp hp
    split at hq
    · obtain ⟨i, hi, rfl⟩ := Option.map_eq_some_iff.mp hq
      rw [ok.N]; exact ixOf_ok hi
    · cases hq
  · have := h3 y hy
    rw [e] at this
    simp only [Bool.or_eq_true, decide_eq_true_eq, Cc.kind, ← ok.sc] at this
    rcases this with (z | z) | z
    · simp at z
    · exact .inl z
    · exact .inr z
  · have := h4 y hy
    simp only [Bool.or_eq_true, decide_eq_true_eq] at this
    rw [ok.N]
    rcases this with (z | z) | z
    · rcases e with e | e <;> simp [e] at z
    · exact .inl z
    · exact .inr z
theorem blk_ok (ok : CcOk m E X c) (scope : Scope) (s : Shared) (H : Hp) (C : Addr) (cl : List (Str × Addr)) (fp : List Addr) : CcOk m noE (X.blk s H scope (compEnvC scope cl C X.env) fp) (blkC c scope) where
  N := ok.N
  sc := by
    show (compEnvC scope cl C X.env).scope = relS scope c.sc
    rw [← ok.sc]; rfl
  fn := rfl
  nd := ok.nd
  calm := ok.calm
  u := ok.u
  pass := passL
  gl := fun w g h => by
    have := ok.gl w g h
    cases g <;> exact this
  fr := ok.fr
  noeq := ok.noeq
  cl := ok.cl
  ty := ok.ty
theorem cLc_ok {rec : Bool → Cc → Expr → Option Ex} (R : RecOk rec) (ok : CcOk m E X c) {elt : Expr} {gs : List Comprehension} {scope : Scope} (h : cLc rec c elt gs scope = some x) :
    ∃ tg it ifs own t k es cx ex, gs = [⟨tg, it, ifs, 0⟩] ∧ x = .lc (own.map (·.2)) t k es cx ex ∧ k.free = true ∧ (∀ i ∈ tgNames t, i ∈ (own : List (Str × Nat)).map (·.2)) ∧ PI X tg it (iEv m E X k es) ∧ BlkOk X.N X.env.scope scope own ∧
      (∀ (s : Shared) (H : Hp) (C : Addr) (cl : List (Str × Addr)) (fp : List Addr), TgOk (X.blk s H scope (compEnvC scope cl C X.env) fp) tg t ∧ LcT (X.blk s H scope (compEnvC scope cl C X.env) fp) m ifs cx ∧ PE (X.blk s H scope (compEnvC scope cl C X.env) fp) elt (tEv m noE (X.blk s H scope (compEnvC scope cl C X.env) fp) ex)) ∧
      ∀ z, foldedSetIterable it X.env z = pure z := by
  unfold cLc at h
  split at h
  · rename_i tg it ifs
    split at h
    · rename_i t k es cx ex ht hi hcx hex
      split at h
      · rename_i hb
        cases h
        rw [Bool.and_eq_true, List.all_eq_true] at hb
        obtain ⟨i1, i2, i3⟩ := cI_ok ok (fun {e x} h => R.val ok h) hi
        refine ⟨tg, it, ifs, ownOf c scope, t, k, es, cx, ex, rfl, rfl, i2, fun i hi => of_decide_eq_true (hb.2 i hi), i1, blkOk_ok ok hb.1, fun s H C cl fp => ?_, i3⟩
        have okB := blk_ok ok scope s H C cl fp
        refine ⟨cTg_ok okB ht, ?_, R.val okB hex⟩
        split at hcx
        · cases hcx; exact .inl ⟨rfl, rfl⟩
        · exact .inr ⟨_, rfl, R.test okB hcx⟩
        · cases hcx
      · cases h
    · cases h
  · cases h
theorem boot_all : ∀ (w : Str) (b : Blt), bltOf w = some b → w ≠ "__name__" ∧ (w == ("__debug__" : Str)) = false := fun w b h => by
  unfold bltOf at h
  repeat (split at h; · (rename_i e; subst e; exact ⟨by decide, by decide⟩))
  cases h
theorem cCallN_ok (ok : CcOk m E X c) (hf : ∀ {e x}, f e = some x → PE X e (tEv m E X x)) {w : Str} {args : List Expr} {p : Pos} (h : cCallN f c w args = some x) : PE X (.Call (.Name w p) args [] pos) (tEv m E X x) := by
  unfold cCallN at h
  split at h
  · rename_i hw
    simp only [Bool.and_eq_true, decide_eq_true_eq] at hw
    obtain ⟨⟨hw1, hw2⟩, hw3⟩ := hw
    have hdb : (w == ("__debug__" : Str)) = false := by simpa using hw2
    have hg := gl_of ok hw1
    split at h
    · rename_i i np hgl
      split at h
      · rename_i xs hxs
        split at h
        · rename_i hl
          cases h
          obtain ⟨k, g, fd, ps, F, hr, hm, hk, hb, hps⟩ := ok.gl w _ hgl
          obtain ⟨h1, h2, h3⟩ := cXs_ok hf hxs
          cases args with
          | nil =>
            cases hxs
            exact se_call0 F hr hg hm hk hb ok.pass (by rw [hps, ← hl]; rfl) hdb
          | cons e es =>
            obtain ⟨t1, t2⟩ := xs_tail (pos := pos) hf hxs
            exact se_call F hr hg hm hk hb ok.pass (by rw [h3, hps, ← hl]) h1 hdb t1 t2
        · cases h
      · cases h
    · cases h
    · rename_i hgl
      split at h
      · cases h
      · rename_i hfr
        have hmg := ok.fr w (by simpa using hfr)
        split at h
        · rename_i hisi
          subst hisi
          split at h
          · rename_i a t p'
            unfold isiOf at h
            split at h
            · rename_i hc
              simp only [Bool.and_eq_true] at hc
              obtain ⟨⟨hc1, hc2⟩, hc3⟩ := hc
              split at h
              · rename_i q x hq hx
                cases h
                have hmem := PySem.mem_of_lookup hq
                obtain ⟨g1, g2⟩ := blt_of ok hc1
                obtain ⟨g3, g4⟩ := blt_of ok hc2
                have s1 : starEach [a, .Name t p'] X.env = (false, eval a X.env) :: starEach [.Name t p'] X.env := star_no (by simpa using hc3)
                have hboot : bootBuiltins t = some (.type q.1) ∧ t ≠ "__name__" ∧ (t == ("__debug__" : Str)) = false := by
                  simp only [tyOfName, List.mem_cons, List.not_mem_nil, or_false, Prod.mk.injEq] at hmem
                  rcases hmem with ⟨rfl, rfl⟩ | ⟨rfl, rfl⟩ | ⟨rfl, rfl⟩ | ⟨rfl, rfl⟩ | ⟨rfl, rfl⟩ | ⟨rfl, rfl⟩ <;> exact ⟨rfl, by decide, by decide⟩
                exact se_isi ok.cl (.ty q.1) (ok.ty _ hmem) g1 g2 (hf hx) (pe_tyName g3 g4 hboot.1 hboot.2.1 hboot.2.2) s1 rfl rfl
              · cases h
            · cases h
          · cases h
        · split at h
          · rename_i a hrg
            split at hrg
            · rename_i hl
              subst hl
              unfold rgOf at hrg
              split at hrg
              · rename_i w2 p2 a2 p3
                split at hrg
                · rename_i hw2
                  subst hw2
                  cases hrg
                  split at h
                  · rename_i hc
                    rw [Bool.and_eq_true] at hc
                    obtain ⟨x, hx, rfl⟩ := Option.map_eq_some_iff.mp h
                    obtain ⟨g1, g2⟩ := blt_of ok hc.1
                    exact se_listRg ok.calm hg hmg g1 g2 (hf hx) (star_no (by simpa using hc.2)) rfl
                  · cases h
                · cases hrg
              · cases hrg
            · cases hrg
          · split at h
            · rename_i b xs hb hxs
              split at h
              · cases h
              · rename_i hne
                cases h
                obtain ⟨h1, h2, h3⟩ := cXs_ok hf hxs
                cases args with
                | nil => simp at hne
                | cons e es =>
                  obtain ⟨t1, t2⟩ := xs_tail (pos := pos) hf hxs
                  unfold bltOf at hb
                  repeat (split at hb; · (rename_i ew; subst ew; cases hb; first
                    | exact se_blt rfl blt_len hg hmg rfl h1 (by decide) hdb t1 t2
                    | exact se_blt rfl (blt_sum ok.calm) hg hmg rfl h1 (by decide) hdb t1 t2
                    | exact se_blt rfl (blt_all ok.calm) hg hmg rfl h1 (by decide) hdb t1 t2
                    | exact se_blt rfl (blt_any ok.calm) hg hmg rfl h1 (by decide) hdb t1 t2
                    | exact se_bltT rfl blt_int hg hmg rfl h1 (by decide) hdb t1 t2
                    | exact se_blt rfl blt_abs hg hmg rfl h1 (by decide) hdb t1 t2
                    | exact se_bltT rfl (blt_list ok.calm) hg hmg rfl h1 (by decide) hdb t1 t2
                    | exact se_bltT rfl blt_tuple hg hmg rfl h1 (by decide) hdb t1 t2
                    | exact se_blt rfl (blt_min ok.calm) hg hmg rfl h1 (by decide) hdb t1 t2
                    | exact se_blt rfl (blt_max ok.calm) hg hmg rfl h1 (by decide) hdb t1 t2))
                  cases hb
            · cases h
  · cases h
theorem base_no {o : Expr} {w : Str} {env : PySem.Env} (h : isCall0 o = false) : attributeBase o w env (eval o env) = eval o env := by
  cases o <;> try rfl
  rename_i fn args kw p
  cases args with
  | nil => cases h
  | cons a r => cases fn <;> rfl
theorem cCallM_ok (hf : ∀ {e x}, f e = some x → PE X e (tEv m E X x)) {o : Expr} {w : Str} {apos : Pos} {args : List Expr} (h : cCallM f o w apos args pos = some x) : PE X (.Call (.Attribute o w apos) args [] pos) (tEv m E X x) := by
  unfold cCallM at h
  split at h
  · rename_i hc
    simp only [Bool.and_eq_true, decide_eq_true_eq] at hc
    obtain ⟨⟨hc1, hc2⟩, hc3⟩ := hc
    have hb := base_no (w := w) (env := X.env) (o := o) (by simpa using hc1)
    split at h
    · rename_i mt x xs hmt hx hxs
      cases h
      obtain ⟨h1, h2, h3⟩ := cXs_ok hf hxs
      have facts : ∃ id g, bmV mt = g ∧ PlainAttrs (recvT mt) ∧ Slot (recvT mt) w id ∧ typeOf (.builtin id) = pure (.type "method_descriptor") ∧ MtR X id (RMt m E X g) := by
        unfold bmOf at hmt
        repeat (split at hmt; · (rename_i ew; subst ew; cases hmt; first
          | exact ⟨_, _, rfl, PySem.F.plainAttrs_list, PySem.F.slot_list_append, PySem.F.type_list_append, mt_append⟩
          | exact ⟨_, _, rfl, PySem.F.plainAttrs_list, PySem.F.slot_list_pop, PySem.F.type_list_pop, mt_pop⟩
          | exact ⟨_, _, rfl, PySem.F.plainAttrs_list, PySem.F.slot_list_extend, PySem.F.type_list_extend, mt_extend⟩
          | exact ⟨_, _, rfl, PySem.F.plainAttrs_list, PySem.F.slot_list_clear, PySem.F.type_list_clear, mt_clear⟩
          | exact ⟨_, _, rfl, PySem.F.plainAttrs_list, PySem.F.slot_list_reverse, PySem.F.type_list_reverse, mt_reverse⟩
          | exact ⟨_, _, rfl, PySem.F.plainAttrs_str, PySem.F.slot_str_join, PySem.F.type_str_join, mt_join⟩))
        cases hmt
      obtain ⟨id, g, e1, e2, e3, e4, e5⟩ := facts
      cases args with
      | nil =>
        cases hxs
        exact se_bm0 e1 e2 e3 e4 e5 (hf hx) hb hc2
      | cons e es =>
        obtain ⟨t1, t2⟩ := xs_tail (pos := pos) hf hxs
        refine se_bm e1 e2 e3 e4 e5 (hf hx) h1 hb ?_ hc2 t1 t2
        simp only [Bool.and_eq_true, decide_eq_true_eq]
        refine ⟨⟨?_, rfl⟩, by simpa using hc3⟩
        unfold backTo
        rw [List.all_map]
        exact h2
    · cases h
  · cases h
theorem cPart_ok (hf : ∀ {e x}, f e = some x → PE X e (tEv m E X x)) {o : Option Expr} {hl : Bool} {l : Ex} (h : cPart f o = some (hl, l)) : PO X o (tPt m E X hl l) := by
  cases o with
  | none => cases h; exact so_none
  | some e =>
    obtain ⟨x, hx, h⟩ := Option.map_eq_some_iff.mp h
    cases h
    exact so_some (hf hx)
theorem plainIx_of (h : isSlice b = false) : PlainIx b := fun o i => by
  cases b <;> first | rfl | cases h
theorem opB_ok {op : Operator} {o : Bop} (h : opB op = some o) : OpR X (binaryOp op) (R2D m E X (binV o)) := by
  cases op <;> cases h <;> first | exact bin_add | exact bin_sub | exact bin_mul | exact bin_mod | exact bin_fdiv
theorem compF_ok {rec : Bool → Cc → Expr → Option Ex} (R : RecOk rec) (ok : CcOk m E X c) (h : compF rec c e = some x) : PE X e (tEv m E X x) := by
  have hf : ∀ {e x}, rec false c e = some x → PE X e (tEv m E X x) := fun h => R.val ok h
  unfold compF at h
  split at h
  · cases h; exact se_int
  · cases h; exact se_bl
  · cases h; exact se_non
  · cases h; exact se_str
  · rename_i w p
    split at h
    · cases h
    · rename_i hd
      simp only [Bool.or_eq_true, not_or, Bool.not_eq_true] at hd
      split at h
      · rename_i hv
        obtain ⟨i, hi, rfl⟩ := Option.map_eq_some_iff.mp h
        exact se_var (by rw [ok.N]; exact ixOf_ok hi) (isVis_of ok hv) hd.1 hd.2
      · split at h
        · rename_i hg
          split at h
          · rename_i d hgl
            cases h
            obtain ⟨v, u, h1, h2, h3⟩ := ok.gl w _ hgl
            exact se_glob (gl_of ok hg) h1 h2 h3 hd.1
          · cases h
        · cases h
  · split at h
    · rename_i o x y ho hx hy
      cases h
      exact se_op (opB_ok ho) (hf hx) (hf hy)
    · cases h
  · obtain ⟨y, hy, rfl⟩ := Option.map_eq_some_iff.mp h
    exact se_neg (hf hy)
  · obtain ⟨y, hy, rfl⟩ := Option.map_eq_some_iff.mp h
    exact se_not (hf hy)
  · exact (cCmp_ok ok hf h).1
  · split at h
    · rename_i x y hx hy
      cases h
      exact se_and (hf hx) (hf hy)
    · cases h
  · split at h
    · rename_i x y hx hy
      cases h
      exact se_or (hf hx) (hf hy)
    · cases h
  · exact pe_one (hf h)
  · split at h
    · rename_i x y z hx hy hz
      cases h
      exact se_ite (R.test ok hx) (hf hy) (hf hz)
    · cases h
  · split at h
    · rename_i x hl l hh hi hx hy hz
      cases h
      exact se_sl (hf hx) (cPart_ok hf hy) (cPart_ok hf hz)
    · cases h
  · split at h
    · cases h
    · rename_i hs
      split at h
      · rename_i x y hx hy
        cases h
        exact se_sub ok.u (plainIx_of (by simpa using hs)) (hf hx) (hf hy)
      · cases h
  · obtain ⟨y, hy, rfl⟩ := Option.map_eq_some_iff.mp h
    exact se_tup (cXs_ok hf hy).1
  · obtain ⟨y, hy, rfl⟩ := Option.map_eq_some_iff.mp h
    exact se_lst (cXs_ok hf hy).1
  · split at h
    · rename_i hl
      obtain ⟨y, hy, rfl⟩ := Option.map_eq_some_iff.mp h
      rename_i ks vs p
      obtain ⟨h1, h2, h3⟩ := cPairs_ok (pos := p) hf hy
      cases ks with
      | nil =>
        cases vs with
        | nil => cases hy; exact se_dct0
        | cons _ _ => cases hy
      | cons k ks => exact se_dct ok.u h1 h2 h3 (by simp) (of_decide_eq_true hl)
    · cases h
  · exact cCallN_ok ok hf h
  · exact cCallM_ok hf h
  · obtain ⟨tg, it, ifs, own, t, k, es, cx, ex, rfl, rfl, h1, h2, h3, h4, h5, h6⟩ := cLc_ok R ok h
    exact se_lc h1 h2 ok.calm ok.nd h3 h4 h5 h6
  · cases h
theorem isTrue_val {env : PySem.Env} (h : byValue e = true) : ∀ whole, isTrue e env whole = (do let v ← whole; standAt e.pos; holding [v] (truthy v)) := fun whole => by
  cases e <;> first | rfl | cases h | skip
  rename_i op _ _
  cases op <;> first | rfl | cases h
theorem compT_ok {rec : Bool → Cc → Expr → Option Ex} (R : RecOk rec) (ok : CcOk m E X c) (h : compT rec c e = some x) : PT X e (tEvT m E X x) ∧ (isBool e = true → PW X e (tEvT m E X x)) := by
  unfold compT at h
  split at h
  · obtain ⟨y, hy, rfl⟩ := Option.map_eq_some_iff.mp h
    exact ⟨st_not (R.test ok hy), fun z => nomatch z⟩
  · exact ⟨(cCmp_ok ok (fun h => R.val ok h) h).2, fun z => nomatch z⟩
  · split at h
    · rename_i x y hx hy
      cases h
      have := sw_and (R.test ok hx) (R.bool ok hy rfl)
      exact ⟨this.pt, fun _ => this⟩
    · cases h
  · split at h
    · rename_i x y hx hy
      cases h
      have := sw_or (R.test ok hx) (R.bool ok hy rfl)
      exact ⟨this.pt, fun _ => this⟩
    · cases h
  · rename_i op _ _
    cases op with
    | And => have := pw_and1 (pos := ‹Pos›) (R.test ok h); exact ⟨this.pt, fun _ => this⟩
    | Or => have := pw_or1 (pos := ‹Pos›) (R.test ok h); exact ⟨this.pt, fun _ => this⟩
  · split at h
    · rename_i hb
      refine ⟨st_val (R.val ok h) (isTrue_val hb), fun z => ?_⟩
      cases e <;> first | (simp [isBool] at z; done) | (simp [byValue] at hb; done)
    · cases h
theorem comp_ok : ∀ n, RecOk (comp n)
  | 0 => ⟨(fun _ h => nomatch h), (fun _ h => nomatch h), (fun _ h => nomatch h)⟩
  | n + 1 => ⟨fun ok h => compF_ok (comp_ok n) ok h, fun ok h => (compT_ok (comp_ok n) ok h).1, fun ok h hb => (compT_ok (comp_ok n) ok h).2 hb⟩
end
end VI
/-! VIq: from the text's trees to the form; statements. -/
namespace VI
open PySem PySem.Spec PyProof.Rows L2
def isComp : Expr → Bool
  | .ListComp .. | .SetComp .. | .DictComp .. => true
  | _ => false
/-- the stores that are swapped: none if not known -/
def swpT (c : Cc) (ts vs : List Expr) : Option (Option (List Str)) :=
  if (!(ts.length == 2 || ts.length == 3) || vs.length != ts.length) = true then some none
  else if (vs.any fun | .Starred .. => true | _ => false) = true then some none
  else
    let names := ts.filterMap fun
      | .Name id pos => if (c.kind id == some .local && pos.line == (ts.head?.map (·.pos.line)).getD 0) = true then some id else none
      | _ => none
    if (names.length != ts.length || names.eraseDups.length != names.length) = true then some none
    else if vs.all (foldedForSure 8) = true then some none
    else if vs.all (constantsAlone 8) = true then none
    else some (some names)
def cA (f : Expr → Option Ex) (c : Cc) : Expr → Option As
  | .Name w p => (cNm c (.Name w p)).map .nm
  | .Subscript a b _ => if isSlice b then none else (match f a, f b with
    | some x, some y => some (.sub x y)
    | _, _ => none)
  | _ => none
def cAts (f : Expr → Option Ex) (c : Cc) : List Expr → Option Ats
  | [] => some .nil
  | e :: r => match cA f c e, cAts f c r with
    | some x, some y => some (.cons x y)
    | _, _ => none
def cPar (f : Expr → Option Ex) (c : Cc) (ts vs : List Expr) : Option St := match swpT c ts vs with
  | some (some names) => (match cNms c ts, cXs f vs with
    | some is, some xs => if decide (is.map (fun i => c.N[i]?) = names.map some) && decide is.Nodup then some (.par is xs) else none
    | _, _ => none)
  | some none => (match cAts f c ts, cXs f vs with
    | some t, some x => some (.asg (.tp t) (.tup x))
    | _, _ => none)
  | none => none
def swl (c : Cc) (w : Str) (p : Pos) (scope : Scope) (pos : Pos) : Bool := c.kind w == some .local && p.line == pos.line && !(scope.names.any fun (n, k) => n == w && (k == .local || k == .cell))
def cAsg (rec : Bool → Cc → Expr → Option Ex) (c : Cc) (tg e : Expr) : Option St := match tg, e with
  | .Name w p, .ListComp elt gs scope _ => (match cNm c (.Name w p), cLc rec c elt gs scope with
    | some i, some x => some (.asg (.nm i) x)
    | _, _ => none)
  | .Tuple ts _ _, .Tuple vs _ _ => cPar (rec false c) c ts vs
  | .Tuple ts _ _, e => if isComp e || isTup e then none else (match cAts (rec false c) c ts, rec false c e with
    | some t, some x => some (.asg (.tp t) x)
    | _, _ => none)
  | .Name w p, e => if isComp e then none else (match cNm c (.Name w p), rec false c e with
    | some i, some x => some (.asg (.nm i) x)
    | _, _ => none)
  | .Subscript a b p, e => (match cA (rec false c) c (.Subscript a b p), rec false c e with
    | some t, some x => some (.asg t x)
    | _, _ => none)
  | _, _ => none
def stS (rec : Bool → Cc → Expr → Option Ex) (ss : List Stmt → Option Ss) (c : Cc) : Stmt → Option St
  | .Expr e _ => if isComp e then none else (rec false c e).map .ex
  | .Return (some e) _ => (rec false c e).map .ret
  | .If t a b _ => (match rec true c t, ss a, ss b with
    | some x, some y, some z => some (.ite x y z)
    | _, _, _ => none)
  | .While t b [] _ => (match rec true c t, ss b with
    | some x, some y => some (.whl x y)
    | _, _ => none)
  | .For tg it b [] _ => (match cTg c tg, cI (rec false c) c tg it, ss b with
    | some t, some (k, es), some y => some (.for t k es y)
    | _, _, _ => none)
  | .AugAssign (.Name w p) .Add e _ => (match cNm c (.Name w p), rec false c e with
    | some i, some x => some (.aug i x)
    | _, _ => none)
  | .Raise _ _ _ => some .bad
  | .Assign [tg] e _ => cAsg rec c tg e
  | _ => none
def compS : Nat → Cc → List Stmt → Option Ss
  | 0, _, _ => none
  | _ + 1, _, [] => some .nil
  | n + 1, c, s :: r => match stS (comp n) (compS n c) c s, compS n c r with
    | some x, some y => some (.cons x y)
    | _, _ => none
section
variable {m : Md} {E : XK} {X : Cx} {c : Cc} {f : Expr → Option Ex} {e a b d : Expr} {x y : Ex} {pos : Pos}
theorem blockKind_of {env : PySem.Env} (h : env.scope.kind = .function) : env.blockKind = .function := by unfold Env.blockKind; rw [h]; rfl
theorem swpT_ok (ok : CcOk m E X c) (hk : X.env.scope.kind = .function) {ts vs : List Expr} {k1 k2 : Nat} {p1 p2 : Pos} {r : Option (List Str)} (h : swpT c ts vs = some r) : swappedStores [.Tuple ts k1 p1] (.Tuple vs k2 p2) X.env = pure r := by
  have hkd : ∀ w, X.env.kindOf w = c.kind w := fun w => by unfold Env.kindOf Cc.kind; rw [ok.sc]
  unfold swpT at h
  unfold swappedStores
  simp only [blockKind_of hk, hkd]
  have hb : (ScopeKind.function != ScopeKind.function) = false := rfl
  simp only [hb, Bool.or_false]
  split at h
  · rename_i h1
    cases h
    exact if_pos h1
  · rename_i h1
    refine (if_neg h1).trans ?_
    split at h
    · rename_i h2
      cases h
      exact if_pos h2
    · rename_i h2
      refine (if_neg h2).trans ?_
      simp only at h
      split at h
      · rename_i h3
        cases h
        exact if_pos h3
      · rename_i h3
        refine (if_neg h3).trans ?_
        split at h
        · rename_i h4
          cases h
          exact if_pos h4
        · rename_i h4
          refine (if_neg h4).trans ?_
          split at h
          · cases h
          · rename_i h5
            cases h
            exact if_neg h5
theorem swaps_no {t : Option Expr} {l : Nat} {env : PySem.Env} (h : isComp e = false) : swapsWith e t l env = pure false := by
  cases e <;> first | rfl | cases h
theorem cA_ok (ok : CcOk m E X c) (hf : ∀ {e x}, f e = some x → PE X e (tEv m E X x)) {tg : Expr} {t : As} (h : cA f c tg = some t) : PG X tg (tA m E X t) ∧ ∀ es : List Expr, assignEach (tg :: es) X.env = (false, assign tg X.env) :: assignEach es X.env := by
  unfold cA at h
  split at h
  · obtain ⟨i, hi, rfl⟩ := Option.map_eq_some_iff.mp h
    obtain ⟨w, p, e1, h1, h2, h3⟩ := cNm_ok ok hi
    cases e1
    exact ⟨sg_name ok.nd h1 h2 h3, fun _ => rfl⟩
  · split at h
    · cases h
    · rename_i b p hs
      split at h
      · rename_i x y hx hy
        cases h
        refine ⟨sg_sub ok.u (hf hx) (hf hy) fun v => ?_, fun _ => rfl⟩
        cases b <;> first | rfl | (simp [isSlice] at hs; done)
      · cases h
  · cases h
theorem cAts_ok (ok : CcOk m E X c) (hf : ∀ {e x}, f e = some x → PE X e (tEv m E X x)) : ∀ {ts : List Expr} {t : Ats}, cAts f c ts = some t → PGs X ts (tAs m E X t) ∧ (assignEach ts X.env).length = t.len ∧ (assignEach ts X.env).findIdx? (·.1) = none
  | [], t, h => by
    cases h
    exact ⟨sgs_nil, rfl, rfl⟩
  | e :: r, t, h => by
    unfold cAts at h
    split at h
    · rename_i x y hx hy
      cases h
      obtain ⟨g1, g2⟩ := cA_ok ok hf hx
      obtain ⟨h1, h2, h3⟩ := cAts_ok ok hf hy
      refine ⟨sgs_cons g1 h1 (by rw [g2]; rfl), ?_, ?_⟩
      · rw [g2, List.length_cons, h2]; rfl
      · rw [g2, List.findIdx?_cons]
        simp only [Bool.false_eq_true, if_false, h3, Option.map_none]
    · cases h
theorem cNms_len : ∀ {ts : List Expr} {is : List Nat}, cNms c ts = some is → ts.length = is.length
  | [], _, h => by cases h; rfl
  | e :: r, _, h => by
    unfold cNms at h
    split at h
    · rename_i i is hi hr
      cases h
      rw [List.length_cons, List.length_cons, cNms_len hr]
    · cases h
theorem swpT_names {ts vs : List Expr} {names : List Str} (h : swpT c ts vs = some (some names)) : vs.length = ts.length ∧ (ts.length = 2 ∨ ts.length = 3) ∧ ∀ n ∈ names, c.kind n = some .local := by
  unfold swpT at h
  split at h
  · cases h
  · rename_i h1
    split at h
    · cases h
    · simp only at h
      split at h
      · cases h
      · split at h
        · cases h
        · split at h
          · cases h
          · cases h
            simp only [Bool.or_eq_true, Bool.not_eq_true', bne_iff_ne, ne_eq, not_or, Bool.not_eq_false, beq_iff_eq, Decidable.not_not] at h1
            refine ⟨h1.2, h1.1, fun n hn => ?_⟩
            obtain ⟨e, _, he⟩ := List.mem_filterMap.mp hn
            split at he
            · split at he
              · rename_i hc
                cases he
                simp only [Bool.and_eq_true, beq_iff_eq] at hc
                exact hc.1
              · cases he
            · cases he
theorem cPar_ok (ok : CcOk m E X c) (hk : X.env.scope.kind = .function) (hf : ∀ {e x}, f e = some x → PE X e (tEv m E X x)) {ts vs : List Expr} {k1 k2 : Nat} {p1 p2 : Pos} {t : St} (h : cPar f c ts vs = some t) : PS X (.Assign [.Tuple ts k1 p1] (.Tuple vs k2 p2) pos) (tSt m E X t) := by
  unfold cPar at h
  split at h
  · rename_i names hsw
    split at h
    · rename_i is xs hi hx
      split at h
      · rename_i hc
        cases h
        simp only [Bool.and_eq_true, decide_eq_true_eq] at hc
        obtain ⟨hc1, hc2⟩ := hc
        obtain ⟨n1, n2, n3⟩ := swpT_names hsw
        have hloc : ∀ w ∈ names, X.env.scope.names.lookup w = some .local := fun w hw => by rw [ok.sc]; exact n3 w hw
        have hps := cNms_ok ok hi
        have hsw' := swpT_ok ok hk (k1 := k1) (k2 := k2) (p1 := p1) (p2 := p2) hsw
        have hxs := (cXs_ok hf hx).1
        rcases n2 with n2 | n2
        · match ts, vs, n2, n1.trans n2 with
          | [t1, t2], [v1, v2], _, _ =>
            cases hps with
            | cons q1 qq =>
              cases qq with
              | cons q2 qq =>
                cases qq
                rename_i i1 i2
                obtain ⟨w1, pp1, rfl, a1, b1, c1⟩ := q1
                obtain ⟨w2, pp2, rfl, a2, b2, c2⟩ := q2
                rw [ok.N] at a1 a2
                simp only [List.map_cons, List.map_nil, a1, a2] at hc1
                match names, hc1 with
                | [u1, u2], hc1 =>
                  simp only [List.map_cons, List.map_nil, List.cons.injEq, Option.some.injEq, and_true] at hc1
                  obtain ⟨rfl, rfl⟩ := hc1
                  simp only [List.nodup_cons, List.mem_singleton] at hc2
                  exact ss_par ok.calm ok.nd (by rw [ok.N]; exact a1) (by rw [ok.N]; exact a2) hc2.1 (hloc _ (by simp)) (hloc _ (by simp)) hxs hsw' rfl
        · match ts, vs, n2, n1.trans n2 with
          | [t1, t2, t3], [v1, v2, v3], _, _ =>
            cases hps with
            | cons q1 qq =>
              cases qq with
              | cons q2 qq =>
                cases qq with
                | cons q3 qq =>
                  cases qq
                  rename_i i1 i2 i3
                  obtain ⟨w1, pp1, rfl, a1, b1, c1⟩ := q1
                  obtain ⟨w2, pp2, rfl, a2, b2, c2⟩ := q2
                  obtain ⟨w3, pp3, rfl, a3, b3, c3⟩ := q3
                  rw [ok.N] at a1 a2 a3
                  simp only [List.map_cons, List.map_nil, a1, a2, a3] at hc1
                  match names, hc1 with
                  | [u1, u2, u3], hc1 =>
                    simp only [List.map_cons, List.map_nil, List.cons.injEq, Option.some.injEq, and_true] at hc1
                    obtain ⟨rfl, rfl, rfl⟩ := hc1
                    simp only [List.nodup_cons, List.mem_cons, List.not_mem_nil, or_false, not_or] at hc2
                    exact ss_par3 ok.calm ok.nd (by rw [ok.N]; exact a1) (by rw [ok.N]; exact a2) (by rw [ok.N]; exact a3) hc2.1.1 hc2.1.2 hc2.2.1 (hloc _ (by simp)) (hloc _ (by simp)) (hloc _ (by simp)) hxs hsw' rfl
      · cases h
    · cases h
  · rename_i hsw
    split at h
    · rename_i tt x ht hx
      cases h
      obtain ⟨h1, h2, h3⟩ := cAts_ok ok hf ht
      exact ss_asg (se_tup (cXs_ok hf hx).1) (sg_tup ok.calm h1 h2 h3) rfl (swpT_ok ok hk hsw) rfl
    · cases h
  · cases h
theorem stores_no {tg : Expr} {env : PySem.Env} (h : isTup e = false) : swappedStores [tg] e env = pure none := by
  cases tg <;> cases e <;> first | rfl | (simp [isTup] at h; done)
theorem cAsg_ok {rec : Bool → Cc → Expr → Option Ex} (R : RecOk rec) (ok : CcOk m E X c) (hk : X.env.scope.kind = .function) {tg : Expr} {t : St} (h : cAsg rec c tg e = some t) : PS X (.Assign [tg] e pos) (tSt m E X t) := by
  have hf : ∀ {e x}, rec false c e = some x → PE X e (tEv m E X x) := fun h => R.val ok h
  unfold cAsg at h
  split at h
  · rename_i w p elt gs scope pos'
    split at h
    · rename_i i x hi hx
      cases h
      obtain ⟨w', p', e1, h1, h2, h3⟩ := cNm_ok ok hi
      cases e1
      obtain ⟨tg, it, ifs, own, t, k, es, cx, ex, rfl, rfl, l1, l2, l3, l4, l5, l6⟩ := cLc_ok R ok hx
      have hsw : swapsWith (.ListComp elt [⟨tg, it, ifs, 0⟩] scope pos') (some (.Name w p)) pos.line X.env = pure (swl c w p scope pos') := by
        unfold swapsWith swl
        have hkd : X.env.kindOf w = c.kind w := by unfold Env.kindOf Cc.kind; rw [ok.sc]
        simp only [blockKind_of hk, hkd]
        rfl
      cases hs : swl c w p scope pos' with
      | true =>
        rw [hs] at hsw
        unfold swl at hs
        simp only [Bool.and_eq_true, beq_iff_eq, Cc.kind, ← ok.sc] at hs
        exact ss_setLc l1 l2 ok.calm ok.nd h1 hs.1.1 hsw l3 l4 l5 l6
      | false =>
        rw [hs] at hsw
        exact ss_set ok.nd h1 h2 (se_lc l1 l2 ok.calm ok.nd l3 l4 l5 l6) hsw h3
    · cases h
  · exact cPar_ok ok hk hf h
  · split at h
    · cases h
    · rename_i hc
      split at h
      · rename_i tt x ht hx
        cases h
        obtain ⟨h1, h2, h3⟩ := cAts_ok ok hf ht
        simp only [Bool.or_eq_true, not_or, Bool.not_eq_true] at hc
        exact ss_asg (hf hx) (sg_tup ok.calm h1 h2 h3) (by unfold swapsWithSole; exact swaps_no hc.1) (stores_no hc.2) rfl
      · cases h
  · split at h
    · cases h
    · rename_i hc
      split at h
      · rename_i i x hi hx
        cases h
        obtain ⟨w', p', e1, h1, h2, h3⟩ := cNm_ok ok hi
        cases e1
        exact ss_set ok.nd h1 h2 (hf hx) (swaps_no (by simpa using hc)) h3
      · cases h
  · split at h
    · rename_i tt x ht hx
      cases h
      refine ss_asg (hf hx) (cA_ok ok hf ht).1 ?_ ?_ rfl
      · cases e <;> rfl
      · cases e <;> rfl
    · cases h
  · cases h
theorem stS_ok {rec : Bool → Cc → Expr → Option Ex} {ss : List Stmt → Option Ss} (R : RecOk rec) (ok : CcOk m E X c) (hk : X.env.scope.kind = .function) (hp : PassesOwn (model X.prog X.w) X.A X.env X.xe) (hss : ∀ {b y}, ss b = some y → PSs X b (tSs m E X y)) {s : Stmt} {t : St} (h : stS rec ss c s = some t) : PS X s (tSt m E X t) := by
  have hf : ∀ {e x}, rec false c e = some x → PE X e (tEv m E X x) := fun h => R.val ok h
  unfold stS at h
  split at h
  · split at h
    · cases h
    · rename_i hc
      obtain ⟨x, hx, rfl⟩ := Option.map_eq_some_iff.mp h
      exact ss_expr (hf hx) (swaps_no (by simpa using hc))
  · obtain ⟨x, hx, rfl⟩ := Option.map_eq_some_iff.mp h
    exact ss_ret (hf hx)
  · split at h
    · rename_i x y z hx hy hz
      cases h
      exact ss_if (R.test ok hx) (hss hy) (hss hz)
    · cases h
  · split at h
    · rename_i x y hx hy
      cases h
      exact ss_while hp (R.test ok hx) (hss hy)
    · cases h
  · split at h
    · rename_i tt k es y ht hi hy
      cases h
      obtain ⟨i1, i2, i3⟩ := cI_ok ok hf hi
      exact ss_for i2 hp ok.nd ok.calm i1 (cTg_ok ok ht) (hss hy) i3
    · cases h
  · split at h
    · rename_i i x hi hx
      cases h
      obtain ⟨w', p', e1, h1, h2, h3⟩ := cNm_ok ok hi
      cases e1
      exact ss_aug ok.nd h1 h2 (hf hx) h3
    · cases h
  · cases h
    exact ss_bad
  · exact cAsg_ok R ok hk h
  · cases h
theorem compS_ok (ok : CcOk m E X c) (hk : X.env.scope.kind = .function) (hp : PassesOwn (model X.prog X.w) X.A X.env X.xe) : ∀ (n : Nat) {b : List Stmt} {y : Ss}, compS n c b = some y → PSs X b (tSs m E X y)
  | 0, _, _, h => nomatch h
  | n + 1, [], y, h => by
    cases h
    exact ss_nil
  | n + 1, s :: r, y, h => by
    unfold compS at h
    split at h
    · rename_i x z hx hz
      cases h
      exact ss_cons (stS_ok (comp_ok n) ok hk hp (fun h => compS_ok ok hk hp n h) hx) (compS_ok ok hk hp n hz)
    · cases h
end
end VI
/-! VIr: defs keep their promises; the law's end. -/
namespace VI
open PySem PySem.Spec PyProof.Rows L2
/-- a def of the text: its name, its slots, its parameters -/
structure Df where
  x : Str
  N : List Str
  ps : List Str
  st : Stmt
/-- a text: its defs, what the module's names are, which built-in names it leaves alone -/
structure Tx where
  ds : List Df
  cs : List (Str × D)
  fr : List Str
def glOf (ds : List Df) (cs : List (Str × D)) (w : Str) : Option G := match ds.findIdx? (fun d => d.x == w) with
  | some i => (match ds[i]? with
    | some d => some (.fn i d.ps.length)
    | none => none)
  | none => (cs.lookup w).map .con
def ccOf (t : Tx) (d : Df) : Cc := ⟨d.N, defScope d.st, fun _ => true, glOf t.ds t.cs, fun w => t.fr.contains w⟩
def fnOfD (t : Tx) (fuel : Nat) (d : Df) : Option Fn := match compS fuel (ccOf t d) (defBody d.st) with
  | some b => some ⟨d.ps.length, d.N.length, b⟩
  | none => none
/-- what is checked of a def -/
def scB (N ps : List Str) (sc : Scope) : Bool := decide (sc.kind = .function) && !sc.isCoroutine && !sc.isGenerator && decide N.Nodup && decide (N.take ps.length = ps) && ps.all (fun x => decide (sc.names.lookup x = some .local) || decide (sc.names.lookup x = some .cell)) && sc.names.all fun y => !decide (y.2 = .free)
theorem scB_ok {N ps : List Str} {sc : Scope} (h : scB N ps sc = true) : FnScope N ps sc := by
  unfold scB at h
  simp only [Bool.and_eq_true, decide_eq_true_eq, List.all_eq_true, Bool.or_eq_true, Bool.not_eq_true'] at h
  obtain ⟨⟨⟨⟨⟨⟨h1, h2⟩, h3⟩, h4⟩, h5⟩, h6⟩, h7⟩ := h
  exact ⟨h1, h2, h3, h4, h5, h6, fun y hy z => by have := h7 y hy; simp [z] at this⟩
/-- plain parameters, as many as there are -/
def argB (ps : List Str) (a : Arguments) : Bool := match a with
  | ⟨[], as, none, [], [], none, []⟩ => decide (as.map (·.arg) = ps)
  | _ => false
/-- one def's checks: its form is the table's -/
def dfB (t : Tx) (fuel : Nat) (T : Tbl) (i : Nat) (d : Df) : Prop := scB d.N d.ps (defScope d.st) = true ∧ ∃ b, T.fns[i]? = some ⟨d.ps.length, d.N.length, b⟩ ∧ compS fuel (ccOf t d) (defBody d.st) = some b
section
variable {P : Program} {w : World} {K : PySem.W.Frag} {mg : Str → Option Value} {base : Heap}
/-- what is known of the module -/
structure TxOk (t : Tx) (nm : Nm) (K : PySem.W.Frag) (mg : Str → Option Value) : Prop where
  fn : ∀ (i : Nat) (d : Df), t.ds[i]? = some d → ∃ f fd, FunD K d.x d.x (defArgs d.st) (defBody d.st) (defScope d.st) [] [] f fd ∧ mg d.x = some (.ref f) ∧ Binds K fd d.ps []
  con : ∀ (x : Str) (d : D), t.cs.lookup x = some d → ∃ v u, mg x = some u ∧ RelV v u ∧ ∀ ρ H, Rep K ρ H d v
  fr : ∀ x ∈ t.fr, mg x = none
  cl : ClsOk nm K
  ty : ∀ p ∈ tyOfName, IsTab nm K p.2.2 (.type p.2.1)
abbrev mdN (nm : Nm) (T : Tbl) (F : Nat) (xA : List Addr) (n : Nat) : Md := ⟨nm, T, F, callI T F n, xA⟩
theorem room_u {k : Nat} {A : Around} (r : Room k A) : A.units + 65 < cLine := by have := r.un; omega
theorem reps_entry {X : Cx} {ρ : List Addr} {H : Hp} {N : List Str} {ds : List D} {vs : List V} (r : Reps X.K ρ H ds vs) : ERel X ρ H (entry N.length ds) (L2.start N vs) := by
  have hl := r.length
  refine ⟨by unfold entry L2.start; simp only [List.length_append, List.length_map, List.length_replicate, hl], fun i d e => ?_⟩
  unfold entry at e
  unfold L2.start
  by_cases hi : i < ds.length
  · rw [List.getElem?_append_left (by simpa using hi), List.getElem?_map] at e
    obtain ⟨x, hx, e⟩ := Option.map_eq_some_iff.mp e
    cases e
    obtain ⟨v, hv, rv⟩ := r.get hx
    refine ⟨v, ?_, rv⟩
    rw [List.getElem?_append_left (by simpa [← hl] using hi), List.getElem?_map, hv]
    rfl
  · rw [List.getElem?_append_right (by simpa using hi)] at e
    have := List.mem_of_getElem? e
    rw [List.mem_replicate] at this
    cases this.2
theorem fns_ok {t : Tx} {nm : Nm} {T : Tbl} {F fuel : Nat} {xA : List Addr} (tx : TxOk t nm K mg) (hT : ∀ k : Nat, (T.cls[k]?).bind (·.eq) = none) (hd : ∀ i d, t.ds[i]? = some d → dfB t fuel T i d) :
    ∀ (n : Nat) (i : Nat) (d : Df), t.ds[i]? = some d → ∀ f fd, FunD K d.x d.x (defArgs d.st) (defBody d.st) (defScope d.st) [] [] f fd → FnOk P w K mg base (L2.CX P w) n f fd d.ps (spI (mdN nm T F xA n) P w K (callI T F n) i d.ps.length)
  | 0, i, d, hi, f, fd, FD => ⟨fun vs H Q E h => h.1, fun A outer s H args us vs Q E hr he hb hv hs => by
      obtain ⟨_, ρ, st, ds, _, _, hf⟩ := hs
      exact hf.elim⟩
  | n + 1, i, d, hi, f, fd, FD => by
    obtain ⟨hsc, b, hb, hc⟩ := hd i d hi
    refine FunD.ok FD (scB_ok hsc) (fun vs H Q E h => h.1) fun cdv A outer s H vs Q E hr h => ?_
    obtain ⟨hl, ρ, st, ds, S, rs, hf⟩ := h
    generalize hX : cxOf (L2.CX P w) P w K mg base d.N d.x (defScope d.st) f cdv A outer s H E = X
    have ok : CcOk (mdN nm T F xA n) E X (ccOf t d) := by
      subst hX
      refine ⟨rfl, rfl, rfl, (scB_ok hsc).nd, rfl, room_u hr, ?_, fun x g hg => ?_, fun x hx => tx.fr x (by simpa [ccOf] using hx), hT, tx.cl, tx.ty⟩
      · exact passes_call (takes_of rfl rfl rfl rfl) (fun _ _ _ _ h => h)
      · have hg : glOf t.ds t.cs x = some g := hg
        unfold glOf at hg
        split at hg
        · rename_i j hj
          split at hg
          · rename_i dj hdj
            cases hg
            obtain ⟨fj, fdj, FDj, mj, bj⟩ := tx.fn j dj hdj
            have hx : dj.x = x := by
              have := List.findIdx?_eq_some_iff_getElem.mp hj
              obtain ⟨hlt, hp, _⟩ := this
              rw [List.getElem?_eq_getElem hlt] at hdj
              cases hdj
              simpa using hp
            subst hx
            exact ⟨n, fj, fdj, dj.ps, fns_ok tx hT hd n j dj hdj fj fdj FDj, hr, mj, FDj.kp, bj, rfl⟩
          · cases hg
        · obtain ⟨dd, hdd, rfl⟩ := Option.map_eq_some_iff.mp hg
          exact tx.con x dd hdd
    have hp : PassesOwn (model X.prog X.w) X.A X.env X.xe := by
      subst hX
      exact passes_of rfl
    have hk : X.env.scope.kind = .function := by
      subst hX
      exact (scB_ok hsc).kind
    have hK : X.K = K := by subst hX; rfl
    have hP : X.prog = P := by subst hX; rfl
    have hw : X.w = w := by subst hX; rfl
    refine ⟨_, compS_ok ok hk hp fuel hc, ρ, entry d.N.length ds, st, reps_entry (by rw [hK]; exact rs), by subst hX; exact S, ?_⟩
    have hcall : callI T F (n + 1) i ds st = (exSs T F (callI T F n) b (entry d.N.length ds) st).bind fun fl s => match fl with
        | .nx _ => .ok .non s
        | .rt d => .ok d s := by
      have hlen : ds.length = d.ps.length := by rw [rs.length]; exact hl
      simp only [callI, hb, hlen, if_true] <;> rfl
    rw [hcall] at hf
    have hf : Fin (mdN nm T F xA n) E X ρ H ((exSs T F (callI T F n) b (entry d.N.length ds) st).bind fun fl s => match fl with
        | .nx _ => R.ok D.non s
        | .rt d => R.ok d s) (rD X) Q := by
      subst hX
      exact Fin.of_k hf
    refine hf.bind fun fl st1 ρ1 H1 g s1 S1 r1 hf1 => ?_
    cases fl with
    | nx env =>
      cases g with
      | inl σ1 => exact Fin.now (b := V.non) hf1 S1 Rep.non
      | inr v => exact r1.elim
    | rt dd =>
      cases g with
      | inl σ1 => exact r1.elim
      | inr v => exact Fin.now (b := v) hf1 S1 r1
end

/-! ### what is read off the head -/
mutual
/-- a constant as it stands in the written part -/
def conV (K : PySem.W.Frag) : Nat → D → Value → Bool
  | _, .non, .none => true
  | _, .bl b, .bool c => b == c
  | _, .int i, .int j _ => decide (i = j)
  | _, .str x, .str y _ => decide (toS x = y)
  | n + 1, .tup xs, .ref a => (match K.lookup a with
    | some o => (match o.cls, o.data with
      | .type c, .seq its _ => decide (c = "tuple") && decide (its.size ≤ 1000) && conVs K n xs its.toList
      | _, _ => false)
    | none => false)
  | _, _, _ => false
def conVs (K : PySem.W.Frag) : Nat → List D → List Value → Bool
  | _, [], [] => true
  | n, x :: xs, v :: vs => conV K n x v && conVs K n xs vs
  | _, _, _ => false
end
end VI
/-! VIs: what is read off the head; the law's end. -/
namespace VI
open PySem PySem.Spec PyProof.Rows L2
section
variable {P : Program} {w : World} {K : PySem.W.Frag} {mg : Str → Option Value} {base : Heap}
mutual
theorem conV_ok : ∀ (n : Nat) (d : D) (u : Value), conV K n d u = true → ∃ v, RelV v u ∧ ∀ ρ H, Rep K ρ H d v
  | n, .non, u, h => by
    cases u <;> first | (simp [conV] at h; done) | exact ⟨.non, rfl, fun _ _ => .non⟩
  | n, .bl b, u, h => by
    cases u <;> first | (simp [conV] at h; done) | skip
    simp [conV] at h
    subst h
    exact ⟨.bl _, rfl, fun _ _ => .bl _⟩
  | n, .int i, u, h => by
    cases u <;> first | (simp [conV] at h; done) | skip
    simp [conV] at h
    subst h
    exact ⟨.int _, ⟨_, rfl⟩, fun _ _ => .int _⟩
  | n, .str x, u, h => by
    cases u <;> first | (simp [conV] at h; done) | skip
    simp [conV] at h
    subst h
    exact ⟨.str _, ⟨_, rfl⟩, fun _ _ => .str _⟩
  | 0, .tup xs, u, h => by cases u <;> simp [conV] at h
  | n + 1, .tup xs, u, h => by
    cases u <;> first | (simp [conV] at h; done) | skip
    rename_i a
    unfold conV at h
    split at h
    · rename_i o ho
      split at h
      · rename_i c its k hc hdt
        simp only [Bool.and_eq_true, decide_eq_true_eq] at h
        obtain ⟨⟨h1, h2⟩, h3⟩ := h
        obtain ⟨vs, q1, q2⟩ := conVs_ok n xs its.toList h3
        subst h1
        refine ⟨.ref a, rfl, fun ρ H => .tup (.inr ⟨o, its, k, ho, hc, hdt, ?_, q1⟩) (q2 ρ H)⟩
        rw [sizeLine_eq]; omega
      · cases h
    · cases h
  | n, .ref k, u, h => by cases u <;> simp [conV] at h
theorem conVs_ok : ∀ (n : Nat) (d : List D) (u : List Value), conVs K n d u = true → ∃ v, Vals v u ∧ ∀ ρ H, Reps K ρ H d v
  | n, [], u, h => by
    cases u with
    | nil => exact ⟨[], .nil, fun _ _ => .nil⟩
    | cons _ _ => simp [conVs] at h
  | n, x :: xs, u, h => by
    cases u with
    | nil => simp [conVs] at h
    | cons y ys =>
      simp only [conVs, Bool.and_eq_true] at h
      obtain ⟨v, r1, r2⟩ := conV_ok n x y h.1
      obtain ⟨vs, q1, q2⟩ := conVs_ok n xs ys h.2
      exact ⟨v :: vs, .cons r1 q1, fun ρ H => .cons (r2 ρ H) (q2 ρ H)⟩
end
/-- a list of ints -/
def intList (o : Obj) : Bool := decide (o.cls = .type "list") && (match o.data with
  | .seq its _ => its.all fun v => match v with | .int _ _ => true | _ => false
  | _ => false)
def noInts (K : PySem.W.Frag) : Bool := K.all fun p => !intList p.2
theorem noInts_ok (h : noInts K = true) {H : Hp} {a : Addr} {ns : List Int} (hs : SqL K H a (ns.map V.int)) : Rd H a (.lst (ns.map V.int)) := by
  rcases hs with hs | ⟨o, its, n, h1, h2, h3, h4, h5, h6⟩
  · exact hs
  · exfalso
    have := List.all_eq_true.mp h (a, o) (He.lookup_mem h1)
    have z : intList o = true := by
      unfold intList
      rw [Bool.and_eq_true]
      refine ⟨decide_eq_true h2, ?_⟩
      rw [h4]
      simp only
      rw [← Array.all_toList, List.all_eq_true]
      intro v hv
      obtain ⟨i, hi⟩ := List.getElem?_of_mem hv
      have key : ∀ (ns : List Int) (us : List Value), Vals (ns.map V.int) us → ∀ u ∈ us, ∃ i t, u = .int i t := fun ns => by
        induction ns with
        | nil => intro us r u hu; cases r; cases hu
        | cons k r ih =>
          intro us rr u hu
          cases rr with
          | cons q qq =>
            rcases List.mem_cons.mp hu with e | e
            · obtain ⟨t, rfl⟩ := q; exact ⟨_, t, e⟩
            · exact ih _ qq u e
      obtain ⟨k, t, rfl⟩ := key ns _ h6 v hv
      rfl
    rw [z] at this
    cases this
/-- what else is asked of the written part -/
def exB (t : Tx) (K : PySem.W.Frag) : Bool := noInts K && (t.cs.all fun p => match PySem.W.nsIn K mainGlobals p.1 with
  | some (some u) => conV K 8 p.2 u
  | _ => false) && tyOfName.all fun p => (List.range 7).all fun k => match tyNames[k]? with
    | some n => decide (PySem.W.kitOne K (.type n) (.type p.2.1) = some (tyIs p.2.2 k))
    | none => false
def nm0 : Nm := ⟨[], []⟩
def fnD (t : Tx) : List He.DefD := t.ds.map fun d => ⟨(d.x, none), d.x, d.x, defArgs d.st, defBody d.st, defScope d.st, [], []⟩
def faD (t : Tx) : List He.Fa := (t.ds.map fun d => He.Fa.glo d.x) ++ t.fr.map .free
def BindOk (t : Tx) : Prop := ∀ d ∈ t.ds, ∀ (kV doc pm : Value) (an : Option Addr) (cdv ct : Value) (us : List Value), us.length = d.ps.length → bindArgs (PySem.W.fnOf d.x d.x (defArgs d.st) (defBody d.st) (defScope d.st) .none kV doc pm an cdv ct) ⟨us, []⟩ = pure (d.ps.zip us)
theorem tx_ok {t : Tx} {h : Heap} (hb : BindOk t) (X : K.In h) (G : h.Ns mainGlobals mg) (c : He.SaysX (faD t) (fnD t) [] [] (exB t) w h K) : TxOk t nm0 K mg := by
  have hd := c.t.d
  have hm := c.more
  unfold exB at hm
  simp only [Bool.and_eq_true] at hm
  obtain ⟨⟨hm1, hm2⟩, hm3⟩ := hm
  refine ⟨fun i d hi => ?_, fun x d hx => ?_, fun x hx => ?_, ⟨fun c C z => by simp [nm0] at z⟩, fun p hp => ⟨fun k n hk => ?_, fun c C z => by simp [nm0] at z⟩⟩
  · have hmem : d ∈ t.ds := List.mem_of_getElem? hi
    obtain ⟨fd, FD⟩ := hd.defs (d := ⟨(d.x, none), d.x, d.x, defArgs d.st, defBody d.st, defScope d.st, [], []⟩) (List.mem_map.mpr ⟨d, hmem, rfl⟩)
    exact ⟨_, fd, FD, He.glo_ok X G (hd.facts (List.mem_append_left _ (List.mem_map.mpr ⟨d, hmem, rfl⟩))), FunD.bindsN FD (hb d hmem)⟩
  · have := List.all_eq_true.mp hm2 (x, d) (PySem.mem_of_lookup hx)
    simp only at this
    split at this
    · rename_i u hu
      obtain ⟨v, r1, r2⟩ := conV_ok 8 d u this
      exact ⟨v, u, PySem.W.mg_of X G hu, r1, r2⟩
    · cases this
  · exact He.free_ok X G (hd.facts (List.mem_append_right _ (List.mem_map.mpr ⟨x, hx, rfl⟩)))
  · have h1 := List.all_eq_true.mp hm3 p hp
    have hlt : k < 7 := (List.getElem?_eq_some_iff.mp hk).1
    have h2 := List.all_eq_true.mp h1 k (List.mem_range.mpr hlt)
    rw [hk] at h2
    exact of_decide_eq_true h2
/-- the script in the store -/
def script (ns : List Int) : Store := Store.nil.add (.flst (ns.map .int))
theorem ints_reps {ρ : List Addr} {H : Hp} : ∀ ns : List Int, Reps K ρ H (ns.map .int) (ns.map V.int)
  | [] => .nil
  | n :: r => .cons (.int n) (ints_reps r)
theorem script_rel {H : Hp} {a : Addr} {o : Obj} {ns : List Int} (h : H a = some (.frz o (.lst (ns.map V.int)))) : SRel nm0 P w K [a] H (script ns) := by
  refine ⟨by simp, rfl, fun n b hb => ?_⟩
  cases n with
  | zero =>
    simp at hb
    subst hb
    exact ⟨.flst (ns.map .int), Store.get_add_self, o, _, h, ints_reps ns⟩
  | succ n => simp at hb
/-- what may be let out, in whatever world -/
def CXa (P : Program) : CXT := fun outer H s E e s' => ∃ w, L2.CX P w outer H s E e s'
/-- the law's promise -/
theorem law_end {t : Tx} {T : Tbl} {F fuel n i most : Nat} {d : Df} {x : Str} (hT : T.cls = []) (hd : ∀ i d, t.ds[i]? = some d → dfB t fuel T i d) (hbd : BindOk t) (hi : t.ds[i]? = some d) (hps : d.ps = [x])
    (ev : ∀ ns : List Int, ns.length ≤ most → ∃ st, callI T F n i [.ref 0] (script ns) = .ok (.bl true) st)
    (w : World) (mg : Str → Option Value) (fa : Addr) (h : Heap) (Y : ∃ K : PySem.W.Frag, K.In h ∧ He.SaysX (faD t) (fnD t) [] [] (exB t) w h K) (G : h.Ns mainGlobals mg) (hmg : mg d.x = some (.ref fa)) :
    ∃ (K : PySem.W.Frag) (fd : FuncData) (sp : Sp), K.In h ∧ (∀ (s : Shared) (u : Value), BindsTo s fd ⟨[u], []⟩ [(x, u)]) ∧
      (∀ (H : Hp) (a : Addr) (ns : List Int), ns.length ≤ most → Only H → SqL K H a (ns.map V.int) → sp [.ref a] H (fun v _ => v = .bl true) fun _ _ _ => False) ∧
      ∀ base : Heap, K.In base → base.Ns mainGlobals mg → FnOk P w K mg base (CXa P) n fa fd [x] sp := by
  obtain ⟨K, X, c⟩ := Y
  have tx := tx_ok hbd X G c
  have hmem : d ∈ t.ds := List.mem_of_getElem? hi
  obtain ⟨fd0, FD⟩ := c.t.d.defs (d := ⟨(d.x, none), d.x, d.x, defArgs d.st, defBody d.st, defScope d.st, [], []⟩) (List.mem_map.mpr ⟨d, hmem, rfl⟩)
  have e := hmg.symm.trans (He.glo_ok X G (c.t.d.facts (List.mem_append_left _ (List.mem_map.mpr ⟨d, hmem, rfl⟩))))
  cases e
  have b := FunD.bindsA (ps := d.ps) FD (hbd d hmem)
  refine ⟨K, fd0, spI (mdN nm0 T F [] n) P w K (callI T F n) i d.ps.length, X, fun s u => ?_, fun H a ns hl hO hS => ?_, fun base KB GB => ?_⟩
  · have := b s [u] (by rw [hps]; rfl)
    rw [hps] at this
    exact this
  · have hm := c.more
    unfold exB at hm
    simp only [Bool.and_eq_true] at hm
    have hr := noInts_ok hm.1.1 hS
    have hf : ∃ o, H a = some (.frz o (.lst (ns.map V.int))) := by
      rcases hr with hr | hr
      · rcases hO a with z | ⟨o, xs, z⟩
        · rw [z] at hr; cases hr
        · rw [z] at hr; cases hr
      · exact hr
    obtain ⟨o, hf⟩ := hf
    obtain ⟨st, hev⟩ := ev ns hl
    refine ⟨by rw [hps]; rfl, [a], script ns, [.ref 0], script_rel hf, .cons (.ref rfl) .nil, ?_⟩
    rw [hev]
    intro ρ' H' v _ _ r
    cases r
    rfl
  · have := fns_ok (P := P) (w := w) (base := base) (F := F) (xA := []) tx (fun k => by rw [hT]; rfl) hd n i d hi _ fd0 FD
    rw [← hps]
    exact ⟨this.len, fun A outer s H args us vs Q E hr he hb hv hs => codeAny_mono (this.run A outer s H args us vs Q E hr he hb hv hs) fun r s' hq => by
      cases r with
      | ok f => cases f <;> exact hq
      | error e => exact ⟨w, hq⟩⟩
theorem cx_no (P : Program) : ∀ (H : Hp) (s : Shared) (e : Value) (s' : Shared), CXa P [] H s (fun _ _ _ => False) e s' → False := fun H s e s' h => by
  obtain ⟨_, _, _, _, _, _, _, _, _, _, _, _, _, z⟩ := h
  exact z
end
end VI
/-! VIt: rules for the evaluator; plain Lean. -/
namespace VI
def Ok {α : Type} (r : R α) (P : α → Store → Prop) : Prop := ∃ a s, r = .ok a s ∧ P a s
theorem Ok_ok {α : Type} {a : α} {s : Store} {P : α → Store → Prop} : Ok (.ok a s) P ↔ P a s :=
  ⟨fun ⟨_, _, e, h⟩ => by cases e; exact h, fun h => ⟨a, s, rfl, h⟩⟩
theorem Ok_bind {α β : Type} {r : R α} {f : α → Store → R β} {P : β → Store → Prop} : Ok (r.bind f) P ↔ Ok r fun a s => Ok (f a s) P := by
  constructor
  · rintro ⟨b, s, e, h⟩
    cases r with
    | ok a s1 => exact ⟨a, s1, rfl, b, s, e, h⟩
    | exc c x s => cases e
    | stuck => cases e
  · rintro ⟨a, s, rfl, h⟩
    exact h
theorem Ok.mono {α : Type} {r : R α} {P Q : α → Store → Prop} (h : Ok r P) (k : ∀ a s, P a s → Q a s) : Ok r Q := by
  obtain ⟨a, s, e, p⟩ := h
  exact ⟨a, s, e, k a s p⟩
theorem Ok.eq {α : Type} {r : R α} {a : α} {s : Store} {P : α → Store → Prop} (e : r = .ok a s) (h : P a s) : Ok r P := ⟨a, s, e, h⟩
theorem callI_at {T : Tbl} {F n f : Nat} {as : List D} {s : Store} {fn : Fn} (h : T.fns[f]? = some fn) (hl : as.length = fn.np) : callI T F (n + 1) f as s = (exSs T F (callI T F n) fn.body (entry fn.nn as) s).bind fun fl s => match fl with
    | .nx _ => .ok .non s
    | .rt d => .ok d s := by
  simp only [callI, h, hl, if_true] <;> rfl
/-- a call, by its body -/
theorem Ok_call {T : Tbl} {F n f : Nat} {as : List D} {s : Store} {fn : Fn} {P : D → Store → Prop} (h : T.fns[f]? = some fn) (hl : as.length = fn.np) (k : Ok (exSs T F (callI T F n) fn.body (entry fn.nn as) s) fun fl s => match fl with
    | .nx _ => P .non s
    | .rt d => P d s) : Ok (callI T F (n + 1) f as s) P := by
  rw [callI_at h hl, Ok_bind]
  refine k.mono fun fl s h => ?_
  cases fl <;> exact Ok_ok.mpr h
theorem nth_some {α : Type} {xs : List α} {i : Nat} {f : α → D} {x : α} (h : xs[i]? = some x) : nth xs i f = .item (f x) := by unfold nth; rw [h]
theorem nth_none {α : Type} {xs : List α} {i : Nat} {f : α → D} (h : xs.length ≤ i) : nth xs i f = .stop := by unfold nth; rw [List.getElem?_eq_none h]
/-- a for loop over what stays -/
theorem turns_ok {k : Itk} {ds xs : List D} {f : D → Env → Store → R Fl} {P : Fl → Store → Prop} (I : Nat → Env → Store → Prop)
    (hit : ∀ i env s, I i env s → itAt k ds i s = nth xs i id)
    (step : ∀ i x env st, xs[i]? = some x → I i env st → Ok (f x env st) fun fl s => match fl with | .nx env' => I (i + 1) env' s | .rt d => P (.rt d) s)
    (done : ∀ env st, I xs.length env st → P (.nx env) st) : ∀ (n i : Nat) (env : Env) (st : Store), i ≤ xs.length → xs.length < n + i → I i env st → Ok (turns k ds f n i env st) P
  | 0, i, env, st, hi, hn, h => by omega
  | n + 1, i, env, st, hi, hn, h => by
    unfold turns
    rw [hit i env st h]
    by_cases hl : i = xs.length
    · rw [nth_none (by omega)]
      subst hl
      exact Ok_ok.mpr (done env st h)
    · have hx : xs[i]? = some xs[i] := List.getElem?_eq_getElem (by omega)
      rw [nth_some hx]
      refine Ok_bind.mpr ((step i _ env st hx h).mono fun fl s h => ?_)
      cases fl with
      | nx env' => exact turns_ok I hit step done n (i + 1) env' s (by omega) (by omega) h
      | rt d => exact Ok_ok.mpr h
/-- a comprehension's walk -/
theorem walk_ok {α : Type} {k : Itk} {ds xs : List D} {f : D → α → Store → R α} {P : α → Store → Prop} (I : Nat → α → Store → Prop)
    (hit : ∀ i a s, I i a s → itAt k ds i s = nth xs i id)
    (step : ∀ i x a st, xs[i]? = some x → I i a st → Ok (f x a st) fun a' s => I (i + 1) a' s)
    (done : ∀ a st, I xs.length a st → P a st) : ∀ (n i : Nat) (a : α) (st : Store), i ≤ xs.length → xs.length < n + i → I i a st → Ok (walk k ds f n i a st) P
  | 0, i, a, st, hi, hn, h => by omega
  | n + 1, i, a, st, hi, hn, h => by
    unfold walk
    rw [hit i a st h]
    by_cases hl : i = xs.length
    · rw [nth_none (by omega)]
      subst hl
      exact Ok_ok.mpr (done a st h)
    · have hx : xs[i]? = some xs[i] := List.getElem?_eq_getElem (by omega)
      rw [nth_some hx]
      exact Ok_bind.mpr ((step i _ a st hx h).mono fun a' s h => walk_ok I hit step done n (i + 1) a' s (by omega) (by omega) h)
theorem Ok_noexc {α : Type} {r : R α} {P : α → Store → Prop} : Ok r.noexc P ↔ Ok r P := by
  cases r with
  | ok a s => exact Iff.rfl
  | exc c x s => exact ⟨(fun ⟨_, _, e, _⟩ => nomatch e), (fun ⟨_, _, e, _⟩ => nomatch e)⟩
  | stuck => exact Iff.rfl
theorem Ok_unl {α : Type} {r : R α} {P : α → Store → Prop} (h : Ok r P) : Ok (R.unl none r) P := by
  obtain ⟨a, s, rfl, h⟩ := h
  exact ⟨a, s, rfl, h⟩
/-- a while loop -/
theorem loop_ok {c : Env → Store → R Bool} {b : Env → Store → R Fl} {P : Fl → Store → Prop} (I : Nat → Env → Store → Prop)
    (step : ∀ m env st, I m env st → Ok (c env st) fun k s => if k = true then Ok (b env s) (fun fl s => match fl with | .nx env' => ∃ m', m' < m ∧ I m' env' s | .rt d => P (.rt d) s) else P (.nx env) s) :
    ∀ (n m : Nat) (env : Env) (st : Store), m < n → I m env st → Ok (loop c b n env st) P
  | 0, m, _, _, h, _ => by omega
  | n + 1, m, env, st, hm, h => by
    unfold loop
    refine Ok_bind.mpr ((step m env st h).mono fun k s h => ?_)
    cases k with
    | true =>
      simp only [if_true] at h ⊢
      refine Ok_bind.mpr (h.mono fun fl s h => ?_)
      cases fl with
      | nx env' =>
        obtain ⟨m', hm', h⟩ := h
        exact loop_ok I step n m' env' s (by omega) h
      | rt d => exact Ok_ok.mpr h
    | false =>
      simp only [Bool.false_eq_true, if_false] at h ⊢
      exact Ok_ok.mpr h
/-- the store has grown, what was there stays -/
structure Ext (s t : Store) : Prop where
  le : s.sz ≤ t.sz
  get : ∀ k, k < s.sz → t.get k = s.get k
theorem Ext.refl (s : Store) : Ext s s := ⟨Nat.le_refl _, fun _ _ => rfl⟩
theorem Ext.trans {s t u : Store} (a : Ext s t) (b : Ext t u) : Ext s u := ⟨Nat.le_trans a.le b.le, fun k h => (b.get k (Nat.lt_of_lt_of_le h a.le)).trans (a.get k h)⟩
theorem Ext.add (s : Store) (o : Ob) : Ext s (s.add o) := ⟨by rw [Store.add_sz]; omega, fun k h => Store.get_add_lt h⟩
theorem Ext.set {s t : Store} (h : Ext s t) {n : Nat} {o : Ob} (hn : s.sz ≤ n) : Ext s (t.set n o) := ⟨by rw [Store.set_sz]; exact h.le, fun k hk => by rw [Store.get_set_ne (by omega)]; exact h.get k hk⟩
theorem Ext.some {s t : Store} (h : Ext s t) {n : Nat} {o : Ob} (g : s.get n = some o) : t.get n = some o := (h.get n (Store.get_lt g)).trans g
/-- .. but for one place -/
structure ExtB (d : Nat) (s t : Store) : Prop where
  le : s.sz ≤ t.sz
  get : ∀ k, k < s.sz → k ≠ d → t.get k = s.get k
theorem ExtB.refl (d : Nat) (s : Store) : ExtB d s s := ⟨Nat.le_refl _, fun _ _ _ => rfl⟩
theorem ExtB.trans {d : Nat} {s t u : Store} (a : ExtB d s t) (b : ExtB d t u) : ExtB d s u := ⟨Nat.le_trans a.le b.le, fun k h hd => (b.get k (Nat.lt_of_lt_of_le h a.le) hd).trans (a.get k h hd)⟩
theorem Ext.b {d : Nat} {s t : Store} (h : Ext s t) : ExtB d s t := ⟨h.le, fun k hk _ => h.get k hk⟩
theorem ExtB.some {d : Nat} {s t : Store} (h : ExtB d s t) {n : Nat} {o : Ob} (g : s.get n = some o) (hn : n ≠ d) : t.get n = some o := (h.get n (Store.get_lt g) hn).trans g
theorem ExtB.set (d : Nat) (s : Store) (o : Ob) : ExtB d s (s.set d o) := ⟨by rw [Store.set_sz]; omega, fun k hk hd => Store.get_set_ne hd⟩

/-! ### the forms, one by one -/
section
variable {T : Tbl} {F : Nat} {call : Caller} {env : Env} {s : Store} {P : Fl → Store → Prop} {Q : D → Store → Prop} {QX : List D → Store → Prop} {QE : Env → Store → Prop} {a b c : Ex} {es : Xs}
theorem Ok_nil : Ok (exSs T F call .nil env s) P ↔ P (.nx env) s := by simp only [exSs, Ok_ok]
theorem Ok_cons {st : St} {r : Ss} : Ok (exSs T F call (.cons st r) env s) P ↔ Ok (exS T F call st env s) fun f s => match f with | .nx env => Ok (exSs T F call r env s) P | .rt d => P (.rt d) s := by
  simp only [exSs, Ok_bind]
  constructor <;> (intro h; refine h.mono fun f s h => ?_; cases f <;> first | exact h | exact Ok_ok.mp h | exact Ok_ok.mpr h)
theorem Ok_ret : Ok (exS T F call (.ret a) env s) P ↔ Ok (evE T F call a env s) fun d s => P (.rt d) s := by simp only [exS, Ok_bind, Ok_ok]
theorem Ok_ex : Ok (exS T F call (.ex a) env s) P ↔ Ok (evE T F call a env s) fun _ s => P (.nx env) s := by simp only [exS, Ok_bind, Ok_ok]
theorem Ok_asg {t : As} : Ok (exS T F call (.asg t a) env s) P ↔ Ok (evE T F call a env s) fun d s => Ok (asgI T F call t d env s) fun env s => P (.nx env) s := by simp only [exS, Ok_bind, Ok_ok]
theorem Ok_if {x y : Ss} : Ok (exS T F call (.ite a x y) env s) P ↔ Ok (evE T F call a env s) fun d s => Ok (boolOf d s) fun k s => if k = true then Ok (exSs T F call x env s) P else Ok (exSs T F call y env s) P := by
  simp only [exS, Ok_bind]
  constructor <;> (intro h; refine h.mono fun d s h => h.mono fun k s h => ?_; cases k <;> exact h)
theorem Ok_par {is : List Nat} : Ok (exS T F call (.par is es) env s) P ↔ Ok (evX T F call es env s) fun ds s => ds.length = is.length ∧ P (.nx (setAll is ds env)) s := by
  simp only [exS, Ok_bind]
  constructor
  · intro h
    refine h.mono fun ds s h => ?_
    split at h
    · exact ⟨by assumption, Ok_ok.mp h⟩
    · obtain ⟨_, _, e, _⟩ := h; cases e
  · intro h
    refine h.mono fun ds s h => ?_
    rw [if_pos h.1]
    exact Ok_ok.mpr h.2
theorem Ok_while {x : Ss} : Ok (exS T F call (.whl a x) env s) P ↔ Ok (loop (fun env s => (evE T F call a env s).bind fun x s => boolOf x s) (fun env s => exSs T F call x env s) F env s) P := by simp only [exS]
/-- a loop's body -/
def bodyF (T : Tbl) (F : Nat) (call : Caller) (t : Tg) (b : Ss) : D → Env → Store → R Fl := fun d env s => match setTg t d env with
  | some e => exSs T F call b e s
  | none => .stuck
theorem Ok_for {t : Tg} {k : Itk} {x : Ss} : Ok (exS T F call (.for t k es x) env s) P ↔ Ok (evX T F call es env s) fun ds s => Ok (R.unl (lockOf k ds s) (turns k ds (bodyF T F call t x) F 0 env (lock (lockOf k ds s) s))) P := by
  simp only [exS, Ok_bind]
  exact Iff.rfl
theorem Ok_nm {i : Nat} {d : D} : Ok (asgI T F call (.nm i) d env s) QE ↔ QE (env.set i (some d)) s := by simp only [asgI, Ok_ok]
theorem Ok_sub {d : D} : Ok (asgI T F call (.sub a b) d env s) QE ↔ Ok (evE T F call a env s) fun x s => Ok (evE T F call b env s) fun y s => Ok (setItemV x y d s) fun _ s => QE env s := by simp only [asgI, Ok_bind, Ok_ok]
theorem Ok_tp2 {i j : Nat} {x y : D} : Ok (asgI T F call (.tp (.cons (.nm i) (.cons (.nm j) .nil))) (.tup [x, y]) env s) QE ↔ QE ((env.set i (some x)).set j (some y)) s := by
  simp only [asgI, asgs, Ats.len, List.length_cons, List.length_nil, if_true, Ok_bind, Ok_ok]
theorem Ok_c {d : D} : Ok (evE T F call (.c d) env s) Q ↔ Q d s := by simp only [evE, Ok_ok]
theorem Ok_v {i : Nat} : Ok (evE T F call (.v i) env s) Q ↔ match env[i]? with | some (some d) => Q d s | _ => False := by
  simp only [evE]
  cases env[i]? with
  | none => exact ⟨(fun ⟨_, _, e, _⟩ => nomatch e), (fun h => False.elim h)⟩
  | some o =>
    cases o with
    | none => exact ⟨(fun ⟨_, _, e, _⟩ => nomatch e), (fun h => False.elim h)⟩
    | some d => exact Ok_ok
theorem Ok_bin {o : Bop} : Ok (evE T F call (.bin o a b) env s) Q ↔ Ok (evE T F call a env s) fun x s => Ok (evE T F call b env s) fun y s => Ok (binV o x y s) Q := by simp only [evE, Ok_bind]
theorem Ok_cmp {o : Cop} : Ok (evE T F call (.cmp o a b) env s) Q ↔ Ok (evE T F call a env s) fun x s => Ok (evE T F call b env s) fun y s => Ok (cmpC T call o x y s) Q := by simp only [evE, Ok_bind]
theorem Ok_and : Ok (evE T F call (.and a b) env s) Q ↔ Ok (evE T F call a env s) fun x s => Ok (boolOf x s) fun k s => if k = true then Ok (evE T F call b env s) Q else Q (.bl false) s := by
  simp only [evE, Ok_bind]
  constructor <;> (intro h; refine h.mono fun d s h => h.mono fun k s h => ?_; cases k <;> first | exact h | exact Ok_ok.mp h | exact Ok_ok.mpr h)
theorem Ok_or : Ok (evE T F call (.or a b) env s) Q ↔ Ok (evE T F call a env s) fun x s => Ok (boolOf x s) fun k s => if k = true then Q (.bl true) s else Ok (evE T F call b env s) Q := by
  simp only [evE, Ok_bind]
  constructor <;> (intro h; refine h.mono fun d s h => h.mono fun k s h => ?_; cases k <;> first | exact h | exact Ok_ok.mp h | exact Ok_ok.mpr h)
theorem Ok_not : Ok (evE T F call (.not a) env s) Q ↔ Ok (evE T F call a env s) fun x s => Ok (boolOf x s) fun k s => Q (.bl !k) s := by simp only [evE, Ok_bind, Ok_ok]
theorem Ok_ite : Ok (evE T F call (.ite a b c) env s) Q ↔ Ok (evE T F call a env s) fun x s => Ok (boolOf x s) fun k s => if k = true then Ok (evE T F call b env s) Q else Ok (evE T F call c env s) Q := by
  simp only [evE, Ok_bind]
  constructor <;> (intro h; refine h.mono fun d s h => h.mono fun k s h => ?_; cases k <;> exact h)
theorem Ok_sub' : Ok (evE T F call (.sub a b) env s) Q ↔ Ok (evE T F call a env s) fun x s => Ok (evE T F call b env s) fun y s => Ok (subV x y s) Q := by simp only [evE, Ok_bind]
theorem Ok_tup : Ok (evE T F call (.tup es) env s) Q ↔ Ok (evX T F call es env s) fun ds s => ds.length ≤ line ∧ Q (.tup ds) s := by
  simp only [evE, Ok_bind]
  constructor
  · intro h
    refine h.mono fun ds s h => ?_
    split at h
    · exact ⟨by assumption, Ok_ok.mp h⟩
    · obtain ⟨_, _, e, _⟩ := h; cases e
  · intro h
    refine h.mono fun ds s h => ?_
    rw [if_pos h.1]
    exact Ok_ok.mpr h.2
theorem Ok_lst : Ok (evE T F call (.lst es) env s) Q ↔ Ok (evX T F call es env s) fun ds s => ds.length ≤ line ∧ Q (.ref s.sz) (s.add (.lst ds)) := by
  simp only [evE, Ok_bind]
  constructor
  · intro h
    refine h.mono fun ds s h => ?_
    split at h
    · exact ⟨by assumption, Ok_ok.mp h⟩
    · obtain ⟨_, _, e, _⟩ := h; cases e
  · intro h
    refine h.mono fun ds s h => ?_
    rw [if_pos h.1]
    exact Ok_ok.mpr h.2
theorem Ok_dct : Ok (evE T F call (.dct es) env s) Q ↔ Ok (evX T F call es env s) fun ds s => Ok (mkDict ds s.sz (s.add (.dct false []))) Q := by simp only [evE, Ok_bind]
theorem Ok_callE {f : Nat} : Ok (evE T F call (.call f es) env s) Q ↔ Ok (evX T F call es env s) fun ds s => Ok (call f ds s) Q := by simp only [evE, Ok_bind]
theorem Ok_blt {f : Blt} : Ok (evE T F call (.blt f es) env s) Q ↔ Ok (evX T F call es env s) fun ds s => Ok (bltV f ds s) Q := by simp only [evE, Ok_bind]
theorem Ok_bm {m : Bm} : Ok (evE T F call (.bm m a es) env s) Q ↔ Ok (evE T F call a env s) fun x s => recvOk m x s = true ∧ Ok (evX T F call es env s) fun ds s => Ok (bmV m x ds s) Q := by
  simp only [evE, Ok_bind]
  constructor
  · intro h
    refine h.mono fun x s h => ?_
    split at h
    · exact ⟨by assumption, Ok_bind.mp h⟩
    · obtain ⟨_, _, e, _⟩ := h; cases e
  · intro h
    refine h.mono fun x s h => ?_
    rw [if_pos h.1]
    exact Ok_bind.mpr h.2
theorem Ok_sl {hl hh : Bool} : Ok (evE T F call (.sl a hl b hh c) env s) Q ↔ Ok (evE T F call a env s) fun x s => Ok (if hl then (evE T F call b env s).bind partV else .ok none s) fun l s => Ok (if hh then (evE T F call c env s).bind partV else .ok none s) fun h s => Ok (slV x l h s) Q := by simp only [evE, Ok_bind]
/-- a comprehension's turn -/
def bodyL (T : Tbl) (F : Nat) (call : Caller) (own : List Nat) (t : Tg) (cond elt : Ex) (env : Env) : D → List D → Store → R (List D) := fun d acc s => match setTg t d (wipeE env own) with
  | some e => (evE T F call cond e s).bind fun x s => (boolOf x s).bind fun b s =>
      if b then (evE T F call elt e s).bind fun y s => if acc.length < line then .ok (acc ++ [y]) s else .stuck else .ok acc s
  | none => .stuck
theorem Ok_lc {own : List Nat} {t : Tg} {k : Itk} : Ok (evE T F call (.lc own t k es a b) env s) Q ↔ Ok (evX T F call es env s) fun ds s => Ok (R.unl (lockOf k ds s) ((walk k ds (bodyL T F call own t a b env) F 0 [] (lock (lockOf k ds s) s)).noexc.bind fun acc s => .ok (.ref s.sz) (s.add (.lst acc)))) Q := by
  simp only [evE, Ok_bind]
  exact Iff.rfl
theorem Ok_x0 : Ok (evX T F call .nil env s) QX ↔ QX [] s := by simp only [evX, Ok_ok]
theorem Ok_x1 : Ok (evX T F call (.cons false a es) env s) QX ↔ Ok (evE T F call a env s) fun x s => Ok (evX T F call es env s) fun ys s => QX (x :: ys) s := by
  simp only [evX, Ok_bind, if_false, Bool.false_eq_true, Ok_ok]
theorem Ok_bool {k : Bool} {R : Bool → Store → Prop} : Ok (boolOf (.bl k) s) R ↔ R k s := by simp only [boolOf, Ok_ok]
end
theorem Ok_unl0 {α : Type} {r : R α} {P : α → Store → Prop} : Ok (R.unl none r) P ↔ Ok r P := by
  cases r with
  | ok a s => exact Iff.rfl
  | exc c x s => exact ⟨(fun ⟨_, _, e, _⟩ => nomatch e), (fun ⟨_, _, e, _⟩ => nomatch e)⟩
  | stuck => exact Iff.rfl
theorem lockOf_str {k : Itk} {x : List Nat} {s : Store} : lockOf k [.str x] s = none := rfl
theorem lockOf_tup {k : Itk} {x : List D} {s : Store} : lockOf k [.tup x] s = none := rfl
theorem lockOf_int {k : Itk} {x : Int} {s : Store} : lockOf k [.int x] s = none := rfl
theorem lockOf_two {k : Itk} {a b : D} {s : Store} : lockOf k [a, b] s = none := by cases a <;> rfl
theorem lockOf_lst {k : Itk} {n : Nat} {s : Store} {xs : List D} (h : s.get n = some (.lst xs)) : lockOf k [.ref n] s = none := by simp only [lockOf, h]
theorem lock_none {s : Store} : lock none s = s := rfl
theorem Ok_eq {α : Type} {r : R α} {a : α} {s : Store} : Ok r (fun x t => x = a ∧ t = s) ↔ r = .ok a s :=
  ⟨fun ⟨_, _, e, h, h'⟩ => by subst h; subst h'; exact e, fun h => ⟨a, s, h, rfl, rfl⟩⟩

/-! ### loops by what is left -/
theorem turns_rem {k : Itk} {ds xs : List D} {f : D → Env → Store → R Fl} {P : Fl → Store → Prop} {n : Nat} {env : Env} {st : Store} (J : List D → Env → Store → Prop)
    (hit : ∀ i r env s, J r env s → itAt k ds i s = nth xs i id)
    (step : ∀ x r env st, J (x :: r) env st → Ok (f x env st) fun fl s => match fl with | .nx env' => J r env' s | .rt d => P (.rt d) s)
    (done : ∀ env st, J [] env st → P (.nx env) st) (hn : xs.length < n) (h : J xs env st) : Ok (turns k ds f n 0 env st) P := by
  refine turns_ok (xs := xs) (fun i env s => J (xs.drop i) env s) (fun i env s h => hit i _ env s h) (fun i x env st hx h => ?_) (fun env st h => ?_) n 0 env st (Nat.zero_le _) (by omega) (by simpa using h)
  · obtain ⟨hl, e⟩ := List.getElem?_eq_some_iff.mp hx
    rw [List.drop_eq_getElem_cons hl, e] at h
    exact step x _ env st h
  · rw [List.drop_length] at h
    exact done env st h
theorem walk_rem {α : Type} {k : Itk} {ds xs : List D} {f : D → α → Store → R α} {P : α → Store → Prop} {n : Nat} {a : α} {st : Store} (J : List D → α → Store → Prop)
    (hit : ∀ i r a s, J r a s → itAt k ds i s = nth xs i id)
    (step : ∀ x r a st, J (x :: r) a st → Ok (f x a st) fun a' s => J r a' s)
    (done : ∀ a st, J [] a st → P a st) (hn : xs.length < n) (h : J xs a st) : Ok (walk k ds f n 0 a st) P := by
  refine walk_ok (xs := xs) (fun i a s => J (xs.drop i) a s) (fun i a s h => hit i _ a s h) (fun i x a st hx h => ?_) (fun a st h => ?_) n 0 a st (Nat.zero_le _) (by omega) (by simpa using h)
  · obtain ⟨hl, e⟩ := List.getElem?_eq_some_iff.mp hx
    rw [List.drop_eq_getElem_cons hl, e] at h
    exact step x _ a st h
  · rw [List.drop_length] at h
    exact done a st h
theorem it_str {x : List Nat} {i : Nat} {s : Store} : itAt .val [.str x] i s = nth (x.map fun c => .str [c]) i id := by
  show nth x i _ = _
  unfold nth
  rw [List.getElem?_map]
  cases x[i]? <;> rfl
theorem it_tup {xs : List D} {i : Nat} {s : Store} : itAt .val [.tup xs] i s = nth xs i id := rfl
theorem it_lst {n : Nat} {xs : List D} {i : Nat} {s : Store} (g : s.get n = some (.lst xs)) : itAt .val [.ref n] i s = nth xs i id := by
  unfold itAt; simp only
  unfold itVal; simp only [g]
theorem it_rg {m : Nat} {i : Nat} {s : Store} (h : m < 4611686018427387904) : itAt .rng [.int m] i s = nth ((List.range m).map fun (i : Nat) => D.int i) i id := by
  unfold itAt; simp only
  rw [if_pos (by omega)]
  unfold nth
  rw [List.getElem?_map]
  by_cases hi : i < m
  · rw [if_pos (by omega), List.getElem?_range hi]; rfl
  · rw [if_neg (by omega), List.getElem?_eq_none (by simpa using hi)]; rfl
theorem it_zip2 {xs ys : List D} {i : Nat} {s : Store} : itAt .zip [.tup xs, .tup ys] i s = nth (List.zipWith (fun a b => D.tup [a, b]) xs ys) i id := by
  unfold itAt; simp only
  unfold nth
  rw [List.getElem?_zipWith]
  cases xs[i]? <;> cases ys[i]? <;> rfl
/-! ### values -/
theorem Ok_ofOpt {α : Type} {o : Option α} {s : Store} {P : α → Store → Prop} : Ok (ofOpt o s) P ↔ ∃ a, o = some a ∧ P a s := by
  cases o with
  | none => exact ⟨(fun ⟨_, _, e, _⟩ => nomatch e), (fun ⟨_, e, _⟩ => nomatch e)⟩
  | some a => exact ⟨fun h => ⟨a, rfl, Ok_ok.mp h⟩, fun ⟨b, e, h⟩ => by cases e; exact Ok_ok.mpr h⟩
theorem Ok_iff {α : Type} {c : Prop} [Decidable c] {a : α} {s : Store} {P : α → Store → Prop} : Ok (if c then .ok a s else .stuck) P ↔ c ∧ P a s := by
  by_cases h : c
  · rw [if_pos h, Ok_ok]; exact ⟨fun p => ⟨h, p⟩, fun p => p.2⟩
  · rw [if_neg h]; exact ⟨(fun ⟨_, _, e, _⟩ => nomatch e), (fun p => absurd p.1 h)⟩
section
variable {s : Store} {Q : D → Store → Prop}
theorem Ok_addI {i j : Int} : Ok (binV .add (.int i) (.int j) s) Q ↔ Q (.int (i + j)) s := Ok_ok
theorem Ok_subI {i j : Int} : Ok (binV .sub (.int i) (.int j) s) Q ↔ Q (.int (i - j)) s := Ok_ok
theorem Ok_addS {x y : List Nat} : Ok (binV .add (.str x) (.str y) s) Q ↔ x.length + y.length ≤ line ∧ Q (.str (x ++ y)) s := Ok_iff
theorem Ok_mulI {i j : Int} : Ok (binV .mul (.int i) (.int j) s) Q ↔ (small64 i || small64 j) = true ∧ Q (.int (i * j)) s := Ok_iff
theorem Ok_modI {i j : Int} : Ok (binV .mod (.int i) (.int j) s) Q ↔ 0 < j ∧ Q (.int (i % j)) s := Ok_iff
theorem Ok_fdivI {i j : Int} : Ok (binV .fdiv (.int i) (.int j) s) Q ↔ (0 < j ∧ j < 1073741824) ∧ Q (.int (i / j)) s := Ok_iff
theorem Ok_mulT {x : List D} {n : Int} : Ok (binV .mul (.tup x) (.int n) s) Q ↔ (x.length ≤ 1000 ∧ small3 n = true) ∧ Q (.tup (rep n.toNat x)) s := Ok_iff
theorem Ok_addL {m n : Nat} {x y : List D} (h1 : s.get m = some (.lst x)) (h2 : s.get n = some (.lst y)) : Ok (binV .add (.ref m) (.ref n) s) Q ↔ x.length + y.length ≤ line ∧ Q (.ref s.sz) (s.add (.lst (x ++ y))) := by
  show Ok (match s.get m, s.get n with | some (.lst x), some (.lst y) => _ | _, _ => _) Q ↔ _
  rw [h1, h2]
  exact Ok_iff
theorem Ok_lenT {x : List D} : Ok (bltV .len [.tup x] s) Q ↔ Q (.int x.length) s := Ok_ok
theorem Ok_lenS {x : List Nat} : Ok (bltV .len [.str x] s) Q ↔ x.length ≤ line ∧ Q (.int x.length) s := Ok_iff
theorem Ok_lenL {n : Nat} {x : List D} (h : s.get n = some (.lst x)) : Ok (bltV .len [.ref n] s) Q ↔ Q (.int x.length) s := by
  show Ok (match s.get n with | some (.lst xs) => _ | some (.flst xs) => _ | some (.dct _ kvs) => _ | _ => _) Q ↔ _
  rw [h]; exact Ok_ok
theorem Ok_intI {i : Int} : Ok (bltV .int [.int i] s) Q ↔ Q (.int i) s := Ok_ok
theorem Ok_tupL {n : Nat} {x : List D} (h : s.get n = some (.lst x)) : Ok (bltV .tuple [.ref n] s) Q ↔ Q (.tup x) s := by
  show Ok (match s.get n with | some (.lst xs) => _ | _ => _) Q ↔ _
  rw [h]; exact Ok_ok
theorem Ok_app {n : Nat} {x : D} {xs : List D} (h : s.get n = some (.lst xs)) : Ok (bmV .append (.ref n) [x] s) Q ↔ xs.length < line ∧ Q .non (s.set n (.lst (xs ++ [x]))) := by
  show Ok (match s.get n with | some (.lst xs) => _ | _ => _) Q ↔ _
  rw [h]; exact Ok_iff
theorem recv_lst {m : Bm} {n : Nat} {xs : List D} (hm : m = .append ∨ m = .pop ∨ m = .extend ∨ m = .clear ∨ m = .reverse) (h : s.get n = some (.lst xs)) : recvOk m (.ref n) s = true := by
  rcases hm with rfl | rfl | rfl | rfl | rfl <;> simp only [recvOk, h]
end
end VI
namespace Lk02
open PySem PySem.Spec PyProof.Rows L2 VI
def top (i : Nat) : Stmt := PySem.Challenge.pw_turnedends_k02_whole_standings.main.body.getD i (.Pass ⟨0, 0, 0, 0⟩)
def d_check_way : Df := ⟨"check_way", ["way", "word"], ["way"], top 11⟩
def d_start_of : Df := ⟨"start_of", ["way"], ["way"], top 12⟩
def d_left : Df := ⟨"left", ["word"], ["word"], top 13⟩
def d_sign_by : Df := ⟨"sign_by", ["word", "is_held", "sign"], ["word", "is_held", "sign"], top 14⟩
def d_text_by : Df := ⟨"text_by", ["word", "is_held", "text", "found", "sign", "some"], ["word", "is_held", "text"], top 15⟩
def d_read_by : Df := ⟨"read_by", ["way", "standing", "text", "late", "word", "is_held"], ["way", "standing", "text"], top 16⟩
def d_ended : Df := ⟨"ended", ["way", "standing", "text", "word", "is_held"], ["way", "standing"], top 17⟩
def d_check_standing : Df := ⟨"check_standing", ["way", "standing", "word", "is_held"], ["way", "standing"], top 18⟩
def d_first_standing : Df := ⟨"first_standing", ["way"], ["way"], top 19⟩
def d_read : Df := ⟨"read", ["way", "standing", "sign"], ["way", "standing", "sign"], top 20⟩
def d_at_end : Df := ⟨"at_end", ["way", "standing"], ["way", "standing"], top 21⟩
def d_all_standings : Df := ⟨"all_standings", ["way", "found", "line", "standing", "sign", "late"], ["way"], top 22⟩
def d__law_number : Df := ⟨"_law_number", ["script", "index", "cells", "cell", "total", "blend", "low", "high"], ["script", "index"], top 24⟩
def d__law_take : Df := ⟨"_law_take", ["draw", "many"], ["draw", "many"], top 25⟩
def d__law_pick : Df := ⟨"_law_pick", ["draw", "things"], ["draw", "things"], top 26⟩
def d__law_way : Df := ⟨"_law_way", ["draw", "most", "words", "place"], ["draw", "most"], top 27⟩
def d__law_sign : Df := ⟨"_law_sign", ["word", "is_held", "sign", "lone"], ["word", "is_held", "sign"], top 33⟩
def d__law_read : Df := ⟨"_law_read", ["way", "standing", "text", "late", "word", "is_held", "found", "sign", "some"], ["way", "standing", "text"], top 34⟩
def d__law_end : Df := ⟨"_law_end", ["way", "standing", "text", "word", "is_held", "found", "sign", "some"], ["way", "standing"], top 35⟩
def d__law_first : Df := ⟨"_law_first", ["way"], ["way"], top 36⟩
def d__law_any_standing : Df := ⟨"_law_any_standing", ["draw", "way", "word"], ["draw", "way"], top 38⟩
def d__law_reach : Df := ⟨"_law_reach", ["way", "found", "waiting", "standing", "sign"], ["way"], top 39⟩
def d_law : Df := ⟨"law", ["script", "draw", "turn", "way", "standing", "every", "due", "sign", "again"], ["script"], top 40⟩
def tx : Tx := ⟨[d_check_way, d_start_of, d_left, d_sign_by, d_text_by, d_read_by, d_ended, d_check_standing, d_first_standing, d_read, d_at_end, d_all_standings, d__law_number, d__law_take, d__law_pick, d__law_way, d__law_sign, d__law_read, d__law_end, d__law_first, d__law_any_standing, d__law_reach, d_law], [("MOST_CONVERSIONS", .int 6), ("CONVERSIONS", .tup [.str [97, 108, 108], .str [98, 111, 116, 104], .str [99, 97, 114, 101], .str [108, 111, 110, 101], .str [108, 111, 110, 101, 115], .str [112, 97, 105, 114, 115]]), ("SIGNS", .str [97, 110, 114]), ("STANDING", .tup [.str [98, 111, 116, 104], .str [99, 97, 114, 101], .str [108, 111, 110, 101, 115], .str [112, 97, 105, 114, 115]]), ("HOLDING", .tup [.str [98, 111, 116, 104], .str [108, 111, 110, 101, 115], .str [112, 97, 105, 114, 115]])], ["range", "tuple", "int", "sum", "len", "all", "isinstance", "str", "list", "zip", "bool"]⟩

def b_check_way : Ss := (.cons (.ite (.or (.not (.blt (.isi [.tuple]) (.cons false (.v 0) .nil))) (.cmp .gt (.blt .len (.cons false (.v 0) .nil)) (.c (.int 6)))) (.cons .bad .nil) .nil) (.cons (.ite (.not (.blt .all (.cons false (.lc [1] (.nm 1) .val (.cons false (.v 0) .nil) (.c (.bl true)) (.and (.blt (.isi [.str]) (.cons false (.v 1) .nil)) (.cmp .inn (.v 1) (.c (.tup [.str [97, 108, 108], .str [98, 111, 116, 104], .str [99, 97, 114, 101], .str [108, 111, 110, 101], .str [108, 111, 110, 101, 115], .str [112, 97, 105, 114, 115]]))))) .nil))) (.cons .bad .nil) .nil) .nil))
def b_start_of : Ss := (.cons (.ret (.bin .mul (.tup (.cons false (.c (.bl false)) .nil)) (.blt .len (.cons false (.v 0) .nil)))) .nil)
def b_left : Ss := (.cons (.ret (.ite (.cmp .eq (.v 0) (.c (.str [112, 97, 105, 114, 115]))) (.c (.str [114])) (.c (.str [110])))) .nil)
def b_sign_by : Ss := (.cons (.ite (.cmp .eq (.v 0) (.c (.str [97, 108, 108]))) (.cons (.ret (.tup (.cons false (.c (.bl false)) (.cons false (.ite (.cmp .eq (.v 2) (.c (.str [110]))) (.c (.str [114, 110])) (.v 2)) .nil)))) .nil) .nil) (.cons (.ite (.cmp .eq (.v 0) (.c (.str [108, 111, 110, 101]))) (.cons (.ret (.tup (.cons false (.c (.bl false)) (.cons false (.ite (.cmp .eq (.v 2) (.c (.str [110]))) (.c (.str [114])) (.v 2)) .nil)))) .nil) .nil) (.cons (.ite (.cmp .eq (.v 0) (.c (.str [99, 97, 114, 101]))) (.cons (.ret (.tup (.cons false (.cmp .eq (.v 2) (.c (.str [114]))) (.cons false (.ite (.and (.cmp .eq (.v 2) (.c (.str [110]))) (.not (.v 1))) (.c (.str [114, 110])) (.v 2)) .nil)))) .nil) .nil) (.cons (.ite (.cmp .eq (.v 2) (.c (.str [114]))) (.cons (.ret (.tup (.cons false (.c (.bl true)) (.cons false (.ite (.v 1) (.call 2 (.cons false (.v 0) .nil)) (.c (.str []))) .nil)))) .nil) .nil) (.cons (.ite (.not (.v 1)) (.cons (.ret (.tup (.cons false (.c (.bl false)) (.cons false (.v 2) .nil)))) .nil) .nil) (.cons (.ite (.cmp .eq (.v 2) (.c (.str [97]))) (.cons (.ret (.tup (.cons false (.c (.bl false)) (.cons false (.bin .add (.call 2 (.cons false (.v 0) .nil)) (.c (.str [97]))) .nil)))) .nil) .nil) (.cons (.ret (.tup (.cons false (.c (.bl false)) (.cons false (.ite (.cmp .eq (.v 0) (.c (.str [108, 111, 110, 101, 115]))) (.c (.str [114, 110])) (.c (.str [110]))) .nil)))) .nil)))))))
def b_text_by : Ss := (.cons (.asg (.nm 3) (.c (.str []))) (.cons (.for (.nm 4) .val (.cons false (.v 2) .nil) (.cons (.asg (.tp (.cons (.nm 1) (.cons (.nm 5) .nil))) (.call 3 (.cons false (.v 0) (.cons false (.v 1) (.cons false (.v 4) .nil))))) (.cons (.asg (.nm 3) (.bin .add (.v 3) (.v 5))) .nil))) (.cons (.ret (.tup (.cons false (.v 1) (.cons false (.v 3) .nil)))) .nil)))
def b_read_by : Ss := (.cons (.asg (.nm 3) (.lst .nil)) (.cons (.for (.tp [4, 5]) .zip (.cons false (.v 0) (.cons false (.v 1) .nil)) (.cons (.asg (.tp (.cons (.nm 5) (.cons (.nm 2) .nil))) (.call 4 (.cons false (.v 4) (.cons false (.v 5) (.cons false (.v 2) .nil))))) (.cons (.ex (.bm .append (.v 3) (.cons false (.v 5) .nil))) .nil))) (.cons (.ret (.tup (.cons false (.blt .tuple (.cons false (.v 3) .nil)) (.cons false (.v 2) .nil)))) .nil)))
def b_ended : Ss := (.cons (.asg (.nm 2) (.c (.str []))) (.cons (.for (.tp [3, 4]) .zip (.cons false (.v 0) (.cons false (.v 1) .nil)) (.cons (.asg (.tp (.cons (.nm 4) (.cons (.nm 2) .nil))) (.call 4 (.cons false (.v 3) (.cons false (.v 4) (.cons false (.v 2) .nil))))) (.cons (.ite (.and (.v 4) (.cmp .inn (.v 3) (.c (.tup [.str [98, 111, 116, 104], .str [108, 111, 110, 101, 115], .str [112, 97, 105, 114, 115]])))) (.cons (.asg (.nm 2) (.bin .add (.v 2) (.call 2 (.cons false (.v 3) .nil)))) .nil) .nil) .nil))) (.cons (.ret (.v 2)) .nil)))
def b_check_standing : Ss := (.cons (.ex (.call 0 (.cons false (.v 0) .nil))) (.cons (.ite (.or (.not (.blt (.isi [.tuple]) (.cons false (.v 1) .nil))) (.cmp .ne (.blt .len (.cons false (.v 1) .nil)) (.blt .len (.cons false (.v 0) .nil)))) (.cons .bad .nil) .nil) (.cons (.for (.tp [2, 3]) .zip (.cons false (.v 0) (.cons false (.v 1) .nil)) (.cons (.ite (.or (.not (.blt (.isi [.bool]) (.cons false (.v 3) .nil))) (.and (.v 3) (.cmp .notin (.v 2) (.c (.tup [.str [98, 111, 116, 104], .str [99, 97, 114, 101], .str [108, 111, 110, 101, 115], .str [112, 97, 105, 114, 115]]))))) (.cons .bad .nil) .nil) .nil)) .nil)))
def b_first_standing : Ss := (.cons (.ex (.call 0 (.cons false (.v 0) .nil))) (.cons (.ret (.call 1 (.cons false (.v 0) .nil))) .nil))
def b_read : Ss := (.cons (.ex (.call 7 (.cons false (.v 0) (.cons false (.v 1) .nil)))) (.cons (.ite (.or (.not (.blt (.isi [.str]) (.cons false (.v 2) .nil))) (.or (.cmp .ne (.blt .len (.cons false (.v 2) .nil)) (.c (.int 1))) (.cmp .notin (.v 2) (.c (.str [97, 110, 114]))))) (.cons .bad .nil) .nil) (.cons (.ret (.call 5 (.cons false (.v 0) (.cons false (.v 1) (.cons false (.v 2) .nil))))) .nil)))
def b_at_end : Ss := (.cons (.ex (.call 7 (.cons false (.v 0) (.cons false (.v 1) .nil)))) (.cons (.ret (.call 6 (.cons false (.v 0) (.cons false (.v 1) .nil)))) .nil))
def b_all_standings : Ss := (.cons (.ex (.call 0 (.cons false (.v 0) .nil))) (.cons (.par [1, 2] (.cons false (.dct (.cons false (.call 1 (.cons false (.v 0) .nil)) (.cons false (.c (.bl true)) .nil))) (.cons false (.lst (.cons false (.call 1 (.cons false (.v 0) .nil)) .nil)) .nil))) (.cons (.whl (.cmp .ne (.v 2) (.lst .nil)) (.cons (.asg (.nm 3) (.bm .pop (.v 2) (.cons false (.c (.int 0)) .nil))) (.cons (.for (.nm 4) .val (.cons false (.blt .list (.cons false (.c (.str [97, 110, 114])) .nil)) .nil) (.cons (.asg (.nm 5) (.sub (.call 5 (.cons false (.v 0) (.cons false (.v 3) (.cons false (.v 4) .nil)))) (.c (.int 0)))) (.cons (.ite (.cmp .notin (.v 5) (.v 1)) (.cons (.asg (.sub (.v 1) (.v 5)) (.c (.bl true))) (.cons (.ex (.bm .append (.v 2) (.cons false (.v 5) .nil))) .nil)) .nil) .nil))) .nil))) (.cons (.ret (.blt .list (.cons false (.v 1) .nil))) .nil))))
def b__law_number : Ss := (.cons (.asg (.nm 2) (.ite (.cmp .ne (.v 0) (.lst .nil)) (.sl (.v 0) false (.c (.non)) true (.c (.int 63))) (.lst (.cons false (.c (.int 5)) .nil)))) (.cons (.asg (.nm 3) (.bin .add (.sub (.v 2) (.bin .mod (.blt .int (.cons false (.v 1) .nil)) (.blt .len (.cons false (.v 2) .nil)))) (.bin .mul (.c (.int 13)) (.bin .fdiv (.v 1) (.blt .len (.cons false (.v 2) .nil)))))) (.cons (.par [6, 7] (.cons false (.bin .mod (.blt .int (.cons false (.v 3) .nil)) (.c (.int 1000003))) (.cons false (.bin .mod (.blt .int (.cons false (.bin .fdiv (.v 3) (.c (.int 1000003))) .nil)) (.c (.int 999983))) .nil))) (.cons (.asg (.nm 4) (.bin .mod (.blt .int (.cons false (.blt .sum (.cons false (.v 2) .nil)) .nil)) (.c (.int 65521)))) (.cons (.asg (.nm 5) (.bin .mod (.blt .int (.cons false (.bin .add (.bin .add (.bin .mul (.bin .add (.v 6) (.bin .mul (.c (.int 977)) (.v 1))) (.c (.int 48271))) (.bin .mul (.c (.int 31)) (.v 7))) (.v 4)) .nil)) (.c (.int 2147483647)))) (.cons (.ret (.bin .add (.bin .mul (.bin .mod (.blt .int (.cons false (.bin .mul (.v 5) (.bin .add (.bin .add (.v 5) (.bin .mul (.c (.int 31)) (.v 1))) (.c (.int 7)))) .nil)) (.c (.int 2147483629))) (.c (.int 65537))) (.v 7))) .nil))))))
def b__law_take : Ss := (.cons (.asg (.sub (.v 0) (.c (.int 1))) (.bin .add (.sub (.v 0) (.c (.int 1))) (.c (.int 1)))) (.cons (.ret (.bin .mod (.blt .int (.cons false (.call 12 (.cons false (.sub (.v 0) (.c (.int 0))) (.cons false (.blt .int (.cons false (.sub (.v 0) (.c (.int 1))) .nil)) .nil))) .nil)) (.v 1))) .nil))
def b__law_pick : Ss := (.cons (.ret (.sub (.v 1) (.call 13 (.cons false (.v 0) (.cons false (.blt .len (.cons false (.v 1) .nil)) .nil))))) .nil)
def b__law_way : Ss := (.cons (.asg (.nm 2) (.lst (.cons false (.c (.str [97, 108, 108])) (.cons false (.c (.str [98, 111, 116, 104])) (.cons false (.c (.str [99, 97, 114, 101])) (.cons false (.c (.str [108, 111, 110, 101])) (.cons false (.c (.str [108, 111, 110, 101, 115])) (.cons false (.c (.str [112, 97, 105, 114, 115])) .nil)))))))) (.cons (.ret (.blt .tuple (.cons false (.lc [3] (.nm 3) .rng (.cons false (.call 13 (.cons false (.v 0) (.cons false (.bin .add (.v 1) (.c (.int 1))) .nil))) .nil) (.c (.bl true)) (.call 14 (.cons false (.v 0) (.cons false (.bin .add (.v 2) (.lst (.cons false (.c (.str [112, 97, 105, 114, 115])) (.cons false (.c (.str [99, 97, 114, 101])) .nil)))) .nil)))) .nil))) .nil))
def b__law_sign : Ss := (.cons (.ite (.cmp .inn (.v 0) (.tup (.cons false (.c (.str [97, 108, 108])) (.cons false (.c (.str [108, 111, 110, 101])) .nil)))) (.cons (.ret (.tup (.cons false (.c (.bl false)) (.cons false (.ite (.cmp .ne (.v 2) (.c (.str [110]))) (.v 2) (.ite (.cmp .eq (.v 0) (.c (.str [97, 108, 108]))) (.c (.str [114, 110])) (.c (.str [114])))) .nil)))) .nil) .nil) (.cons (.ite (.cmp .eq (.v 0) (.c (.str [99, 97, 114, 101]))) (.cons (.ret (.tup (.cons false (.cmp .eq (.v 2) (.c (.str [114]))) (.cons false (.ite (.and (.cmp .eq (.v 2) (.c (.str [110]))) (.not (.v 1))) (.c (.str [114, 110])) (.v 2)) .nil)))) .nil) .nil) (.cons (.asg (.nm 3) (.ite (.cmp .eq (.v 0) (.c (.str [112, 97, 105, 114, 115]))) (.c (.str [114])) (.c (.str [110])))) (.cons (.ite (.cmp .eq (.v 2) (.c (.str [114]))) (.cons (.ret (.tup (.cons false (.c (.bl true)) (.cons false (.ite (.v 1) (.v 3) (.c (.str []))) .nil)))) .nil) .nil) (.cons (.ite (.and (.v 1) (.cmp .eq (.v 2) (.c (.str [110])))) (.cons (.ret (.tup (.cons false (.c (.bl false)) (.cons false (.ite (.cmp .eq (.v 0) (.c (.str [108, 111, 110, 101, 115]))) (.c (.str [114, 110])) (.c (.str [110]))) .nil)))) .nil) .nil) (.cons (.ret (.tup (.cons false (.c (.bl false)) (.cons false (.ite (.v 1) (.bin .add (.v 3) (.v 2)) (.v 2)) .nil)))) .nil))))))
def b__law_read : Ss := (.cons (.asg (.nm 3) (.lst .nil)) (.cons (.for (.tp [4, 5]) .zip (.cons false (.v 0) (.cons false (.v 1) .nil)) (.cons (.asg (.nm 6) (.c (.str []))) (.cons (.for (.nm 7) .val (.cons false (.v 2) .nil) (.cons (.asg (.tp (.cons (.nm 5) (.cons (.nm 8) .nil))) (.call 16 (.cons false (.v 4) (.cons false (.v 5) (.cons false (.v 7) .nil))))) (.cons (.asg (.nm 6) (.bin .add (.v 6) (.v 8))) .nil))) (.cons (.ex (.bm .append (.v 3) (.cons false (.v 5) .nil))) (.cons (.asg (.nm 2) (.v 6)) .nil))))) (.cons (.ret (.tup (.cons false (.blt .tuple (.cons false (.v 3) .nil)) (.cons false (.v 2) .nil)))) .nil)))
def b__law_end : Ss := (.cons (.asg (.nm 2) (.c (.str []))) (.cons (.for (.tp [3, 4]) .zip (.cons false (.v 0) (.cons false (.v 1) .nil)) (.cons (.asg (.nm 5) (.c (.str []))) (.cons (.for (.nm 6) .val (.cons false (.v 2) .nil) (.cons (.asg (.tp (.cons (.nm 4) (.cons (.nm 7) .nil))) (.call 16 (.cons false (.v 3) (.cons false (.v 4) (.cons false (.v 6) .nil))))) (.cons (.asg (.nm 5) (.bin .add (.v 5) (.v 7))) .nil))) (.cons (.asg (.nm 2) (.v 5)) (.cons (.ite (.and (.v 4) (.cmp .ne (.v 3) (.c (.str [99, 97, 114, 101])))) (.cons (.asg (.nm 2) (.bin .add (.v 5) (.ite (.cmp .eq (.v 3) (.c (.str [112, 97, 105, 114, 115]))) (.c (.str [114])) (.c (.str [110]))))) .nil) .nil) .nil))))) (.cons (.ret (.v 2)) .nil)))
def b__law_first : Ss := (.cons (.ret (.bin .mul (.tup (.cons false (.c (.bl false)) .nil)) (.blt .len (.cons false (.v 0) .nil)))) .nil)
def b__law_any_standing : Ss := (.cons (.ret (.blt .tuple (.cons false (.lc [2] (.nm 2) .val (.cons false (.v 1) .nil) (.c (.bl true)) (.and (.cmp .notin (.v 2) (.tup (.cons false (.c (.str [97, 108, 108])) (.cons false (.c (.str [108, 111, 110, 101])) .nil)))) (.cmp .eq (.call 13 (.cons false (.v 0) (.cons false (.c (.int 2)) .nil))) (.c (.int 0))))) .nil))) .nil)
def b__law_reach : Ss := (.cons (.par [1, 2] (.cons false (.dct .nil) (.cons false (.lst (.cons false (.call 19 (.cons false (.v 0) .nil)) .nil)) .nil))) (.cons (.whl (.cmp .ne (.v 2) (.lst .nil)) (.cons (.asg (.nm 3) (.bm .pop (.v 2) .nil)) (.cons (.ite (.cmp .notin (.v 3) (.v 1)) (.cons (.asg (.sub (.v 1) (.v 3)) (.c (.bl true))) (.cons (.asg (.nm 2) (.bin .add (.v 2) (.lc [4] (.nm 4) .val (.cons false (.tup (.cons false (.c (.str [97])) (.cons false (.c (.str [110])) (.cons false (.c (.str [114])) .nil)))) .nil) (.c (.bl true)) (.sub (.call 17 (.cons false (.v 0) (.cons false (.v 3) (.cons false (.v 4) .nil)))) (.c (.int 0)))))) .nil)) .nil) .nil))) (.cons (.ret (.blt .list (.cons false (.v 1) .nil))) .nil)))
def b_law : Ss := (.cons (.asg (.nm 1) (.lst (.cons false (.v 0) (.cons false (.c (.int 0)) .nil)))) (.cons (.for (.nm 2) .rng (.cons false (.c (.int 6)) .nil) (.cons (.asg (.nm 3) (.call 15 (.cons false (.v 1) (.cons false (.c (.int 6)) .nil)))) (.cons (.ite (.cmp .ne (.call 8 (.cons false (.v 3) .nil)) (.call 19 (.cons false (.v 3) .nil))) (.cons (.ret (.c (.bl false))) .nil) .nil) (.cons (.asg (.tp (.cons (.nm 5) (.cons (.nm 6) .nil))) (.tup (.cons false (.call 11 (.cons false (.v 3) .nil)) (.cons false (.call 21 (.cons false (.v 3) .nil)) .nil)))) (.cons (.ite (.or (.cmp .ne (.blt .len (.cons false (.v 5) .nil)) (.blt .len (.cons false (.v 6) .nil))) (.not (.blt .all (.cons false (.lc [4] (.nm 4) .val (.cons false (.v 5) .nil) (.c (.bl true)) (.cmp .inn (.v 4) (.v 6))) .nil)))) (.cons (.ret (.c (.bl false))) .nil) .nil) (.cons (.for (.nm 4) .val (.cons false (.bin .add (.lc [8] (.nm 8) .rng (.cons false (.c (.int 4)) .nil) (.c (.bl true)) (.call 20 (.cons false (.v 1) (.cons false (.v 3) .nil)))) (.sl (.v 6) false (.c (.non)) true (.c (.int 6)))) .nil) (.cons (.ite (.cmp .ne (.call 10 (.cons false (.v 3) (.cons false (.v 4) .nil))) (.call 18 (.cons false (.v 3) (.cons false (.v 4) .nil)))) (.cons (.ret (.c (.bl false))) .nil) .nil) (.cons (.for (.nm 7) .val (.cons false (.tup (.cons false (.c (.str [97])) (.cons false (.c (.str [110])) (.cons false (.c (.str [114])) .nil)))) .nil) (.cons (.ite (.cmp .ne (.call 9 (.cons false (.v 3) (.cons false (.v 4) (.cons false (.v 7) .nil)))) (.call 17 (.cons false (.v 3) (.cons false (.v 4) (.cons false (.v 7) .nil))))) (.cons (.ret (.c (.bl false))) .nil) .nil) .nil)) .nil))) .nil)))))) (.cons (.ret (.c (.bl true))) .nil)))
def T : Tbl := ⟨[⟨1, 2, b_check_way⟩, ⟨1, 1, b_start_of⟩, ⟨1, 1, b_left⟩, ⟨3, 3, b_sign_by⟩, ⟨3, 6, b_text_by⟩, ⟨3, 6, b_read_by⟩, ⟨2, 5, b_ended⟩, ⟨2, 4, b_check_standing⟩, ⟨1, 1, b_first_standing⟩, ⟨3, 3, b_read⟩, ⟨2, 2, b_at_end⟩, ⟨1, 6, b_all_standings⟩, ⟨2, 8, b__law_number⟩, ⟨2, 2, b__law_take⟩, ⟨2, 2, b__law_pick⟩, ⟨2, 4, b__law_way⟩, ⟨3, 4, b__law_sign⟩, ⟨3, 9, b__law_read⟩, ⟨2, 8, b__law_end⟩, ⟨1, 1, b__law_first⟩, ⟨2, 3, b__law_any_standing⟩, ⟨1, 5, b__law_reach⟩, ⟨1, 9, b_law⟩], []⟩
theorem c_check_way : dfB tx 60 T 0 d_check_way := ⟨by kernel_rfl, b_check_way, rfl, by kernel_rfl⟩
theorem c_start_of : dfB tx 60 T 1 d_start_of := ⟨by kernel_rfl, b_start_of, rfl, by kernel_rfl⟩
theorem c_left : dfB tx 60 T 2 d_left := ⟨by kernel_rfl, b_left, rfl, by kernel_rfl⟩
theorem c_sign_by : dfB tx 60 T 3 d_sign_by := ⟨by kernel_rfl, b_sign_by, rfl, by kernel_rfl⟩
theorem c_text_by : dfB tx 60 T 4 d_text_by := ⟨by kernel_rfl, b_text_by, rfl, by kernel_rfl⟩
theorem c_read_by : dfB tx 60 T 5 d_read_by := ⟨by kernel_rfl, b_read_by, rfl, by kernel_rfl⟩
theorem c_ended : dfB tx 60 T 6 d_ended := ⟨by kernel_rfl, b_ended, rfl, by kernel_rfl⟩
theorem c_check_standing : dfB tx 60 T 7 d_check_standing := ⟨by kernel_rfl, b_check_standing, rfl, by kernel_rfl⟩
theorem c_first_standing : dfB tx 60 T 8 d_first_standing := ⟨by kernel_rfl, b_first_standing, rfl, by kernel_rfl⟩
theorem c_read : dfB tx 60 T 9 d_read := ⟨by kernel_rfl, b_read, rfl, by kernel_rfl⟩
theorem c_at_end : dfB tx 60 T 10 d_at_end := ⟨by kernel_rfl, b_at_end, rfl, by kernel_rfl⟩
theorem c_all_standings : dfB tx 60 T 11 d_all_standings := ⟨by kernel_rfl, b_all_standings, rfl, by kernel_rfl⟩
theorem c__law_number : dfB tx 60 T 12 d__law_number := ⟨by kernel_rfl, b__law_number, rfl, by kernel_rfl⟩
theorem c__law_take : dfB tx 60 T 13 d__law_take := ⟨by kernel_rfl, b__law_take, rfl, by kernel_rfl⟩
theorem c__law_pick : dfB tx 60 T 14 d__law_pick := ⟨by kernel_rfl, b__law_pick, rfl, by kernel_rfl⟩
theorem c__law_way : dfB tx 60 T 15 d__law_way := ⟨by kernel_rfl, b__law_way, rfl, by kernel_rfl⟩
theorem c__law_sign : dfB tx 60 T 16 d__law_sign := ⟨by kernel_rfl, b__law_sign, rfl, by kernel_rfl⟩
theorem c__law_read : dfB tx 60 T 17 d__law_read := ⟨by kernel_rfl, b__law_read, rfl, by kernel_rfl⟩
theorem c__law_end : dfB tx 60 T 18 d__law_end := ⟨by kernel_rfl, b__law_end, rfl, by kernel_rfl⟩
theorem c__law_first : dfB tx 60 T 19 d__law_first := ⟨by kernel_rfl, b__law_first, rfl, by kernel_rfl⟩
theorem c__law_any_standing : dfB tx 60 T 20 d__law_any_standing := ⟨by kernel_rfl, b__law_any_standing, rfl, by kernel_rfl⟩
theorem c__law_reach : dfB tx 60 T 21 d__law_reach := ⟨by kernel_rfl, b__law_reach, rfl, by kernel_rfl⟩
theorem c_law : dfB tx 60 T 22 d_law := ⟨by kernel_rfl, b_law, rfl, by kernel_rfl⟩
theorem hd : ∀ i d, tx.ds[i]? = some d → dfB tx 60 T i d
  | 0, d, h => by
    have e : d_check_way = d := Option.some.inj h
    subst e
    exact c_check_way
  | 1, d, h => by
    have e : d_start_of = d := Option.some.inj h
    subst e
    exact c_start_of
  | 2, d, h => by
    have e : d_left = d := Option.some.inj h
    subst e
    exact c_left
  | 3, d, h => by
    have e : d_sign_by = d := Option.some.inj h
    subst e
    exact c_sign_by
  | 4, d, h => by
    have e : d_text_by = d := Option.some.inj h
    subst e
    exact c_text_by
  | 5, d, h => by
    have e : d_read_by = d := Option.some.inj h
    subst e
    exact c_read_by
  | 6, d, h => by
    have e : d_ended = d := Option.some.inj h
    subst e
    exact c_ended
  | 7, d, h => by
    have e : d_check_standing = d := Option.some.inj h
    subst e
    exact c_check_standing
  | 8, d, h => by
    have e : d_first_standing = d := Option.some.inj h
    subst e
    exact c_first_standing
  | 9, d, h => by
    have e : d_read = d := Option.some.inj h
    subst e
    exact c_read
  | 10, d, h => by
    have e : d_at_end = d := Option.some.inj h
    subst e
    exact c_at_end
  | 11, d, h => by
    have e : d_all_standings = d := Option.some.inj h
    subst e
    exact c_all_standings
  | 12, d, h => by
    have e : d__law_number = d := Option.some.inj h
    subst e
    exact c__law_number
  | 13, d, h => by
    have e : d__law_take = d := Option.some.inj h
    subst e
    exact c__law_take
  | 14, d, h => by
    have e : d__law_pick = d := Option.some.inj h
    subst e
    exact c__law_pick
  | 15, d, h => by
    have e : d__law_way = d := Option.some.inj h
    subst e
    exact c__law_way
  | 16, d, h => by
    have e : d__law_sign = d := Option.some.inj h
    subst e
    exact c__law_sign
  | 17, d, h => by
    have e : d__law_read = d := Option.some.inj h
    subst e
    exact c__law_read
  | 18, d, h => by
    have e : d__law_end = d := Option.some.inj h
    subst e
    exact c__law_end
  | 19, d, h => by
    have e : d__law_first = d := Option.some.inj h
    subst e
    exact c__law_first
  | 20, d, h => by
    have e : d__law_any_standing = d := Option.some.inj h
    subst e
    exact c__law_any_standing
  | 21, d, h => by
    have e : d__law_reach = d := Option.some.inj h
    subst e
    exact c__law_reach
  | 22, d, h => by
    have e : d_law = d := Option.some.inj h
    subst e
    exact c_law
  | n + 23, d, h => by cases (show (none : Option Df) = some d from h)
theorem bi_check_way : ∀ (kV doc pm : Value) (an : Option Addr) (cdv ct : Value) (us : List Value), us.length = d_check_way.ps.length → bindArgs (PySem.W.fnOf d_check_way.x d_check_way.x (defArgs d_check_way.st) (defBody d_check_way.st) (defScope d_check_way.st) .none kV doc pm an cdv ct) ⟨us, []⟩ = pure (d_check_way.ps.zip us) := fun _ _ _ _ _ _ us hl => match us, hl with | [_], _ => rfl
theorem bi_start_of : ∀ (kV doc pm : Value) (an : Option Addr) (cdv ct : Value) (us : List Value), us.length = d_start_of.ps.length → bindArgs (PySem.W.fnOf d_start_of.x d_start_of.x (defArgs d_start_of.st) (defBody d_start_of.st) (defScope d_start_of.st) .none kV doc pm an cdv ct) ⟨us, []⟩ = pure (d_start_of.ps.zip us) := fun _ _ _ _ _ _ us hl => match us, hl with | [_], _ => rfl
theorem bi_left : ∀ (kV doc pm : Value) (an : Option Addr) (cdv ct : Value) (us : List Value), us.length = d_left.ps.length → bindArgs (PySem.W.fnOf d_left.x d_left.x (defArgs d_left.st) (defBody d_left.st) (defScope d_left.st) .none kV doc pm an cdv ct) ⟨us, []⟩ = pure (d_left.ps.zip us) := fun _ _ _ _ _ _ us hl => match us, hl with | [_], _ => rfl
theorem bi_sign_by : ∀ (kV doc pm : Value) (an : Option Addr) (cdv ct : Value) (us : List Value), us.length = d_sign_by.ps.length → bindArgs (PySem.W.fnOf d_sign_by.x d_sign_by.x (defArgs d_sign_by.st) (defBody d_sign_by.st) (defScope d_sign_by.st) .none kV doc pm an cdv ct) ⟨us, []⟩ = pure (d_sign_by.ps.zip us) := fun _ _ _ _ _ _ us hl => match us, hl with | [_, _, _], _ => rfl
theorem bi_text_by : ∀ (kV doc pm : Value) (an : Option Addr) (cdv ct : Value) (us : List Value), us.length = d_text_by.ps.length → bindArgs (PySem.W.fnOf d_text_by.x d_text_by.x (defArgs d_text_by.st) (defBody d_text_by.st) (defScope d_text_by.st) .none kV doc pm an cdv ct) ⟨us, []⟩ = pure (d_text_by.ps.zip us) := fun _ _ _ _ _ _ us hl => match us, hl with | [_, _, _], _ => rfl
theorem bi_read_by : ∀ (kV doc pm : Value) (an : Option Addr) (cdv ct : Value) (us : List Value), us.length = d_read_by.ps.length → bindArgs (PySem.W.fnOf d_read_by.x d_read_by.x (defArgs d_read_by.st) (defBody d_read_by.st) (defScope d_read_by.st) .none kV doc pm an cdv ct) ⟨us, []⟩ = pure (d_read_by.ps.zip us) := fun _ _ _ _ _ _ us hl => match us, hl with | [_, _, _], _ => rfl
theorem bi_ended : ∀ (kV doc pm : Value) (an : Option Addr) (cdv ct : Value) (us : List Value), us.length = d_ended.ps.length → bindArgs (PySem.W.fnOf d_ended.x d_ended.x (defArgs d_ended.st) (defBody d_ended.st) (defScope d_ended.st) .none kV doc pm an cdv ct) ⟨us, []⟩ = pure (d_ended.ps.zip us) := fun _ _ _ _ _ _ us hl => match us, hl with | [_, _], _ => rfl
theorem bi_check_standing : ∀ (kV doc pm : Value) (an : Option Addr) (cdv ct : Value) (us : List Value), us.length = d_check_standing.ps.length → bindArgs (PySem.W.fnOf d_check_standing.x d_check_standing.x (defArgs d_check_standing.st) (defBody d_check_standing.st) (defScope d_check_standing.st) .none kV doc pm an cdv ct) ⟨us, []⟩ = pure (d_check_standing.ps.zip us) := fun _ _ _ _ _ _ us hl => match us, hl with | [_, _], _ => rfl
theorem bi_first_standing : ∀ (kV doc pm : Value) (an : Option Addr) (cdv ct : Value) (us : List Value), us.length = d_first_standing.ps.length → bindArgs (PySem.W.fnOf d_first_standing.x d_first_standing.x (defArgs d_first_standing.st) (defBody d_first_standing.st) (defScope d_first_standing.st) .none kV doc pm an cdv ct) ⟨us, []⟩ = pure (d_first_standing.ps.zip us) := fun _ _ _ _ _ _ us hl => match us, hl with | [_], _ => rfl
theorem bi_read : ∀ (kV doc pm : Value) (an : Option Addr) (cdv ct : Value) (us : List Value), us.length = d_read.ps.length → bindArgs (PySem.W.fnOf d_read.x d_read.x (defArgs d_read.st) (defBody d_read.st) (defScope d_read.st) .none kV doc pm an cdv ct) ⟨us, []⟩ = pure (d_read.ps.zip us) := fun _ _ _ _ _ _ us hl => match us, hl with | [_, _, _], _ => rfl
theorem bi_at_end : ∀ (kV doc pm : Value) (an : Option Addr) (cdv ct : Value) (us : List Value), us.length = d_at_end.ps.length → bindArgs (PySem.W.fnOf d_at_end.x d_at_end.x (defArgs d_at_end.st) (defBody d_at_end.st) (defScope d_at_end.st) .none kV doc pm an cdv ct) ⟨us, []⟩ = pure (d_at_end.ps.zip us) := fun _ _ _ _ _ _ us hl => match us, hl with | [_, _], _ => rfl
theorem bi_all_standings : ∀ (kV doc pm : Value) (an : Option Addr) (cdv ct : Value) (us : List Value), us.length = d_all_standings.ps.length → bindArgs (PySem.W.fnOf d_all_standings.x d_all_standings.x (defArgs d_all_standings.st) (defBody d_all_standings.st) (defScope d_all_standings.st) .none kV doc pm an cdv ct) ⟨us, []⟩ = pure (d_all_standings.ps.zip us) := fun _ _ _ _ _ _ us hl => match us, hl with | [_], _ => rfl
theorem bi__law_number : ∀ (kV doc pm : Value) (an : Option Addr) (cdv ct : Value) (us : List Value), us.length = d__law_number.ps.length → bindArgs (PySem.W.fnOf d__law_number.x d__law_number.x (defArgs d__law_number.st) (defBody d__law_number.st) (defScope d__law_number.st) .none kV doc pm an cdv ct) ⟨us, []⟩ = pure (d__law_number.ps.zip us) := fun _ _ _ _ _ _ us hl => match us, hl with | [_, _], _ => rfl
theorem bi__law_take : ∀ (kV doc pm : Value) (an : Option Addr) (cdv ct : Value) (us : List Value), us.length = d__law_take.ps.length → bindArgs (PySem.W.fnOf d__law_take.x d__law_take.x (defArgs d__law_take.st) (defBody d__law_take.st) (defScope d__law_take.st) .none kV doc pm an cdv ct) ⟨us, []⟩ = pure (d__law_take.ps.zip us) := fun _ _ _ _ _ _ us hl => match us, hl with | [_, _], _ => rfl
theorem bi__law_pick : ∀ (kV doc pm : Value) (an : Option Addr) (cdv ct : Value) (us : List Value), us.length = d__law_pick.ps.length → bindArgs (PySem.W.fnOf d__law_pick.x d__law_pick.x (defArgs d__law_pick.st) (defBody d__law_pick.st) (defScope d__law_pick.st) .none kV doc pm an cdv ct) ⟨us, []⟩ = pure (d__law_pick.ps.zip us) := fun _ _ _ _ _ _ us hl => match us, hl with | [_, _], _ => rfl
theorem bi__law_way : ∀ (kV doc pm : Value) (an : Option Addr) (cdv ct : Value) (us : List Value), us.length = d__law_way.ps.length → bindArgs (PySem.W.fnOf d__law_way.x d__law_way.x (defArgs d__law_way.st) (defBody d__law_way.st) (defScope d__law_way.st) .none kV doc pm an cdv ct) ⟨us, []⟩ = pure (d__law_way.ps.zip us) := fun _ _ _ _ _ _ us hl => match us, hl with | [_, _], _ => rfl
theorem bi__law_sign : ∀ (kV doc pm : Value) (an : Option Addr) (cdv ct : Value) (us : List Value), us.length = d__law_sign.ps.length → bindArgs (PySem.W.fnOf d__law_sign.x d__law_sign.x (defArgs d__law_sign.st) (defBody d__law_sign.st) (defScope d__law_sign.st) .none kV doc pm an cdv ct) ⟨us, []⟩ = pure (d__law_sign.ps.zip us) := fun _ _ _ _ _ _ us hl => match us, hl with | [_, _, _], _ => rfl
theorem bi__law_read : ∀ (kV doc pm : Value) (an : Option Addr) (cdv ct : Value) (us : List Value), us.length = d__law_read.ps.length → bindArgs (PySem.W.fnOf d__law_read.x d__law_read.x (defArgs d__law_read.st) (defBody d__law_read.st) (defScope d__law_read.st) .none kV doc pm an cdv ct) ⟨us, []⟩ = pure (d__law_read.ps.zip us) := fun _ _ _ _ _ _ us hl => match us, hl with | [_, _, _], _ => rfl
theorem bi__law_end : ∀ (kV doc pm : Value) (an : Option Addr) (cdv ct : Value) (us : List Value), us.length = d__law_end.ps.length → bindArgs (PySem.W.fnOf d__law_end.x d__law_end.x (defArgs d__law_end.st) (defBody d__law_end.st) (defScope d__law_end.st) .none kV doc pm an cdv ct) ⟨us, []⟩ = pure (d__law_end.ps.zip us) := fun _ _ _ _ _ _ us hl => match us, hl with | [_, _], _ => rfl
theorem bi__law_first : ∀ (kV doc pm : Value) (an : Option Addr) (cdv ct : Value) (us : List Value), us.length = d__law_first.ps.length → bindArgs (PySem.W.fnOf d__law_first.x d__law_first.x (defArgs d__law_first.st) (defBody d__law_first.st) (defScope d__law_first.st) .none kV doc pm an cdv ct) ⟨us, []⟩ = pure (d__law_first.ps.zip us) := fun _ _ _ _ _ _ us hl => match us, hl with | [_], _ => rfl
theorem bi__law_any_standing : ∀ (kV doc pm : Value) (an : Option Addr) (cdv ct : Value) (us : List Value), us.length = d__law_any_standing.ps.length → bindArgs (PySem.W.fnOf d__law_any_standing.x d__law_any_standing.x (defArgs d__law_any_standing.st) (defBody d__law_any_standing.st) (defScope d__law_any_standing.st) .none kV doc pm an cdv ct) ⟨us, []⟩ = pure (d__law_any_standing.ps.zip us) := fun _ _ _ _ _ _ us hl => match us, hl with | [_, _], _ => rfl
theorem bi__law_reach : ∀ (kV doc pm : Value) (an : Option Addr) (cdv ct : Value) (us : List Value), us.length = d__law_reach.ps.length → bindArgs (PySem.W.fnOf d__law_reach.x d__law_reach.x (defArgs d__law_reach.st) (defBody d__law_reach.st) (defScope d__law_reach.st) .none kV doc pm an cdv ct) ⟨us, []⟩ = pure (d__law_reach.ps.zip us) := fun _ _ _ _ _ _ us hl => match us, hl with | [_], _ => rfl
theorem bi_law : ∀ (kV doc pm : Value) (an : Option Addr) (cdv ct : Value) (us : List Value), us.length = d_law.ps.length → bindArgs (PySem.W.fnOf d_law.x d_law.x (defArgs d_law.st) (defBody d_law.st) (defScope d_law.st) .none kV doc pm an cdv ct) ⟨us, []⟩ = pure (d_law.ps.zip us) := fun _ _ _ _ _ _ us hl => match us, hl with | [_], _ => rfl
theorem bd : BindOk tx := List.forall_mem_cons.mpr ⟨bi_check_way, List.forall_mem_cons.mpr ⟨bi_start_of, List.forall_mem_cons.mpr ⟨bi_left, List.forall_mem_cons.mpr ⟨bi_sign_by, List.forall_mem_cons.mpr ⟨bi_text_by, List.forall_mem_cons.mpr ⟨bi_read_by, List.forall_mem_cons.mpr ⟨bi_ended, List.forall_mem_cons.mpr ⟨bi_check_standing, List.forall_mem_cons.mpr ⟨bi_first_standing, List.forall_mem_cons.mpr ⟨bi_read, List.forall_mem_cons.mpr ⟨bi_at_end, List.forall_mem_cons.mpr ⟨bi_all_standings, List.forall_mem_cons.mpr ⟨bi__law_number, List.forall_mem_cons.mpr ⟨bi__law_take, List.forall_mem_cons.mpr ⟨bi__law_pick, List.forall_mem_cons.mpr ⟨bi__law_way, List.forall_mem_cons.mpr ⟨bi__law_sign, List.forall_mem_cons.mpr ⟨bi__law_read, List.forall_mem_cons.mpr ⟨bi__law_end, List.forall_mem_cons.mpr ⟨bi__law_first, List.forall_mem_cons.mpr ⟨bi__law_any_standing, List.forall_mem_cons.mpr ⟨bi__law_reach, List.forall_mem_cons.mpr ⟨bi_law, List.forall_mem_nil _⟩⟩⟩⟩⟩⟩⟩⟩⟩⟩⟩⟩⟩⟩⟩⟩⟩⟩⟩⟩⟩⟩⟩
end Lk02
namespace Lk02
open VI
abbrev F : Nat := 4000
abbrev i_left : Nat := 2
abbrev i_read_by : Nat := 5
abbrev i_ended : Nat := 6
abbrev i_check_way : Nat := 0
abbrev i_start_of : Nat := 1
abbrev i_check_standing : Nat := 7
abbrev i_first_standing : Nat := 8
abbrev i_read : Nat := 9
abbrev i_at_end : Nat := 10
abbrev i_all_standings : Nat := 11
abbrev i__law_number : Nat := 12
abbrev i__law_take : Nat := 13
abbrev i__law_pick : Nat := 14
abbrev i__law_way : Nat := 15
abbrev i__law_read : Nat := 17
abbrev i__law_end : Nat := 18
abbrev i__law_first : Nat := 19
abbrev i__law_any_standing : Nat := 20
abbrev i__law_reach : Nat := 21
abbrev i_law : Nat := 22
abbrev i_sign_by : Nat := 3
abbrev i_text_by : Nat := 4
abbrev i__law_sign : Nat := 16
def wAll : List Nat := [97, 108, 108]
def wBoth : List Nat := [98, 111, 116, 104]
def wCare : List Nat := [99, 97, 114, 101]
def wLone : List Nat := [108, 111, 110, 101]
def wLones : List Nat := [108, 111, 110, 101, 115]
def wPairs : List Nat := [112, 97, 105, 114, 115]
def WORDS : List (List Nat) := [wAll, wBoth, wCare, wLone, wLones, wPairs]
def SIGNS : List Nat := [97, 110, 114]
/-- what is given out by a sign -/
def sb (w : List Nat) (h : Bool) (c : Nat) : Bool × List Nat :=
  if w = wAll then (false, if c = 110 then [114, 110] else [c])
  else if w = wLone then (false, if c = 110 then [114] else [c])
  else if w = wCare then (c == 114, if c = 110 ∧ h = false then [114, 110] else [c])
  else
    let l := if w = wPairs then 114 else 110
    if c = 114 then (true, if h then [l] else [])
    else if h = false then (false, [c])
    else if c = 97 then (false, [l, 97])
    else (false, if w = wLones then [114, 110] else [110])
theorem sign_by_ok : ∀ w ∈ WORDS, ∀ h : Bool, ∀ c ∈ SIGNS, ∀ (n : Nat) (st : Store), callI T F (n + 2) i_sign_by [.str w, .bl h, .str [c]] st = .ok (.tup [.bl (sb w h c).1, .str (sb w h c).2]) st := by
  intro w hw h c hc n st
  simp only [WORDS, SIGNS, List.mem_cons, List.not_mem_nil, or_false] at hw hc
  rcases hw with rfl | rfl | rfl | rfl | rfl | rfl <;> rcases hc with rfl | rfl | rfl <;> cases h <;> rfl
theorem law_sign_ok : ∀ w ∈ WORDS, ∀ h : Bool, ∀ c ∈ SIGNS, ∀ (n : Nat) (st : Store), callI T F (n + 1) i__law_sign [.str w, .bl h, .str [c]] st = .ok (.tup [.bl (sb w h c).1, .str (sb w h c).2]) st := by
  intro w hw h c hc n st
  simp only [WORDS, SIGNS, List.mem_cons, List.not_mem_nil, or_false] at hw hc
  rcases hw with rfl | rfl | rfl | rfl | rfl | rfl <;> rcases hc with rfl | rfl | rfl <;> cases h <;> rfl
end Lk02
namespace Lk02
open VI
def tb (w : List Nat) (h : Bool) (x : List Nat) : Bool × List Nat := x.foldl (fun p c => ((sb w p.1 c).1, p.2 ++ (sb w p.1 c).2)) (h, [])
theorem tb_snoc (w : List Nat) (h : Bool) (x : List Nat) (c : Nat) : tb w h (x ++ [c]) = ((sb w (tb w h x).1 c).1, (tb w h x).2 ++ (sb w (tb w h x).1 c).2) := by
  unfold tb
  rw [List.foldl_append]
  rfl
theorem sb_len : ∀ w ∈ WORDS, ∀ h : Bool, ∀ c ∈ SIGNS, (sb w h c).2.length ≤ 2 ∧ ∀ k ∈ (sb w h c).2, k ∈ SIGNS := by
  intro w hw h c hc
  simp only [WORDS, SIGNS, List.mem_cons, List.not_mem_nil, or_false] at hw hc
  rcases hw with rfl | rfl | rfl | rfl | rfl | rfl <;> rcases hc with rfl | rfl | rfl <;> cases h <;> decide
theorem fold_len {w : List Nat} (hw : w ∈ WORDS) : ∀ (x : List Nat) (p : Bool × List Nat), (∀ c ∈ x, c ∈ SIGNS) → (∀ k ∈ p.2, k ∈ SIGNS) → (x.foldl (fun p c => ((sb w p.1 c).1, p.2 ++ (sb w p.1 c).2)) p).2.length ≤ p.2.length + 2 * x.length ∧ ∀ k ∈ (x.foldl (fun p c => ((sb w p.1 c).1, p.2 ++ (sb w p.1 c).2)) p).2, k ∈ SIGNS
  | [], p, _, hp => ⟨Nat.le_refl _, hp⟩
  | c :: r, p, hx, hp => by
    obtain ⟨b1, b2⟩ := sb_len w hw p.1 c (hx c List.mem_cons_self)
    obtain ⟨h1, h2⟩ := fold_len hw r ((sb w p.1 c).1, p.2 ++ (sb w p.1 c).2) (fun k hk => hx k (List.mem_cons_of_mem _ hk)) (fun k hk => by
      rcases List.mem_append.mp hk with z | z
      · exact hp k z
      · exact b2 k z)
    refine ⟨?_, h2⟩
    simp only [List.length_append] at h1
    simp only [List.foldl_cons, List.length_cons]
    omega
theorem tb_len {w : List Nat} (hw : w ∈ WORDS) {h : Bool} {x : List Nat} (hx : ∀ c ∈ x, c ∈ SIGNS) : (tb w h x).2.length ≤ 2 * x.length ∧ ∀ k ∈ (tb w h x).2, k ∈ SIGNS := by
  have := fold_len hw x (h, []) hx (fun k hk => by cases hk)
  unfold tb
  simpa using this

def tbF (w : List Nat) (p : Bool × List Nat) (x : List Nat) : Bool × List Nat := x.foldl (fun p c => ((sb w p.1 c).1, p.2 ++ (sb w p.1 c).2)) p
theorem text_by_ok (w : List Nat) (hw : w ∈ WORDS) (h : Bool) (x : List Nat) (hx : ∀ c ∈ x, c ∈ SIGNS) (hl : x.length ≤ 1000) (n : Nat) (st : Store) :
    callI T F (n + 3) i_text_by [.str w, .bl h, .str x] st = .ok (.tup [.bl (tb w h x).1, .str (tb w h x).2]) st := by
  rw [← Ok_eq]
  refine Ok_call (fn := ⟨3, 6, b_text_by⟩) rfl rfl ?_
  simp only [b_text_by, Ok_nil, Ok_cons, Ok_ret, Ok_ex, Ok_asg, Ok_if, Ok_par, Ok_for, Ok_while, Ok_nm, Ok_sub, Ok_tp2, Ok_c, Ok_v, Ok_bin, Ok_cmp, Ok_and, Ok_or, Ok_not, Ok_ite, Ok_sub', Ok_tup, Ok_lst, Ok_dct, Ok_callE, Ok_blt, Ok_bm, Ok_sl, Ok_lc, Ok_x0, Ok_x1, Ok_bool, Ok_unl0, lock_none, lockOf_str, lockOf_tup, lockOf_int, lockOf_two, Ok_ok, List.map_cons, List.map_nil, List.length_cons, List.length_nil, List.replicate, List.cons_append, List.nil_append, List.set_cons_zero, List.set_cons_succ, List.getElem?_cons_zero, List.getElem?_cons_succ, Nat.reduceAdd, Nat.reduceSub, Nat.reduceLeDiff, if_false, if_true, Bool.false_eq_true, entry, setTg, setAll, wipeE]
  refine turns_rem (xs := x.map fun c => .str [c]) (fun r env s => s = st ∧ ∃ h' out x' u v, r = x'.map (fun c => D.str [c]) ∧ (∀ c ∈ x', c ∈ SIGNS) ∧ out.length + 2 * x'.length ≤ 2000 ∧ tbF w (h', out) x' = tb w h x ∧ env = [some (.str w), some (.bl h'), some (.str x), some (.str out), u, v]) (fun i r env s _ => it_str) ?_ ?_ (by simp [F]; omega) ⟨rfl, h, [], x, none, none, rfl, hx, by simp; omega, rfl, rfl⟩
  · rintro y r env s ⟨rfl, h', out, x', u, v, hr, hs, hb, he, rfl⟩
    cases x' with
    | nil => cases hr
    | cons c x' =>
      cases hr
      have hc := hs c List.mem_cons_self
      have hlen := (sb_len w hw h' c hc).1
      simp only [bodyF, Ok_nil, Ok_cons, Ok_ret, Ok_ex, Ok_asg, Ok_if, Ok_par, Ok_for, Ok_while, Ok_nm, Ok_sub, Ok_tp2, Ok_c, Ok_v, Ok_bin, Ok_cmp, Ok_and, Ok_or, Ok_not, Ok_ite, Ok_sub', Ok_tup, Ok_lst, Ok_dct, Ok_callE, Ok_blt, Ok_bm, Ok_sl, Ok_lc, Ok_x0, Ok_x1, Ok_bool, Ok_unl0, lock_none, lockOf_str, lockOf_tup, lockOf_int, lockOf_two, Ok_ok, List.map_cons, List.map_nil, List.length_cons, List.length_nil, List.replicate, List.cons_append, List.nil_append, List.set_cons_zero, List.set_cons_succ, List.getElem?_cons_zero, List.getElem?_cons_succ, Nat.reduceAdd, Nat.reduceSub, Nat.reduceLeDiff, if_false, if_true, Bool.false_eq_true, entry, setTg, setAll, wipeE]
      refine Ok.eq (sign_by_ok w hw h' c hc n s) ?_
      simp only [Ok_nil, Ok_cons, Ok_ret, Ok_ex, Ok_asg, Ok_if, Ok_par, Ok_for, Ok_while, Ok_nm, Ok_sub, Ok_tp2, Ok_c, Ok_v, Ok_bin, Ok_cmp, Ok_and, Ok_or, Ok_not, Ok_ite, Ok_sub', Ok_tup, Ok_lst, Ok_dct, Ok_callE, Ok_blt, Ok_bm, Ok_sl, Ok_lc, Ok_x0, Ok_x1, Ok_bool, Ok_unl0, lock_none, lockOf_str, lockOf_tup, lockOf_int, lockOf_two, Ok_ok, List.map_cons, List.map_nil, List.length_cons, List.length_nil, List.replicate, List.cons_append, List.nil_append, List.set_cons_zero, List.set_cons_succ, List.getElem?_cons_zero, List.getElem?_cons_succ, Nat.reduceAdd, Nat.reduceSub, Nat.reduceLeDiff, if_false, if_true, Bool.false_eq_true, entry, setTg, setAll, wipeE, Ok_addS]
      refine ⟨by simp only [line]; simp only [List.length_cons] at hb; omega, trivial, _, _, x', _, _, rfl, fun k hk => hs k (List.mem_cons_of_mem _ hk), ?_, he, rfl⟩
      simp only [List.length_append, List.length_cons] at hb ⊢
      omega
  · rintro env s ⟨rfl, h', out, x', u, v, hr, hs, hb, he, rfl⟩
    cases x' with
    | nil =>
      simp only [Ok_nil, Ok_cons, Ok_ret, Ok_ex, Ok_asg, Ok_if, Ok_par, Ok_for, Ok_while, Ok_nm, Ok_sub, Ok_tp2, Ok_c, Ok_v, Ok_bin, Ok_cmp, Ok_and, Ok_or, Ok_not, Ok_ite, Ok_sub', Ok_tup, Ok_lst, Ok_dct, Ok_callE, Ok_blt, Ok_bm, Ok_sl, Ok_lc, Ok_x0, Ok_x1, Ok_bool, Ok_unl0, lock_none, lockOf_str, lockOf_tup, lockOf_int, lockOf_two, Ok_ok, List.map_cons, List.map_nil, List.length_cons, List.length_nil, List.replicate, List.cons_append, List.nil_append, List.set_cons_zero, List.set_cons_succ, List.getElem?_cons_zero, List.getElem?_cons_succ, Nat.reduceAdd, Nat.reduceSub, Nat.reduceLeDiff, if_false, if_true, Bool.false_eq_true, entry, setTg, setAll, wipeE]
      refine ⟨by decide, ?_, trivial⟩
      rw [← he]; rfl
    | cons _ _ => cases hr
def lf (w : List Nat) : Nat := if w = wPairs then 114 else 110
theorem left_ok : ∀ w ∈ WORDS, ∀ (n : Nat) (st : Store), callI T F (n + 1) i_left [.str w] st = .ok (.str [lf w]) st := by
  intro w hw n st
  simp only [WORDS, List.mem_cons, List.not_mem_nil, or_false] at hw
  rcases hw with rfl | rfl | rfl | rfl | rfl | rfl <;> rfl
/-- the standing behind signs, and what is given out -/
def rb : List (List Nat) → List Bool → List Nat → List Bool × List Nat
  | w :: ws, h :: hs, x => ((tb w h x).1 :: (rb ws hs (tb w h x).2).1, (rb ws hs (tb w h x).2).2)
  | _, _, x => ([], x)
def wd (ws : List (List Nat)) : List D := ws.map .str
def bd' (hs : List Bool) : List D := hs.map .bl
theorem zip_nil {ws : List (List Nat)} {hs : List Bool} (h : [] = List.zipWith (fun a b => D.tup [a, b]) (wd ws) (bd' hs)) : ws = [] ∨ hs = [] := by
  cases ws with
  | nil => exact .inl rfl
  | cons _ _ => cases hs with
    | nil => exact .inr rfl
    | cons _ _ => cases h
theorem zip_cons {y : D} {r : List D} {ws : List (List Nat)} {hs : List Bool} (h : y :: r = List.zipWith (fun a b => D.tup [a, b]) (wd ws) (bd' hs)) : ∃ w ws' b hs', ws = w :: ws' ∧ hs = b :: hs' ∧ y = .tup [.str w, .bl b] ∧ r = List.zipWith (fun a b => D.tup [a, b]) (wd ws') (bd' hs') := by
  cases ws with
  | nil => cases h
  | cons w ws => cases hs with
    | nil => cases h
    | cons b hs => cases h; exact ⟨w, ws, b, hs, rfl, rfl, rfl, rfl⟩
theorem rb_end {ws : List (List Nat)} {hs : List Bool} {x : List Nat} (h : ws = [] ∨ hs = []) : rb ws hs x = ([], x) := by
  rcases h with rfl | rfl
  · unfold rb; rfl
  · cases ws <;> rfl
theorem read_by_ok (ws : List (List Nat)) (hw : ∀ w ∈ ws, w ∈ WORDS) (hs : List Bool) (x : List Nat) (hx : ∀ c ∈ x, c ∈ SIGNS) (hl : x.length * 2 ^ ws.length ≤ 1000) (hll : ws.length ≤ 100) (n : Nat) (st : Store) :
    Ok (callI T F (n + 4) i_read_by [.tup (wd ws), .tup (bd' hs), .str x] st) fun v s => v = .tup [.tup (bd' (rb ws hs x).1), .str (rb ws hs x).2] ∧ Ext st s := by
  refine Ok_call (fn := ⟨3, 6, b_read_by⟩) rfl rfl ?_
  simp only [b_read_by, Ok_nil, Ok_cons, Ok_ret, Ok_ex, Ok_asg, Ok_if, Ok_par, Ok_for, Ok_while, Ok_nm, Ok_sub, Ok_tp2, Ok_c, Ok_v, Ok_bin, Ok_cmp, Ok_and, Ok_or, Ok_not, Ok_ite, Ok_sub', Ok_tup, Ok_lst, Ok_dct, Ok_callE, Ok_blt, Ok_bm, Ok_sl, Ok_lc, Ok_x0, Ok_x1, Ok_bool, Ok_unl0, lock_none, lockOf_str, lockOf_tup, lockOf_int, lockOf_two, Ok_ok, List.map_cons, List.map_nil, List.length_cons, List.length_nil, List.replicate, List.cons_append, List.nil_append, List.set_cons_zero, List.set_cons_succ, List.getElem?_cons_zero, List.getElem?_cons_succ, Nat.reduceAdd, Nat.reduceSub, Nat.reduceLeDiff, if_false, if_true, Bool.false_eq_true, entry, setTg, setAll, wipeE]
  refine ⟨by decide, ?_⟩
  refine turns_rem (xs := List.zipWith (fun a b => D.tup [a, b]) (wd ws) (bd' hs)) (fun r env s => ∃ ws' hs' x' acc u v, r = List.zipWith (fun a b => D.tup [a, b]) (wd ws') (bd' hs') ∧ (∀ w ∈ ws', w ∈ WORDS) ∧ (∀ c ∈ x', c ∈ SIGNS) ∧ x'.length * 2 ^ ws'.length ≤ 1000 ∧ acc.length + ws'.length ≤ 100 ∧
    rb ws hs x = (acc ++ (rb ws' hs' x').1, (rb ws' hs' x').2) ∧ Ext st s ∧ st.sz < s.sz ∧ s.get st.sz = some (.lst (bd' acc)) ∧ env = [some (.tup (wd ws)), some (.tup (bd' hs)), some (.str x'), some (.ref st.sz), u, v]) (fun i r env s _ => it_zip2) ?_ ?_ (by simp [F, wd, bd']; omega) ⟨ws, hs, x, [], none, none, rfl, hw, hx, hl, by simpa using hll, by simp, Ext.add _ _, by rw [Store.add_sz]; omega, Store.get_add_self, rfl⟩
  · rintro y r env s ⟨ws', hs', x', acc, u, v, hr, h1, h2, h3, h4, h5, h6, h7, h8, rfl⟩
    obtain ⟨w, ws', b, hs', rfl, rfl, rfl, rfl⟩ := zip_cons hr
    have hwm := h1 w List.mem_cons_self
    have hx1 : x'.length ≤ 1000 := Nat.le_trans (Nat.le_mul_of_pos_right _ (Nat.two_pow_pos _)) h3
    simp only [bodyF, Ok_nil, Ok_cons, Ok_ret, Ok_ex, Ok_asg, Ok_if, Ok_par, Ok_for, Ok_while, Ok_nm, Ok_sub, Ok_tp2, Ok_c, Ok_v, Ok_bin, Ok_cmp, Ok_and, Ok_or, Ok_not, Ok_ite, Ok_sub', Ok_tup, Ok_lst, Ok_dct, Ok_callE, Ok_blt, Ok_bm, Ok_sl, Ok_lc, Ok_x0, Ok_x1, Ok_bool, Ok_unl0, lock_none, lockOf_str, lockOf_tup, lockOf_int, lockOf_two, Ok_ok, List.map_cons, List.map_nil, List.length_cons, List.length_nil, List.replicate, List.cons_append, List.nil_append, List.set_cons_zero, List.set_cons_succ, List.getElem?_cons_zero, List.getElem?_cons_succ, Nat.reduceAdd, Nat.reduceSub, Nat.reduceLeDiff, if_false, if_true, Bool.false_eq_true, entry, setTg, setAll, wipeE, List.zip_cons_cons, List.zip_nil_right, List.foldl_cons, List.foldl_nil]
    refine Ok.eq (text_by_ok w hwm b x' h2 hx1 n s) ?_
    simp only [Ok_nil, Ok_cons, Ok_ret, Ok_ex, Ok_asg, Ok_if, Ok_par, Ok_for, Ok_while, Ok_nm, Ok_sub, Ok_tp2, Ok_c, Ok_v, Ok_bin, Ok_cmp, Ok_and, Ok_or, Ok_not, Ok_ite, Ok_sub', Ok_tup, Ok_lst, Ok_dct, Ok_callE, Ok_blt, Ok_bm, Ok_sl, Ok_lc, Ok_x0, Ok_x1, Ok_bool, Ok_unl0, lock_none, lockOf_str, lockOf_tup, lockOf_int, lockOf_two, Ok_ok, List.map_cons, List.map_nil, List.length_cons, List.length_nil, List.replicate, List.cons_append, List.nil_append, List.set_cons_zero, List.set_cons_succ, List.getElem?_cons_zero, List.getElem?_cons_succ, Nat.reduceAdd, Nat.reduceSub, Nat.reduceLeDiff, if_false, if_true, Bool.false_eq_true, entry, setTg, setAll, wipeE]
    refine ⟨recv_lst (.inl rfl) h8, (Ok_app h8).mpr ⟨by simp only [bd', List.length_map, line]; omega, ?_⟩⟩
    obtain ⟨t1, t2⟩ := tb_len hwm (h := b) h2
    refine ⟨ws', hs', (tb w b x').2, acc ++ [(tb w b x').1], _, _, rfl, fun z hz => h1 z (List.mem_cons_of_mem _ hz), t2, ?_, ?_, ?_, h6.set (Nat.le_refl _), by rw [Store.set_sz]; exact h7, ?_, rfl⟩
    · refine Nat.le_trans (Nat.mul_le_mul_right _ t1) ?_
      rw [List.length_cons, Nat.pow_succ] at h3
      have : 2 * x'.length * 2 ^ ws'.length = x'.length * (2 ^ ws'.length * 2) := by rw [Nat.mul_comm 2, Nat.mul_assoc, Nat.mul_comm 2]
      omega
    · simp only [List.length_append, List.length_cons, List.length_nil] at h4 ⊢; omega
    · rw [h5]; simp [rb]
    · rw [Store.get_set_self h7]; simp [bd']
  · rintro env s ⟨ws', hs', x', acc, u, v, hr, h1, h2, h3, h4, h5, h6, h7, h8, rfl⟩
    rw [rb_end (zip_nil hr)] at h5
    simp only [Ok_nil, Ok_cons, Ok_ret, Ok_ex, Ok_asg, Ok_if, Ok_par, Ok_for, Ok_while, Ok_nm, Ok_sub, Ok_tp2, Ok_c, Ok_v, Ok_bin, Ok_cmp, Ok_and, Ok_or, Ok_not, Ok_ite, Ok_sub', Ok_tup, Ok_lst, Ok_dct, Ok_callE, Ok_blt, Ok_bm, Ok_sl, Ok_lc, Ok_x0, Ok_x1, Ok_bool, Ok_unl0, lock_none, lockOf_str, lockOf_tup, lockOf_int, lockOf_two, Ok_ok, List.map_cons, List.map_nil, List.length_cons, List.length_nil, List.replicate, List.cons_append, List.nil_append, List.set_cons_zero, List.set_cons_succ, List.getElem?_cons_zero, List.getElem?_cons_succ, Nat.reduceAdd, Nat.reduceSub, Nat.reduceLeDiff, if_false, if_true, Bool.false_eq_true, entry, setTg, setAll, wipeE, Ok_tupL h8]
    refine ⟨by decide, ?_, h6⟩
    rw [h5]; simp
end Lk02
namespace VI
/-- data without references, to a depth -/
def gd : Nat → D → Bool
  | _, .non | _, .bl _ | _, .int _ => true
  | _, .str x => x.all goodCp
  | 0, .tup _ => false
  | n + 1, .tup xs => xs.all (gd n)
  | _, .ref _ => false
theorem dat_gd (s : Store) : ∀ (n : Nat) (d : D), gd n d = true → ∃ p, dat n s d = some p
  | n, .non, _ => ⟨.non, by cases n <;> rfl⟩
  | n, .bl b, _ => ⟨.bl b, by cases n <;> rfl⟩
  | n, .int b, _ => ⟨.int b, by cases n <;> rfl⟩
  | n, .str x, h => ⟨.str x, by cases n <;> (unfold gd at h; unfold dat; rw [if_pos h])⟩
  | 0, .tup xs, h => by cases h
  | n + 1, .tup xs, h => by
    have h : xs.all (gd n) = true := h
    have key : ∀ xs : List D, xs.all (gd n) = true → ∃ ps, allOpt (dat n s) xs = some ps := fun xs => by
      induction xs with
      | nil => intro _; exact ⟨[], rfl⟩
      | cons x xs ih =>
        intro h
        rw [List.all_cons, Bool.and_eq_true] at h
        obtain ⟨p, hp⟩ := dat_gd s n x h.1
        obtain ⟨ps, hps⟩ := ih h.2
        exact ⟨p :: ps, by unfold allOpt; rw [hp, hps]⟩
    obtain ⟨ps, hps⟩ := key xs h
    exact ⟨.tup ps, by unfold dat; rw [hps]; rfl⟩
  | n, .ref k, h => by cases n <;> cases h
mutual
theorem Pd.eqv_refl : ∀ a : Pd, a.eqv a = true
  | .non => rfl
  | .bl b => by simp [Pd.eqv]
  | .int b => by simp [Pd.eqv]
  | .str b => by simp [Pd.eqv]
  | .tup xs => by simp only [Pd.eqv]; exact Pd.eqvs_refl xs
  | .lst xs => by simp only [Pd.eqv]; exact Pd.eqvs_refl xs
theorem Pd.eqvs_refl : ∀ a : List Pd, Pd.eqvs a a = true
  | [] => rfl
  | x :: xs => by simp only [Pd.eqvs, Pd.eqv_refl x, Pd.eqvs_refl xs, Bool.and_self]
end
theorem clsAt_gd {s : Store} {n : Nat} {d : D} (h : gd n d = true) : clsAt s d = none := by
  cases d with
  | ref k => cases n <;> cases h
  | _ => rfl
theorem ne_same {T : Tbl} {call : Caller} {s : Store} {d : D} (h : gd 60 d = true) : cmpC T call .ne d d s = .ok (.bl false) s := by
  unfold cmpC
  rw [clsAt_gd h]
  obtain ⟨p, hp⟩ := dat_gd s 60 d h
  show ofOpt ((eqS s d d).map fun b => D.bl !b) s = _
  unfold eqS
  rw [hp]
  simp only [Option.map_some, Pd.eqv_refl]
  rfl
theorem walk_acc {k : Itk} {ds xs : List D} {f : D → List D → Store → R (List D)} {n : Nat} {st : Store} (g : D → D) (hit : ∀ i s, itAt k ds i s = nth xs i id)
    (step : ∀ x ∈ xs, ∀ acc, acc.length ≤ xs.length → f x acc st = .ok (acc ++ [g x]) st) (hn : xs.length < n) : walk k ds f n 0 [] st = .ok (xs.map g) st := by
  rw [← Ok_eq]
  refine walk_rem (xs := xs) (fun r acc s => s = st ∧ ∃ p, xs = p ++ r ∧ acc = p.map g) (fun i r a s _ => hit i s) ?_ ?_ hn ⟨rfl, [], rfl, rfl⟩
  · rintro x r acc s ⟨rfl, p, h1, rfl⟩
    refine Ok.eq (step x (by rw [h1]; simp) _ (by rw [h1]; simp)) ⟨rfl, p ++ [x], by rw [h1]; simp, by simp⟩
  · rintro acc s ⟨rfl, p, h1, rfl⟩
    rw [List.append_nil] at h1
    exact ⟨by rw [h1], rfl⟩
theorem allOpt_true : ∀ (n : Nat), allOpt blOf (List.replicate n (.bl true)) = some (List.replicate n true)
  | 0 => rfl
  | n + 1 => by
    rw [List.replicate_succ, List.replicate_succ]
    unfold allOpt
    rw [allOpt_true n]; rfl
theorem map_const {α : Type} (xs : List α) (d : D) : (xs.map fun _ => d) = List.replicate xs.length d := by
  induction xs with
  | nil => rfl
  | cons x xs ih => rw [List.map_cons, ih]; rfl
theorem Ok_all {s : Store} {Q : D → Store → Prop} {n k : Nat} (h : s.get n = some (.lst (List.replicate k (.bl true)))) : Ok (bltV .all [.ref n] s) Q ↔ Q (.bl true) s := by
  show Ok (match lists? s n with | some xs => _ | none => _) Q ↔ _
  unfold lists?
  rw [h]
  simp only [allOpt_true, Option.map_some, Ok_ofOpt]
  have : (List.replicate k true).all id = true := by rw [List.all_eq_true]; intro x hx; rw [List.mem_replicate] at hx; exact hx.2
  rw [this]
  exact ⟨fun ⟨a, e, h⟩ => by cases e; exact h, fun h => ⟨_, rfl, h⟩⟩
theorem add_get (s : Store) (o : Ob) : (s.add o).get s.sz = some o := Store.get_add_self
end VI
namespace Lk02
open VI
def hold (w : List Nat) : Bool := decide (w = wBoth) || decide (w = wLones) || decide (w = wPairs)
def stan (w : List Nat) : Bool := hold w || decide (w = wCare)
theorem in_conv : ∀ w ∈ WORDS, ∀ (call : Caller) (s : Store), cmpC T call .inn (.str w) (.tup [.str [97, 108, 108], .str [98, 111, 116, 104], .str [99, 97, 114, 101], .str [108, 111, 110, 101], .str [108, 111, 110, 101, 115], .str [112, 97, 105, 114, 115]]) s = .ok (.bl true) s := by
  intro w hw call s
  simp only [WORDS, List.mem_cons, List.not_mem_nil, or_false] at hw
  rcases hw with rfl | rfl | rfl | rfl | rfl | rfl <;> rfl
theorem in_hold : ∀ w ∈ WORDS, ∀ (call : Caller) (s : Store), cmpC T call .inn (.str w) (.tup [.str [98, 111, 116, 104], .str [108, 111, 110, 101, 115], .str [112, 97, 105, 114, 115]]) s = .ok (.bl (hold w)) s := by
  intro w hw call s
  simp only [WORDS, List.mem_cons, List.not_mem_nil, or_false] at hw
  rcases hw with rfl | rfl | rfl | rfl | rfl | rfl <;> rfl
theorem in_stan : ∀ w ∈ WORDS, ∀ (call : Caller) (s : Store), cmpC T call .notin (.str w) (.tup [.str [98, 111, 116, 104], .str [99, 97, 114, 101], .str [108, 111, 110, 101, 115], .str [112, 97, 105, 114, 115]]) s = .ok (.bl !(stan w)) s := by
  intro w hw call s
  simp only [WORDS, List.mem_cons, List.not_mem_nil, or_false] at hw
  rcases hw with rfl | rfl | rfl | rfl | rfl | rfl <;> rfl
theorem check_way_ok (ws : List (List Nat)) (hw : ∀ w ∈ ws, w ∈ WORDS) (hl : ws.length ≤ 6) (n : Nat) (st : Store) : Ok (callI T F (n + 1) i_check_way [.tup (wd ws)] st) fun v s => v = .non ∧ Ext st s := by
  refine Ok_call (fn := ⟨1, 2, b_check_way⟩) rfl rfl ?_
  simp only [b_check_way, Ok_nil, Ok_cons, Ok_ret, Ok_ex, Ok_asg, Ok_if, Ok_par, Ok_for, Ok_while, Ok_nm, Ok_sub, Ok_tp2, Ok_c, Ok_v, Ok_bin, Ok_cmp, Ok_and, Ok_or, Ok_not, Ok_ite, Ok_sub', Ok_tup, Ok_lst, Ok_dct, Ok_callE, Ok_blt, Ok_bm, Ok_sl, Ok_lc, Ok_x0, Ok_x1, Ok_bool, Ok_unl0, lock_none, lockOf_str, lockOf_tup, lockOf_int, lockOf_two, Ok_ok, List.map_cons, List.map_nil, List.length_cons, List.length_nil, List.replicate, List.cons_append, List.nil_append, List.set_cons_zero, List.set_cons_succ, List.getElem?_cons_zero, List.getElem?_cons_succ, Nat.reduceAdd, Nat.reduceSub, Nat.reduceLeDiff, if_false, if_true, Bool.false_eq_true, entry, setTg, setAll, wipeE]
  refine Ok.eq (a := .bl true) (s := st) rfl ?_
  simp only [Ok_nil, Ok_cons, Ok_ret, Ok_ex, Ok_asg, Ok_if, Ok_par, Ok_for, Ok_while, Ok_nm, Ok_sub, Ok_tp2, Ok_c, Ok_v, Ok_bin, Ok_cmp, Ok_and, Ok_or, Ok_not, Ok_ite, Ok_sub', Ok_tup, Ok_lst, Ok_dct, Ok_callE, Ok_blt, Ok_bm, Ok_sl, Ok_lc, Ok_x0, Ok_x1, Ok_bool, Ok_unl0, lock_none, lockOf_str, lockOf_tup, lockOf_int, lockOf_two, Ok_ok, List.map_cons, List.map_nil, List.length_cons, List.length_nil, List.replicate, List.cons_append, List.nil_append, List.set_cons_zero, List.set_cons_succ, List.getElem?_cons_zero, List.getElem?_cons_succ, Nat.reduceAdd, Nat.reduceSub, Nat.reduceLeDiff, if_false, if_true, Bool.false_eq_true, entry, setTg, setAll, wipeE]
  refine (Ok_lenT).mpr (Ok.eq (a := .bl false) (s := st) ?_ ?_)
  · show R.ok (D.bl (decide ((6 : Int) < (wd ws).length))) st = _
    have : ¬ ((6 : Int) < (wd ws).length) := by simp only [wd, List.length_map]; omega
    rw [decide_eq_false this]
  simp only [Ok_nil, Ok_cons, Ok_ret, Ok_ex, Ok_asg, Ok_if, Ok_par, Ok_for, Ok_while, Ok_nm, Ok_sub, Ok_tp2, Ok_c, Ok_v, Ok_bin, Ok_cmp, Ok_and, Ok_or, Ok_not, Ok_ite, Ok_sub', Ok_tup, Ok_lst, Ok_dct, Ok_callE, Ok_blt, Ok_bm, Ok_sl, Ok_lc, Ok_x0, Ok_x1, Ok_bool, Ok_unl0, lock_none, lockOf_str, lockOf_tup, lockOf_int, lockOf_two, Ok_ok, List.map_cons, List.map_nil, List.length_cons, List.length_nil, List.replicate, List.cons_append, List.nil_append, List.set_cons_zero, List.set_cons_succ, List.getElem?_cons_zero, List.getElem?_cons_succ, Nat.reduceAdd, Nat.reduceSub, Nat.reduceLeDiff, if_false, if_true, Bool.false_eq_true, entry, setTg, setAll, wipeE]
  have hwalk : walk .val [.tup (wd ws)] (bodyL T F (callI T F n) [1] (.nm 1) (.c (.bl true)) (.and (.blt (.isi [.str]) (.cons false (.v 1) .nil)) (.cmp .inn (.v 1) (.c (.tup [.str [97, 108, 108], .str [98, 111, 116, 104], .str [99, 97, 114, 101], .str [108, 111, 110, 101], .str [108, 111, 110, 101, 115], .str [112, 97, 105, 114, 115]])))) [some (.tup (wd ws)), none]) F 0 [] st = .ok (List.replicate ws.length (.bl true)) st := by
    rw [walk_acc (xs := wd ws) (fun _ => .bl true) (fun _ _ => it_tup) (fun x hx acc ha => ?_) (by simp [wd, F]; omega), map_const]
    · simp [wd]
    · obtain ⟨w, hwm, rfl⟩ := List.mem_map.mp hx
      rw [← Ok_eq]
      simp only [bodyL, Ok_bind, Ok_nil, Ok_cons, Ok_ret, Ok_ex, Ok_asg, Ok_if, Ok_par, Ok_for, Ok_while, Ok_nm, Ok_sub, Ok_tp2, Ok_c, Ok_v, Ok_bin, Ok_cmp, Ok_and, Ok_or, Ok_not, Ok_ite, Ok_sub', Ok_tup, Ok_lst, Ok_dct, Ok_callE, Ok_blt, Ok_bm, Ok_sl, Ok_lc, Ok_x0, Ok_x1, Ok_bool, Ok_unl0, lock_none, lockOf_str, lockOf_tup, lockOf_int, lockOf_two, Ok_ok, List.map_cons, List.map_nil, List.length_cons, List.length_nil, List.replicate, List.cons_append, List.nil_append, List.set_cons_zero, List.set_cons_succ, List.getElem?_cons_zero, List.getElem?_cons_succ, Nat.reduceAdd, Nat.reduceSub, Nat.reduceLeDiff, if_false, if_true, Bool.false_eq_true, entry, setTg, setAll, wipeE]
      refine Ok.eq (a := .bl true) (s := st) rfl ?_
      simp only [Ok_nil, Ok_cons, Ok_ret, Ok_ex, Ok_asg, Ok_if, Ok_par, Ok_for, Ok_while, Ok_nm, Ok_sub, Ok_tp2, Ok_c, Ok_v, Ok_bin, Ok_cmp, Ok_and, Ok_or, Ok_not, Ok_ite, Ok_sub', Ok_tup, Ok_lst, Ok_dct, Ok_callE, Ok_blt, Ok_bm, Ok_sl, Ok_lc, Ok_x0, Ok_x1, Ok_bool, Ok_unl0, lock_none, lockOf_str, lockOf_tup, lockOf_int, lockOf_two, Ok_ok, List.map_cons, List.map_nil, List.length_cons, List.length_nil, List.replicate, List.cons_append, List.nil_append, List.set_cons_zero, List.set_cons_succ, List.getElem?_cons_zero, List.getElem?_cons_succ, Nat.reduceAdd, Nat.reduceSub, Nat.reduceLeDiff, if_false, if_true, Bool.false_eq_true, entry, setTg, setAll, wipeE]
      refine Ok.eq (in_conv w (hw w hwm) _ st) (Ok_iff.mpr ⟨?_, rfl, rfl⟩)
      simp only [wd, List.length_map] at ha
      simp only [line]; omega
  rw [hwalk]
  simp only [R.noexc, R.bind, Ok_nil, Ok_cons, Ok_ret, Ok_ex, Ok_asg, Ok_if, Ok_par, Ok_for, Ok_while, Ok_nm, Ok_sub, Ok_tp2, Ok_c, Ok_v, Ok_bin, Ok_cmp, Ok_and, Ok_or, Ok_not, Ok_ite, Ok_sub', Ok_tup, Ok_lst, Ok_dct, Ok_callE, Ok_blt, Ok_bm, Ok_sl, Ok_lc, Ok_x0, Ok_x1, Ok_bool, Ok_unl0, lock_none, lockOf_str, lockOf_tup, lockOf_int, lockOf_two, Ok_ok, List.map_cons, List.map_nil, List.length_cons, List.length_nil, List.replicate, List.cons_append, List.nil_append, List.set_cons_zero, List.set_cons_succ, List.getElem?_cons_zero, List.getElem?_cons_succ, Nat.reduceAdd, Nat.reduceSub, Nat.reduceLeDiff, if_false, if_true, Bool.false_eq_true, entry, setTg, setAll, wipeE]
  refine (Ok_all (k := ws.length) (add_get _ _)).mpr ?_
  simp only [Ok_nil, Ok_cons, Ok_ret, Ok_ex, Ok_asg, Ok_if, Ok_par, Ok_for, Ok_while, Ok_nm, Ok_sub, Ok_tp2, Ok_c, Ok_v, Ok_bin, Ok_cmp, Ok_and, Ok_or, Ok_not, Ok_ite, Ok_sub', Ok_tup, Ok_lst, Ok_dct, Ok_callE, Ok_blt, Ok_bm, Ok_sl, Ok_lc, Ok_x0, Ok_x1, Ok_bool, Ok_unl0, lock_none, lockOf_str, lockOf_tup, lockOf_int, lockOf_two, Ok_ok, List.map_cons, List.map_nil, List.length_cons, List.length_nil, List.replicate, List.cons_append, List.nil_append, List.set_cons_zero, List.set_cons_succ, List.getElem?_cons_zero, List.getElem?_cons_succ, Nat.reduceAdd, Nat.reduceSub, Nat.reduceLeDiff, if_false, if_true, Bool.false_eq_true, entry, setTg, setAll, wipeE, Bool.not_true]
  exact ⟨trivial, Ext.add _ _⟩

/-- what is given out at the end -/
def en : List (List Nat) → List Bool → List Nat → List Nat
  | w :: ws, h :: hs, x => en ws hs (if (tb w h x).1 && hold w then (tb w h x).2 ++ [lf w] else (tb w h x).2)
  | _, _, x => x
theorem en_end {ws : List (List Nat)} {hs : List Bool} {x : List Nat} (h : ws = [] ∨ hs = []) : en ws hs x = x := by
  rcases h with rfl | rfl
  · unfold en; rfl
  · cases ws <;> rfl
theorem lf_sign (w : List Nat) : lf w ∈ SIGNS := by unfold lf; split <;> decide
theorem step_en {x : List Nat} {w : List Nat} {b : Bool} (hw : w ∈ WORDS) (h2 : ∀ c ∈ x, c ∈ SIGNS) {k : Nat} (h3 : (x.length + 1) * 2 ^ (k + 1) ≤ 1000) (y : List Nat) (hy : y = (tb w b x).2 ++ [lf w] ∨ y = (tb w b x).2) : (y.length + 1) * 2 ^ k ≤ 1000 ∧ ∀ c ∈ y, c ∈ SIGNS := by
  obtain ⟨t1, t2⟩ := tb_len hw (h := b) h2
  have h5 : (y.length + 1) ≤ (x.length + 1) * 2 := by
    rcases hy with rfl | rfl
    · simp only [List.length_append, List.length_cons, List.length_nil]; omega
    · omega
  refine ⟨Nat.le_trans (Nat.mul_le_mul_right _ h5) ?_, ?_⟩
  · rw [Nat.pow_succ, Nat.mul_comm (2 ^ k) 2, ← Nat.mul_assoc] at h3
    exact h3
  · rcases hy with rfl | rfl
    · intro c hc
      rcases List.mem_append.mp hc with z | z
      · exact t2 c z
      · rw [List.mem_singleton] at z; rw [z]; exact lf_sign w
    · exact t2
theorem ended_ok (ws : List (List Nat)) (hw : ∀ w ∈ ws, w ∈ WORDS) (hs : List Bool) (hl : 2 ^ ws.length ≤ 1000) (hll : ws.length ≤ 100) (n : Nat) (st : Store) :
    callI T F (n + 4) i_ended [.tup (wd ws), .tup (bd' hs)] st = .ok (.str (en ws hs [])) st := by
  rw [← Ok_eq]
  refine Ok_call (fn := ⟨2, 5, b_ended⟩) rfl rfl ?_
  simp only [b_ended, Ok_nil, Ok_cons, Ok_ret, Ok_ex, Ok_asg, Ok_if, Ok_par, Ok_for, Ok_while, Ok_nm, Ok_sub, Ok_tp2, Ok_c, Ok_v, Ok_bin, Ok_cmp, Ok_and, Ok_or, Ok_not, Ok_ite, Ok_sub', Ok_tup, Ok_lst, Ok_dct, Ok_callE, Ok_blt, Ok_bm, Ok_sl, Ok_lc, Ok_x0, Ok_x1, Ok_bool, Ok_unl0, lock_none, lockOf_str, lockOf_tup, lockOf_int, lockOf_two, Ok_ok, List.map_cons, List.map_nil, List.length_cons, List.length_nil, List.replicate, List.cons_append, List.nil_append, List.set_cons_zero, List.set_cons_succ, List.getElem?_cons_zero, List.getElem?_cons_succ, Nat.reduceAdd, Nat.reduceSub, Nat.reduceLeDiff, if_false, if_true, Bool.false_eq_true, entry, setTg, setAll, wipeE]
  refine turns_rem (xs := List.zipWith (fun a b => D.tup [a, b]) (wd ws) (bd' hs)) (fun r env s => s = st ∧ ∃ ws' hs' x' u v, r = List.zipWith (fun a b => D.tup [a, b]) (wd ws') (bd' hs') ∧ (∀ w ∈ ws', w ∈ WORDS) ∧ (∀ c ∈ x', c ∈ SIGNS) ∧ (x'.length + 1) * 2 ^ ws'.length ≤ 1000 ∧
    en ws hs [] = en ws' hs' x' ∧ env = [some (.tup (wd ws)), some (.tup (bd' hs)), some (.str x'), u, v]) (fun i r env s _ => it_zip2) ?_ ?_ (by simp [F, wd, bd']; omega) ⟨rfl, ws, hs, [], none, none, rfl, hw, (fun c hc => by cases hc), by simpa using hl, rfl, rfl⟩
  · rintro y r env s ⟨rfl, ws', hs', x', u, v, hr, h1, h2, h3, h5, rfl⟩
    obtain ⟨w, ws', b, hs', rfl, rfl, rfl, rfl⟩ := zip_cons hr
    have hwm := h1 w List.mem_cons_self
    have hx1 : x'.length ≤ 1000 := by
      have : x'.length + 1 ≤ 1000 := Nat.le_trans (Nat.le_mul_of_pos_right _ (Nat.two_pow_pos _)) h3
      omega
    simp only [bodyF, Ok_nil, Ok_cons, Ok_ret, Ok_ex, Ok_asg, Ok_if, Ok_par, Ok_for, Ok_while, Ok_nm, Ok_sub, Ok_tp2, Ok_c, Ok_v, Ok_bin, Ok_cmp, Ok_and, Ok_or, Ok_not, Ok_ite, Ok_sub', Ok_tup, Ok_lst, Ok_dct, Ok_callE, Ok_blt, Ok_bm, Ok_sl, Ok_lc, Ok_x0, Ok_x1, Ok_bool, Ok_unl0, lock_none, lockOf_str, lockOf_tup, lockOf_int, lockOf_two, Ok_ok, List.map_cons, List.map_nil, List.length_cons, List.length_nil, List.replicate, List.cons_append, List.nil_append, List.set_cons_zero, List.set_cons_succ, List.getElem?_cons_zero, List.getElem?_cons_succ, Nat.reduceAdd, Nat.reduceSub, Nat.reduceLeDiff, if_false, if_true, Bool.false_eq_true, entry, setTg, setAll, wipeE, List.zip_cons_cons, List.zip_nil_right, List.foldl_cons, List.foldl_nil]
    refine Ok.eq (text_by_ok w hwm b x' h2 hx1 n s) ?_
    simp only [Ok_nil, Ok_cons, Ok_ret, Ok_ex, Ok_asg, Ok_if, Ok_par, Ok_for, Ok_while, Ok_nm, Ok_sub, Ok_tp2, Ok_c, Ok_v, Ok_bin, Ok_cmp, Ok_and, Ok_or, Ok_not, Ok_ite, Ok_sub', Ok_tup, Ok_lst, Ok_dct, Ok_callE, Ok_blt, Ok_bm, Ok_sl, Ok_lc, Ok_x0, Ok_x1, Ok_bool, Ok_unl0, lock_none, lockOf_str, lockOf_tup, lockOf_int, lockOf_two, Ok_ok, List.map_cons, List.map_nil, List.length_cons, List.length_nil, List.replicate, List.cons_append, List.nil_append, List.set_cons_zero, List.set_cons_succ, List.getElem?_cons_zero, List.getElem?_cons_succ, Nat.reduceAdd, Nat.reduceSub, Nat.reduceLeDiff, if_false, if_true, Bool.false_eq_true, entry, setTg, setAll, wipeE]
    rw [List.length_cons] at h3
    have t1 := (tb_len hwm (h := b) h2).1
    cases hb : (tb w b x').1 with
    | false =>
      simp only [Ok_nil, Ok_cons, Ok_ret, Ok_ex, Ok_asg, Ok_if, Ok_par, Ok_for, Ok_while, Ok_nm, Ok_sub, Ok_tp2, Ok_c, Ok_v, Ok_bin, Ok_cmp, Ok_and, Ok_or, Ok_not, Ok_ite, Ok_sub', Ok_tup, Ok_lst, Ok_dct, Ok_callE, Ok_blt, Ok_bm, Ok_sl, Ok_lc, Ok_x0, Ok_x1, Ok_bool, Ok_unl0, lock_none, lockOf_str, lockOf_tup, lockOf_int, lockOf_two, Ok_ok, List.map_cons, List.map_nil, List.length_cons, List.length_nil, List.replicate, List.cons_append, List.nil_append, List.set_cons_zero, List.set_cons_succ, List.getElem?_cons_zero, List.getElem?_cons_succ, Nat.reduceAdd, Nat.reduceSub, Nat.reduceLeDiff, if_false, if_true, Bool.false_eq_true, entry, setTg, setAll, wipeE]
      obtain ⟨q1, q2⟩ := step_en (b := b) hwm h2 h3 (tb w b x').2 (.inr rfl)
      refine ⟨trivial, ws', hs', (tb w b x').2, _, _, rfl, fun z hz => h1 z (List.mem_cons_of_mem _ hz), q2, q1, ?_, rfl⟩
      rw [h5]; simp only [en, hb, Bool.false_and, Bool.false_eq_true, if_false]
    | true =>
      simp only [Ok_nil, Ok_cons, Ok_ret, Ok_ex, Ok_asg, Ok_if, Ok_par, Ok_for, Ok_while, Ok_nm, Ok_sub, Ok_tp2, Ok_c, Ok_v, Ok_bin, Ok_cmp, Ok_and, Ok_or, Ok_not, Ok_ite, Ok_sub', Ok_tup, Ok_lst, Ok_dct, Ok_callE, Ok_blt, Ok_bm, Ok_sl, Ok_lc, Ok_x0, Ok_x1, Ok_bool, Ok_unl0, lock_none, lockOf_str, lockOf_tup, lockOf_int, lockOf_two, Ok_ok, List.map_cons, List.map_nil, List.length_cons, List.length_nil, List.replicate, List.cons_append, List.nil_append, List.set_cons_zero, List.set_cons_succ, List.getElem?_cons_zero, List.getElem?_cons_succ, Nat.reduceAdd, Nat.reduceSub, Nat.reduceLeDiff, if_false, if_true, Bool.false_eq_true, entry, setTg, setAll, wipeE]
      refine Ok.eq (in_hold w hwm _ s) ?_
      cases hh : hold w with
      | false =>
        simp only [Ok_nil, Ok_cons, Ok_ret, Ok_ex, Ok_asg, Ok_if, Ok_par, Ok_for, Ok_while, Ok_nm, Ok_sub, Ok_tp2, Ok_c, Ok_v, Ok_bin, Ok_cmp, Ok_and, Ok_or, Ok_not, Ok_ite, Ok_sub', Ok_tup, Ok_lst, Ok_dct, Ok_callE, Ok_blt, Ok_bm, Ok_sl, Ok_lc, Ok_x0, Ok_x1, Ok_bool, Ok_unl0, lock_none, lockOf_str, lockOf_tup, lockOf_int, lockOf_two, Ok_ok, List.map_cons, List.map_nil, List.length_cons, List.length_nil, List.replicate, List.cons_append, List.nil_append, List.set_cons_zero, List.set_cons_succ, List.getElem?_cons_zero, List.getElem?_cons_succ, Nat.reduceAdd, Nat.reduceSub, Nat.reduceLeDiff, if_false, if_true, Bool.false_eq_true, entry, setTg, setAll, wipeE]
        obtain ⟨q1, q2⟩ := step_en (b := b) hwm h2 h3 (tb w b x').2 (.inr rfl)
        refine ⟨trivial, ws', hs', (tb w b x').2, _, _, rfl, fun z hz => h1 z (List.mem_cons_of_mem _ hz), q2, q1, ?_, rfl⟩
        rw [h5]; simp only [en, hh, Bool.and_false, Bool.false_eq_true, if_false]
      | true =>
        simp only [Ok_nil, Ok_cons, Ok_ret, Ok_ex, Ok_asg, Ok_if, Ok_par, Ok_for, Ok_while, Ok_nm, Ok_sub, Ok_tp2, Ok_c, Ok_v, Ok_bin, Ok_cmp, Ok_and, Ok_or, Ok_not, Ok_ite, Ok_sub', Ok_tup, Ok_lst, Ok_dct, Ok_callE, Ok_blt, Ok_bm, Ok_sl, Ok_lc, Ok_x0, Ok_x1, Ok_bool, Ok_unl0, lock_none, lockOf_str, lockOf_tup, lockOf_int, lockOf_two, Ok_ok, List.map_cons, List.map_nil, List.length_cons, List.length_nil, List.replicate, List.cons_append, List.nil_append, List.set_cons_zero, List.set_cons_succ, List.getElem?_cons_zero, List.getElem?_cons_succ, Nat.reduceAdd, Nat.reduceSub, Nat.reduceLeDiff, if_false, if_true, Bool.false_eq_true, entry, setTg, setAll, wipeE]
        refine Ok.eq (left_ok w hwm (n + 2) s) ?_
        simp only [Ok_nil, Ok_cons, Ok_ret, Ok_ex, Ok_asg, Ok_if, Ok_par, Ok_for, Ok_while, Ok_nm, Ok_sub, Ok_tp2, Ok_c, Ok_v, Ok_bin, Ok_cmp, Ok_and, Ok_or, Ok_not, Ok_ite, Ok_sub', Ok_tup, Ok_lst, Ok_dct, Ok_callE, Ok_blt, Ok_bm, Ok_sl, Ok_lc, Ok_x0, Ok_x1, Ok_bool, Ok_unl0, lock_none, lockOf_str, lockOf_tup, lockOf_int, lockOf_two, Ok_ok, List.map_cons, List.map_nil, List.length_cons, List.length_nil, List.replicate, List.cons_append, List.nil_append, List.set_cons_zero, List.set_cons_succ, List.getElem?_cons_zero, List.getElem?_cons_succ, Nat.reduceAdd, Nat.reduceSub, Nat.reduceLeDiff, if_false, if_true, Bool.false_eq_true, entry, setTg, setAll, wipeE, Ok_addS]
        obtain ⟨q1, q2⟩ := step_en (b := b) hwm h2 h3 ((tb w b x').2 ++ [lf w]) (.inl rfl)
        refine ⟨by simp only [line]; omega, trivial, ws', hs', (tb w b x').2 ++ [lf w], _, _, rfl, fun z hz => h1 z (List.mem_cons_of_mem _ hz), q2, q1, ?_, rfl⟩
        rw [h5]; simp only [en, hb, hh, Bool.and_self, if_true]
  · rintro env s ⟨rfl, ws', hs', x', u, v, hr, h1, h2, h3, h5, rfl⟩
    rw [en_end (zip_nil hr)] at h5
    simp only [Ok_nil, Ok_cons, Ok_ret, Ok_ex, Ok_asg, Ok_if, Ok_par, Ok_for, Ok_while, Ok_nm, Ok_sub, Ok_tp2, Ok_c, Ok_v, Ok_bin, Ok_cmp, Ok_and, Ok_or, Ok_not, Ok_ite, Ok_sub', Ok_tup, Ok_lst, Ok_dct, Ok_callE, Ok_blt, Ok_bm, Ok_sl, Ok_lc, Ok_x0, Ok_x1, Ok_bool, Ok_unl0, lock_none, lockOf_str, lockOf_tup, lockOf_int, lockOf_two, Ok_ok, List.map_cons, List.map_nil, List.length_cons, List.length_nil, List.replicate, List.cons_append, List.nil_append, List.set_cons_zero, List.set_cons_succ, List.getElem?_cons_zero, List.getElem?_cons_succ, Nat.reduceAdd, Nat.reduceSub, Nat.reduceLeDiff, if_false, if_true, Bool.false_eq_true, entry, setTg, setAll, wipeE]
    exact ⟨by rw [h5], trivial⟩
/-- the law's own loop over the signs -/
theorem own_loop {env : Env} (w : List Nat) (hw : w ∈ WORDS) (h : Bool) (x : List Nat) (hx : ∀ c ∈ x, c ∈ SIGNS) (hl : x.length ≤ 1000) (n : Nat) (st : Store) (mk : Bool → List Nat → Option D → Option D → Env) {P : Fl → Store → Prop} {body : Ss} {t : Tg}
    (h0 : env = mk h [] none none ∨ ∃ u v, env = mk h [] u v)
    (hbody : ∀ h' out u v c, c ∈ SIGNS → out.length ≤ 2000 → Ok (bodyF T F (callI T F (n + 1)) t body (.str [c]) (mk h' out u v) st) fun fl s => fl = .nx (mk (sb w h' c).1 (out ++ (sb w h' c).2) (some (.str [c])) (some (.str (sb w h' c).2))) ∧ s = st)
    (done : ∀ u v, P (.nx (mk (tb w h x).1 (tb w h x).2 u v)) st) : Ok (turns .val [.str x] (bodyF T F (callI T F (n + 1)) t body) F 0 env st) P := by
  have h0 : ∃ u v, env = mk h [] u v := by
    rcases h0 with z | z
    · exact ⟨_, _, z⟩
    · exact z
  obtain ⟨u0, v0, rfl⟩ := h0
  refine turns_rem (xs := x.map fun c => .str [c]) (fun r env s => s = st ∧ ∃ h' out x' u v, r = x'.map (fun c => D.str [c]) ∧ (∀ c ∈ x', c ∈ SIGNS) ∧ out.length + 2 * x'.length ≤ 2000 ∧ tbF w (h', out) x' = tb w h x ∧ env = mk h' out u v) (fun i r env s _ => it_str) ?_ ?_ (by simp [F]; omega) ⟨rfl, h, [], x, u0, v0, rfl, hx, by simp; omega, rfl, rfl⟩
  · rintro y r env s ⟨rfl, h', out, x', u, v, hr, hs, hb, he, rfl⟩
    cases x' with
    | nil => cases hr
    | cons c x' =>
      cases hr
      have hc := hs c List.mem_cons_self
      have hlen := (sb_len w hw h' c hc).1
      simp only [List.length_cons] at hb
      refine (hbody h' out u v c hc (by omega)).mono fun fl s' hq => ?_
      obtain ⟨rfl, rfl⟩ := hq
      exact ⟨rfl, _, _, x', _, _, rfl, fun k hk => hs k (List.mem_cons_of_mem _ hk), by simp only [List.length_append]; omega, he, rfl⟩
  · rintro env s ⟨rfl, h', out, x', u, v, hr, hs, hb, he, rfl⟩
    cases x' with
    | nil =>
      have e1 : h' = (tb w h x).1 := congrArg Prod.fst he
      have e2 : out = (tb w h x).2 := congrArg Prod.snd he
      rw [e1, e2]
      exact done u v
    | cons _ _ => cases hr
theorem law_read_ok (ws : List (List Nat)) (hw : ∀ w ∈ ws, w ∈ WORDS) (hs : List Bool) (x : List Nat) (hx : ∀ c ∈ x, c ∈ SIGNS) (hl : x.length * 2 ^ ws.length ≤ 1000) (hll : ws.length ≤ 100) (n : Nat) (st : Store) :
    Ok (callI T F (n + 2) i__law_read [.tup (wd ws), .tup (bd' hs), .str x] st) fun v s => v = .tup [.tup (bd' (rb ws hs x).1), .str (rb ws hs x).2] ∧ Ext st s := by
  refine Ok_call (fn := ⟨3, 9, b__law_read⟩) rfl rfl ?_
  simp only [b__law_read, Ok_nil, Ok_cons, Ok_ret, Ok_ex, Ok_asg, Ok_if, Ok_par, Ok_for, Ok_while, Ok_nm, Ok_sub, Ok_tp2, Ok_c, Ok_v, Ok_bin, Ok_cmp, Ok_and, Ok_or, Ok_not, Ok_ite, Ok_sub', Ok_tup, Ok_lst, Ok_dct, Ok_callE, Ok_blt, Ok_bm, Ok_sl, Ok_lc, Ok_x0, Ok_x1, Ok_bool, Ok_unl0, lock_none, lockOf_str, lockOf_tup, lockOf_int, lockOf_two, Ok_ok, List.map_cons, List.map_nil, List.length_cons, List.length_nil, List.replicate, List.cons_append, List.nil_append, List.set_cons_zero, List.set_cons_succ, List.getElem?_cons_zero, List.getElem?_cons_succ, Nat.reduceAdd, Nat.reduceSub, Nat.reduceLeDiff, if_false, if_true, Bool.false_eq_true, entry, setTg, setAll, wipeE]
  refine ⟨by decide, ?_⟩
  refine turns_rem (xs := List.zipWith (fun a b => D.tup [a, b]) (wd ws) (bd' hs)) (fun r env s => ∃ ws' hs' x' acc u v u2 v2 u3, r = List.zipWith (fun a b => D.tup [a, b]) (wd ws') (bd' hs') ∧ (∀ w ∈ ws', w ∈ WORDS) ∧ (∀ c ∈ x', c ∈ SIGNS) ∧ x'.length * 2 ^ ws'.length ≤ 1000 ∧ acc.length + ws'.length ≤ 100 ∧
    rb ws hs x = (acc ++ (rb ws' hs' x').1, (rb ws' hs' x').2) ∧ Ext st s ∧ st.sz < s.sz ∧ s.get st.sz = some (.lst (bd' acc)) ∧ env = [some (.tup (wd ws)), some (.tup (bd' hs)), some (.str x'), some (.ref st.sz), u, v, u2, v2, u3]) (fun i r env s _ => it_zip2) ?_ ?_ (by simp [F, wd, bd']; omega) ⟨ws, hs, x, [], none, none, none, none, none, rfl, hw, hx, hl, by simpa using hll, by simp, Ext.add _ _, by rw [Store.add_sz]; omega, Store.get_add_self, rfl⟩
  · rintro y r env s ⟨ws', hs', x', acc, u, v, u2, v2, u3, hr, h1, h2, h3, h4, h5, h6, h7, h8, rfl⟩
    obtain ⟨w, ws', b, hs', rfl, rfl, rfl, rfl⟩ := zip_cons hr
    have hwm := h1 w List.mem_cons_self
    have hx1 : x'.length ≤ 1000 := Nat.le_trans (Nat.le_mul_of_pos_right _ (Nat.two_pow_pos _)) h3
    simp only [bodyF, Ok_nil, Ok_cons, Ok_ret, Ok_ex, Ok_asg, Ok_if, Ok_par, Ok_for, Ok_while, Ok_nm, Ok_sub, Ok_tp2, Ok_c, Ok_v, Ok_bin, Ok_cmp, Ok_and, Ok_or, Ok_not, Ok_ite, Ok_sub', Ok_tup, Ok_lst, Ok_dct, Ok_callE, Ok_blt, Ok_bm, Ok_sl, Ok_lc, Ok_x0, Ok_x1, Ok_bool, Ok_unl0, lock_none, lockOf_str, lockOf_tup, lockOf_int, lockOf_two, Ok_ok, List.map_cons, List.map_nil, List.length_cons, List.length_nil, List.replicate, List.cons_append, List.nil_append, List.set_cons_zero, List.set_cons_succ, List.getElem?_cons_zero, List.getElem?_cons_succ, Nat.reduceAdd, Nat.reduceSub, Nat.reduceLeDiff, if_false, if_true, Bool.false_eq_true, entry, setTg, setAll, wipeE, List.zip_cons_cons, List.zip_nil_right, List.foldl_cons, List.foldl_nil]
    refine own_loop w hwm b x' h2 hx1 n s (fun h out p q => [some (.tup (wd ws)), some (.tup (bd' hs)), some (.str x'), some (.ref st.sz), some (.str w), some (.bl h), some (.str out), p, q]) (.inr ⟨_, _, rfl⟩) ?_ ?_
    · intro h' out p q c hc ho
      have hlen := (sb_len w hwm h' c hc).1
      simp only [bodyF, Ok_nil, Ok_cons, Ok_ret, Ok_ex, Ok_asg, Ok_if, Ok_par, Ok_for, Ok_while, Ok_nm, Ok_sub, Ok_tp2, Ok_c, Ok_v, Ok_bin, Ok_cmp, Ok_and, Ok_or, Ok_not, Ok_ite, Ok_sub', Ok_tup, Ok_lst, Ok_dct, Ok_callE, Ok_blt, Ok_bm, Ok_sl, Ok_lc, Ok_x0, Ok_x1, Ok_bool, Ok_unl0, lock_none, lockOf_str, lockOf_tup, lockOf_int, lockOf_two, Ok_ok, List.map_cons, List.map_nil, List.length_cons, List.length_nil, List.replicate, List.cons_append, List.nil_append, List.set_cons_zero, List.set_cons_succ, List.getElem?_cons_zero, List.getElem?_cons_succ, Nat.reduceAdd, Nat.reduceSub, Nat.reduceLeDiff, if_false, if_true, Bool.false_eq_true, entry, setTg, setAll, wipeE]
      refine Ok.eq (law_sign_ok w hwm h' c hc n s) ?_
      simp only [Ok_nil, Ok_cons, Ok_ret, Ok_ex, Ok_asg, Ok_if, Ok_par, Ok_for, Ok_while, Ok_nm, Ok_sub, Ok_tp2, Ok_c, Ok_v, Ok_bin, Ok_cmp, Ok_and, Ok_or, Ok_not, Ok_ite, Ok_sub', Ok_tup, Ok_lst, Ok_dct, Ok_callE, Ok_blt, Ok_bm, Ok_sl, Ok_lc, Ok_x0, Ok_x1, Ok_bool, Ok_unl0, lock_none, lockOf_str, lockOf_tup, lockOf_int, lockOf_two, Ok_ok, List.map_cons, List.map_nil, List.length_cons, List.length_nil, List.replicate, List.cons_append, List.nil_append, List.set_cons_zero, List.set_cons_succ, List.getElem?_cons_zero, List.getElem?_cons_succ, Nat.reduceAdd, Nat.reduceSub, Nat.reduceLeDiff, if_false, if_true, Bool.false_eq_true, entry, setTg, setAll, wipeE, Ok_addS]
      exact ⟨by simp only [line]; omega, trivial, trivial⟩
    · intro p q
      simp only [Ok_nil, Ok_cons, Ok_ret, Ok_ex, Ok_asg, Ok_if, Ok_par, Ok_for, Ok_while, Ok_nm, Ok_sub, Ok_tp2, Ok_c, Ok_v, Ok_bin, Ok_cmp, Ok_and, Ok_or, Ok_not, Ok_ite, Ok_sub', Ok_tup, Ok_lst, Ok_dct, Ok_callE, Ok_blt, Ok_bm, Ok_sl, Ok_lc, Ok_x0, Ok_x1, Ok_bool, Ok_unl0, lock_none, lockOf_str, lockOf_tup, lockOf_int, lockOf_two, Ok_ok, List.map_cons, List.map_nil, List.length_cons, List.length_nil, List.replicate, List.cons_append, List.nil_append, List.set_cons_zero, List.set_cons_succ, List.getElem?_cons_zero, List.getElem?_cons_succ, Nat.reduceAdd, Nat.reduceSub, Nat.reduceLeDiff, if_false, if_true, Bool.false_eq_true, entry, setTg, setAll, wipeE]
      refine ⟨recv_lst (.inl rfl) h8, (Ok_app h8).mpr ⟨by simp only [bd', List.length_map, line]; omega, ?_⟩⟩
      obtain ⟨t1, t2⟩ := tb_len hwm (h := b) h2
      refine ⟨ws', hs', (tb w b x').2, acc ++ [(tb w b x').1], _, _, _, _, _, rfl, fun z hz => h1 z (List.mem_cons_of_mem _ hz), t2, ?_, ?_, ?_, h6.set (Nat.le_refl _), by rw [Store.set_sz]; exact h7, ?_, rfl⟩
      · refine Nat.le_trans (Nat.mul_le_mul_right _ t1) ?_
        rw [List.length_cons, Nat.pow_succ] at h3
        have : 2 * x'.length * 2 ^ ws'.length = x'.length * (2 ^ ws'.length * 2) := by rw [Nat.mul_comm 2, Nat.mul_assoc, Nat.mul_comm 2]
        omega
      · simp only [List.length_append, List.length_cons, List.length_nil] at h4 ⊢; omega
      · rw [h5]; simp [rb]
      · rw [Store.get_set_self h7]; simp [bd']
  · rintro env s ⟨ws', hs', x', acc, u, v, u2, v2, u3, hr, h1, h2, h3, h4, h5, h6, h7, h8, rfl⟩
    rw [rb_end (zip_nil hr)] at h5
    simp only [Ok_nil, Ok_cons, Ok_ret, Ok_ex, Ok_asg, Ok_if, Ok_par, Ok_for, Ok_while, Ok_nm, Ok_sub, Ok_tp2, Ok_c, Ok_v, Ok_bin, Ok_cmp, Ok_and, Ok_or, Ok_not, Ok_ite, Ok_sub', Ok_tup, Ok_lst, Ok_dct, Ok_callE, Ok_blt, Ok_bm, Ok_sl, Ok_lc, Ok_x0, Ok_x1, Ok_bool, Ok_unl0, lock_none, lockOf_str, lockOf_tup, lockOf_int, lockOf_two, Ok_ok, List.map_cons, List.map_nil, List.length_cons, List.length_nil, List.replicate, List.cons_append, List.nil_append, List.set_cons_zero, List.set_cons_succ, List.getElem?_cons_zero, List.getElem?_cons_succ, Nat.reduceAdd, Nat.reduceSub, Nat.reduceLeDiff, if_false, if_true, Bool.false_eq_true, entry, setTg, setAll, wipeE, Ok_tupL h8]
    refine ⟨by decide, ?_, h6⟩
    rw [h5]; simp
end Lk02
namespace Lk02
open VI
/-- a standing that can be -/
def val : List (List Nat) → List Bool → Bool
  | w :: ws, h :: hs => (!h || stan w) && val ws hs
  | [], [] => true
  | _, _ => false
theorem val_len : ∀ {ws : List (List Nat)} {hs : List Bool}, val ws hs = true → hs.length = ws.length
  | w :: ws, h :: hs, z => by
    simp only [val, Bool.and_eq_true] at z
    simp only [List.length_cons, val_len z.2]
  | [], [], _ => rfl
  | [], _ :: _, z => by cases z
  | _ :: _, [], z => by cases z
theorem sb_stan : ∀ w ∈ WORDS, ∀ h : Bool, ∀ c ∈ SIGNS, (sb w h c).1 = true → stan w = true := by
  intro w hw h c hc
  simp only [WORDS, SIGNS, List.mem_cons, List.not_mem_nil, or_false] at hw hc
  rcases hw with rfl | rfl | rfl | rfl | rfl | rfl <;> rcases hc with rfl | rfl | rfl <;> cases h <;> decide
theorem fold_stan {w : List Nat} (hw : w ∈ WORDS) : ∀ (x : List Nat) (p : Bool × List Nat), (∀ c ∈ x, c ∈ SIGNS) → (p.1 = true → stan w = true) → (tbF w p x).1 = true → stan w = true
  | [], p, _, hp, h => hp h
  | c :: r, p, hx, hp, h => fold_stan hw r ((sb w p.1 c).1, p.2 ++ (sb w p.1 c).2) (fun k hk => hx k (List.mem_cons_of_mem _ hk)) (fun z => sb_stan w hw _ c (hx c List.mem_cons_self) z) h
theorem tb_stan {w : List Nat} (hw : w ∈ WORDS) {h : Bool} {x : List Nat} (hx : ∀ c ∈ x, c ∈ SIGNS) (hv : h = true → stan w = true) (hb : (tb w h x).1 = true) : stan w = true := fold_stan hw x (h, []) hx hv hb
theorem rb_val : ∀ {ws : List (List Nat)} {hs : List Bool} {x : List Nat}, (∀ w ∈ ws, w ∈ WORDS) → (∀ c ∈ x, c ∈ SIGNS) → val ws hs = true → val ws (rb ws hs x).1 = true
  | w :: ws, h :: hs, x, hw, hx, hv => by
    simp only [val, Bool.and_eq_true] at hv
    have hwm := hw w List.mem_cons_self
    have hst : h = true → stan w = true := fun z => by have := hv.1; rw [z] at this; simpa using this
    obtain ⟨_, t2⟩ := tb_len hwm (h := h) hx
    have ih := rb_val (fun z hz => hw z (List.mem_cons_of_mem _ hz)) t2 hv.2
    simp only [rb, val, Bool.and_eq_true]
    refine ⟨?_, ih⟩
    cases hb : (tb w h x).1 with
    | false => rfl
    | true => rw [tb_stan hwm hx hst hb]; rfl
  | [], [], x, _, _, _ => rfl
  | [], _ :: _, _, _, _, z => by cases z
  | _ :: _, [], _, _, _, z => by cases z
theorem ne_care : ∀ w ∈ WORDS, ∀ (call : Caller) (s : Store), cmpC T call .ne (.str w) (.str [99, 97, 114, 101]) s = .ok (.bl !(decide (w = wCare))) s := by
  intro w hw call s
  simp only [WORDS, List.mem_cons, List.not_mem_nil, or_false] at hw
  rcases hw with rfl | rfl | rfl | rfl | rfl | rfl <;> rfl
theorem eq_pairs : ∀ w ∈ WORDS, ∀ (call : Caller) (s : Store), cmpC T call .eq (.str w) (.str [112, 97, 105, 114, 115]) s = .ok (.bl (decide (w = wPairs))) s := by
  intro w hw call s
  simp only [WORDS, List.mem_cons, List.not_mem_nil, or_false] at hw
  rcases hw with rfl | rfl | rfl | rfl | rfl | rfl <;> rfl
theorem hold_care : ∀ w ∈ WORDS, stan w = true → hold w = !(decide (w = wCare)) := by
  intro w hw
  simp only [WORDS, List.mem_cons, List.not_mem_nil, or_false] at hw
  rcases hw with rfl | rfl | rfl | rfl | rfl | rfl <;> decide
theorem law_end_ok (ws : List (List Nat)) (hw : ∀ w ∈ ws, w ∈ WORDS) (hs : List Bool) (hv : val ws hs = true) (hl : 2 ^ ws.length ≤ 1000) (hll : ws.length ≤ 100) (n : Nat) (st : Store) :
    callI T F (n + 2) i__law_end [.tup (wd ws), .tup (bd' hs)] st = .ok (.str (en ws hs [])) st := by
  rw [← Ok_eq]
  refine Ok_call (fn := ⟨2, 8, b__law_end⟩) rfl rfl ?_
  simp only [b__law_end, Ok_nil, Ok_cons, Ok_ret, Ok_ex, Ok_asg, Ok_if, Ok_par, Ok_for, Ok_while, Ok_nm, Ok_sub, Ok_tp2, Ok_c, Ok_v, Ok_bin, Ok_cmp, Ok_and, Ok_or, Ok_not, Ok_ite, Ok_sub', Ok_tup, Ok_lst, Ok_dct, Ok_callE, Ok_blt, Ok_bm, Ok_sl, Ok_lc, Ok_x0, Ok_x1, Ok_bool, Ok_unl0, lock_none, lockOf_str, lockOf_tup, lockOf_int, lockOf_two, Ok_ok, List.map_cons, List.map_nil, List.length_cons, List.length_nil, List.replicate, List.cons_append, List.nil_append, List.set_cons_zero, List.set_cons_succ, List.getElem?_cons_zero, List.getElem?_cons_succ, Nat.reduceAdd, Nat.reduceSub, Nat.reduceLeDiff, if_false, if_true, Bool.false_eq_true, entry, setTg, setAll, wipeE]
  refine turns_rem (xs := List.zipWith (fun a b => D.tup [a, b]) (wd ws) (bd' hs)) (fun r env s => s = st ∧ ∃ ws' hs' x' u v u2 v2 u3, r = List.zipWith (fun a b => D.tup [a, b]) (wd ws') (bd' hs') ∧ (∀ w ∈ ws', w ∈ WORDS) ∧ val ws' hs' = true ∧ (∀ c ∈ x', c ∈ SIGNS) ∧ (x'.length + 1) * 2 ^ ws'.length ≤ 1000 ∧
    en ws hs [] = en ws' hs' x' ∧ env = [some (.tup (wd ws)), some (.tup (bd' hs)), some (.str x'), u, v, u2, v2, u3]) (fun i r env s _ => it_zip2) ?_ ?_ (by simp [F, wd, bd']; omega) ⟨rfl, ws, hs, [], none, none, none, none, none, rfl, hw, hv, (fun c hc => by cases hc), by simpa using hl, rfl, rfl⟩
  · rintro y r env s ⟨rfl, ws', hs', x', u, v, u2, v2, u3, hr, h1, hv', h2, h3, h5, rfl⟩
    obtain ⟨w, ws', b, hs', rfl, rfl, rfl, rfl⟩ := zip_cons hr
    have hwm := h1 w List.mem_cons_self
    simp only [val, Bool.and_eq_true] at hv'
    have hst : b = true → stan w = true := fun z => by have := hv'.1; rw [z] at this; simpa using this
    have hx1 : x'.length ≤ 1000 := by
      have : x'.length + 1 ≤ 1000 := Nat.le_trans (Nat.le_mul_of_pos_right _ (Nat.two_pow_pos _)) h3
      omega
    rw [List.length_cons] at h3
    have t1 := (tb_len hwm (h := b) h2).1
    simp only [bodyF, Ok_nil, Ok_cons, Ok_ret, Ok_ex, Ok_asg, Ok_if, Ok_par, Ok_for, Ok_while, Ok_nm, Ok_sub, Ok_tp2, Ok_c, Ok_v, Ok_bin, Ok_cmp, Ok_and, Ok_or, Ok_not, Ok_ite, Ok_sub', Ok_tup, Ok_lst, Ok_dct, Ok_callE, Ok_blt, Ok_bm, Ok_sl, Ok_lc, Ok_x0, Ok_x1, Ok_bool, Ok_unl0, lock_none, lockOf_str, lockOf_tup, lockOf_int, lockOf_two, Ok_ok, List.map_cons, List.map_nil, List.length_cons, List.length_nil, List.replicate, List.cons_append, List.nil_append, List.set_cons_zero, List.set_cons_succ, List.getElem?_cons_zero, List.getElem?_cons_succ, Nat.reduceAdd, Nat.reduceSub, Nat.reduceLeDiff, if_false, if_true, Bool.false_eq_true, entry, setTg, setAll, wipeE, List.zip_cons_cons, List.zip_nil_right, List.foldl_cons, List.foldl_nil]
    refine own_loop w hwm b x' h2 hx1 n s (fun h out p q => [some (.tup (wd ws)), some (.tup (bd' hs)), some (.str x'), some (.str w), some (.bl h), some (.str out), p, q]) (.inr ⟨_, _, rfl⟩) ?_ ?_
    · intro h' out p q c hc ho
      have hlen := (sb_len w hwm h' c hc).1
      simp only [bodyF, Ok_nil, Ok_cons, Ok_ret, Ok_ex, Ok_asg, Ok_if, Ok_par, Ok_for, Ok_while, Ok_nm, Ok_sub, Ok_tp2, Ok_c, Ok_v, Ok_bin, Ok_cmp, Ok_and, Ok_or, Ok_not, Ok_ite, Ok_sub', Ok_tup, Ok_lst, Ok_dct, Ok_callE, Ok_blt, Ok_bm, Ok_sl, Ok_lc, Ok_x0, Ok_x1, Ok_bool, Ok_unl0, lock_none, lockOf_str, lockOf_tup, lockOf_int, lockOf_two, Ok_ok, List.map_cons, List.map_nil, List.length_cons, List.length_nil, List.replicate, List.cons_append, List.nil_append, List.set_cons_zero, List.set_cons_succ, List.getElem?_cons_zero, List.getElem?_cons_succ, Nat.reduceAdd, Nat.reduceSub, Nat.reduceLeDiff, if_false, if_true, Bool.false_eq_true, entry, setTg, setAll, wipeE]
      refine Ok.eq (law_sign_ok w hwm h' c hc n s) ?_
      simp only [Ok_nil, Ok_cons, Ok_ret, Ok_ex, Ok_asg, Ok_if, Ok_par, Ok_for, Ok_while, Ok_nm, Ok_sub, Ok_tp2, Ok_c, Ok_v, Ok_bin, Ok_cmp, Ok_and, Ok_or, Ok_not, Ok_ite, Ok_sub', Ok_tup, Ok_lst, Ok_dct, Ok_callE, Ok_blt, Ok_bm, Ok_sl, Ok_lc, Ok_x0, Ok_x1, Ok_bool, Ok_unl0, lock_none, lockOf_str, lockOf_tup, lockOf_int, lockOf_two, Ok_ok, List.map_cons, List.map_nil, List.length_cons, List.length_nil, List.replicate, List.cons_append, List.nil_append, List.set_cons_zero, List.set_cons_succ, List.getElem?_cons_zero, List.getElem?_cons_succ, Nat.reduceAdd, Nat.reduceSub, Nat.reduceLeDiff, if_false, if_true, Bool.false_eq_true, entry, setTg, setAll, wipeE, Ok_addS]
      exact ⟨by simp only [line]; omega, trivial, trivial⟩
    · intro p q
      simp only [Ok_nil, Ok_cons, Ok_ret, Ok_ex, Ok_asg, Ok_if, Ok_par, Ok_for, Ok_while, Ok_nm, Ok_sub, Ok_tp2, Ok_c, Ok_v, Ok_bin, Ok_cmp, Ok_and, Ok_or, Ok_not, Ok_ite, Ok_sub', Ok_tup, Ok_lst, Ok_dct, Ok_callE, Ok_blt, Ok_bm, Ok_sl, Ok_lc, Ok_x0, Ok_x1, Ok_bool, Ok_unl0, lock_none, lockOf_str, lockOf_tup, lockOf_int, lockOf_two, Ok_ok, List.map_cons, List.map_nil, List.length_cons, List.length_nil, List.replicate, List.cons_append, List.nil_append, List.set_cons_zero, List.set_cons_succ, List.getElem?_cons_zero, List.getElem?_cons_succ, Nat.reduceAdd, Nat.reduceSub, Nat.reduceLeDiff, if_false, if_true, Bool.false_eq_true, entry, setTg, setAll, wipeE]
      cases hb : (tb w b x').1 with
      | false =>
        simp only [Ok_nil, Ok_cons, Ok_ret, Ok_ex, Ok_asg, Ok_if, Ok_par, Ok_for, Ok_while, Ok_nm, Ok_sub, Ok_tp2, Ok_c, Ok_v, Ok_bin, Ok_cmp, Ok_and, Ok_or, Ok_not, Ok_ite, Ok_sub', Ok_tup, Ok_lst, Ok_dct, Ok_callE, Ok_blt, Ok_bm, Ok_sl, Ok_lc, Ok_x0, Ok_x1, Ok_bool, Ok_unl0, lock_none, lockOf_str, lockOf_tup, lockOf_int, lockOf_two, Ok_ok, List.map_cons, List.map_nil, List.length_cons, List.length_nil, List.replicate, List.cons_append, List.nil_append, List.set_cons_zero, List.set_cons_succ, List.getElem?_cons_zero, List.getElem?_cons_succ, Nat.reduceAdd, Nat.reduceSub, Nat.reduceLeDiff, if_false, if_true, Bool.false_eq_true, entry, setTg, setAll, wipeE]
        obtain ⟨q1, q2⟩ := step_en (b := b) hwm h2 h3 (tb w b x').2 (.inr rfl)
        refine ⟨trivial, ws', hs', (tb w b x').2, _, _, _, _, _, rfl, fun z hz => h1 z (List.mem_cons_of_mem _ hz), hv'.2, q2, q1, ?_, rfl⟩
        rw [h5]; simp only [en, hb, Bool.false_and, Bool.false_eq_true, if_false]
      | true =>
        simp only [Ok_nil, Ok_cons, Ok_ret, Ok_ex, Ok_asg, Ok_if, Ok_par, Ok_for, Ok_while, Ok_nm, Ok_sub, Ok_tp2, Ok_c, Ok_v, Ok_bin, Ok_cmp, Ok_and, Ok_or, Ok_not, Ok_ite, Ok_sub', Ok_tup, Ok_lst, Ok_dct, Ok_callE, Ok_blt, Ok_bm, Ok_sl, Ok_lc, Ok_x0, Ok_x1, Ok_bool, Ok_unl0, lock_none, lockOf_str, lockOf_tup, lockOf_int, lockOf_two, Ok_ok, List.map_cons, List.map_nil, List.length_cons, List.length_nil, List.replicate, List.cons_append, List.nil_append, List.set_cons_zero, List.set_cons_succ, List.getElem?_cons_zero, List.getElem?_cons_succ, Nat.reduceAdd, Nat.reduceSub, Nat.reduceLeDiff, if_false, if_true, Bool.false_eq_true, entry, setTg, setAll, wipeE]
        refine Ok.eq (ne_care w hwm _ s) ?_
        have hh := hold_care w hwm (tb_stan hwm h2 hst hb)
        cases hc : decide (w = wCare) with
        | true =>
          rw [hc] at hh
          simp only [Ok_nil, Ok_cons, Ok_ret, Ok_ex, Ok_asg, Ok_if, Ok_par, Ok_for, Ok_while, Ok_nm, Ok_sub, Ok_tp2, Ok_c, Ok_v, Ok_bin, Ok_cmp, Ok_and, Ok_or, Ok_not, Ok_ite, Ok_sub', Ok_tup, Ok_lst, Ok_dct, Ok_callE, Ok_blt, Ok_bm, Ok_sl, Ok_lc, Ok_x0, Ok_x1, Ok_bool, Ok_unl0, lock_none, lockOf_str, lockOf_tup, lockOf_int, lockOf_two, Ok_ok, List.map_cons, List.map_nil, List.length_cons, List.length_nil, List.replicate, List.cons_append, List.nil_append, List.set_cons_zero, List.set_cons_succ, List.getElem?_cons_zero, List.getElem?_cons_succ, Nat.reduceAdd, Nat.reduceSub, Nat.reduceLeDiff, if_false, if_true, Bool.false_eq_true, entry, setTg, setAll, wipeE, Bool.not_true]
          obtain ⟨q1, q2⟩ := step_en (b := b) hwm h2 h3 (tb w b x').2 (.inr rfl)
          refine ⟨trivial, ws', hs', (tb w b x').2, _, _, _, _, _, rfl, fun z hz => h1 z (List.mem_cons_of_mem _ hz), hv'.2, q2, q1, ?_, rfl⟩
          rw [h5]; simp only [en, hh, Bool.not_true, Bool.and_false, Bool.false_eq_true, if_false]
        | false =>
          rw [hc] at hh
          simp only [Ok_nil, Ok_cons, Ok_ret, Ok_ex, Ok_asg, Ok_if, Ok_par, Ok_for, Ok_while, Ok_nm, Ok_sub, Ok_tp2, Ok_c, Ok_v, Ok_bin, Ok_cmp, Ok_and, Ok_or, Ok_not, Ok_ite, Ok_sub', Ok_tup, Ok_lst, Ok_dct, Ok_callE, Ok_blt, Ok_bm, Ok_sl, Ok_lc, Ok_x0, Ok_x1, Ok_bool, Ok_unl0, lock_none, lockOf_str, lockOf_tup, lockOf_int, lockOf_two, Ok_ok, List.map_cons, List.map_nil, List.length_cons, List.length_nil, List.replicate, List.cons_append, List.nil_append, List.set_cons_zero, List.set_cons_succ, List.getElem?_cons_zero, List.getElem?_cons_succ, Nat.reduceAdd, Nat.reduceSub, Nat.reduceLeDiff, if_false, if_true, Bool.false_eq_true, entry, setTg, setAll, wipeE, Bool.not_false]
          refine Ok.eq (eq_pairs w hwm _ s) ?_
          obtain ⟨q1, q2⟩ := step_en (b := b) hwm h2 h3 ((tb w b x').2 ++ [lf w]) (.inl rfl)
          have fin : ∀ l, [l] = [lf w] → Ok (binV .add (.str (tb w b x').2) (.str [l]) s) fun d s_2 => s_2 = s ∧ ∃ ws_1 hs_1 x_1 u v u2 v2 u3, List.zipWith (fun a b => D.tup [a, b]) (wd ws') (bd' hs') = List.zipWith (fun a b => D.tup [a, b]) (wd ws_1) (bd' hs_1) ∧ (∀ w ∈ ws_1, w ∈ WORDS) ∧ val ws_1 hs_1 = true ∧ (∀ c ∈ x_1, c ∈ SIGNS) ∧ (x_1.length + 1) * 2 ^ ws_1.length ≤ 1000 ∧ en ws hs [] = en ws_1 hs_1 x_1 ∧ [some (D.tup (wd ws)), some (.tup (bd' hs)), some d, some (.str w), some (.bl true), some (.str (tb w b x').2), p, q] = [some (.tup (wd ws)), some (.tup (bd' hs)), some (.str x_1), u, v, u2, v2, u3] := fun l hl' => by
            rw [Ok_addS, hl']
            refine ⟨by simp only [line, List.length_cons, List.length_nil]; omega, rfl, ws', hs', (tb w b x').2 ++ [lf w], _, _, _, _, _, rfl, fun z hz => h1 z (List.mem_cons_of_mem _ hz), hv'.2, q2, q1, ?_, rfl⟩
            rw [h5]; simp only [en, hb, hh, Bool.not_false, Bool.and_self, if_true]
          cases hp : decide (w = wPairs) with
          | true =>
            simp only [Ok_nil, Ok_cons, Ok_ret, Ok_ex, Ok_asg, Ok_if, Ok_par, Ok_for, Ok_while, Ok_nm, Ok_sub, Ok_tp2, Ok_c, Ok_v, Ok_bin, Ok_cmp, Ok_and, Ok_or, Ok_not, Ok_ite, Ok_sub', Ok_tup, Ok_lst, Ok_dct, Ok_callE, Ok_blt, Ok_bm, Ok_sl, Ok_lc, Ok_x0, Ok_x1, Ok_bool, Ok_unl0, lock_none, lockOf_str, lockOf_tup, lockOf_int, lockOf_two, Ok_ok, List.map_cons, List.map_nil, List.length_cons, List.length_nil, List.replicate, List.cons_append, List.nil_append, List.set_cons_zero, List.set_cons_succ, List.getElem?_cons_zero, List.getElem?_cons_succ, Nat.reduceAdd, Nat.reduceSub, Nat.reduceLeDiff, if_false, if_true, Bool.false_eq_true, entry, setTg, setAll, wipeE]
            exact fin 114 (by unfold lf; rw [if_pos (of_decide_eq_true hp)])
          | false =>
            simp only [Ok_nil, Ok_cons, Ok_ret, Ok_ex, Ok_asg, Ok_if, Ok_par, Ok_for, Ok_while, Ok_nm, Ok_sub, Ok_tp2, Ok_c, Ok_v, Ok_bin, Ok_cmp, Ok_and, Ok_or, Ok_not, Ok_ite, Ok_sub', Ok_tup, Ok_lst, Ok_dct, Ok_callE, Ok_blt, Ok_bm, Ok_sl, Ok_lc, Ok_x0, Ok_x1, Ok_bool, Ok_unl0, lock_none, lockOf_str, lockOf_tup, lockOf_int, lockOf_two, Ok_ok, List.map_cons, List.map_nil, List.length_cons, List.length_nil, List.replicate, List.cons_append, List.nil_append, List.set_cons_zero, List.set_cons_succ, List.getElem?_cons_zero, List.getElem?_cons_succ, Nat.reduceAdd, Nat.reduceSub, Nat.reduceLeDiff, if_false, if_true, Bool.false_eq_true, entry, setTg, setAll, wipeE]
            exact fin 110 (by unfold lf; rw [if_neg (of_decide_eq_false hp)])
  · rintro env s ⟨rfl, ws', hs', x', u, v, u2, v2, u3, hr, h1, hv', h2, h3, h5, rfl⟩
    rw [en_end (zip_nil hr)] at h5
    simp only [Ok_nil, Ok_cons, Ok_ret, Ok_ex, Ok_asg, Ok_if, Ok_par, Ok_for, Ok_while, Ok_nm, Ok_sub, Ok_tp2, Ok_c, Ok_v, Ok_bin, Ok_cmp, Ok_and, Ok_or, Ok_not, Ok_ite, Ok_sub', Ok_tup, Ok_lst, Ok_dct, Ok_callE, Ok_blt, Ok_bm, Ok_sl, Ok_lc, Ok_x0, Ok_x1, Ok_bool, Ok_unl0, lock_none, lockOf_str, lockOf_tup, lockOf_int, lockOf_two, Ok_ok, List.map_cons, List.map_nil, List.length_cons, List.length_nil, List.replicate, List.cons_append, List.nil_append, List.set_cons_zero, List.set_cons_succ, List.getElem?_cons_zero, List.getElem?_cons_succ, Nat.reduceAdd, Nat.reduceSub, Nat.reduceLeDiff, if_false, if_true, Bool.false_eq_true, entry, setTg, setAll, wipeE]
    exact ⟨by rw [h5], trivial⟩
theorem start_of_ok (ws : List (List Nat)) (hl : ws.length ≤ 6) (n : Nat) (st : Store) : callI T F (n + 1) i_start_of [.tup (wd ws)] st = .ok (.tup (bd' (List.replicate ws.length false))) st := by
  rw [← Ok_eq]
  refine Ok_call (fn := ⟨1, 1, b_start_of⟩) rfl rfl ?_
  simp only [b_start_of, Ok_nil, Ok_cons, Ok_ret, Ok_ex, Ok_asg, Ok_if, Ok_par, Ok_for, Ok_while, Ok_nm, Ok_sub, Ok_tp2, Ok_c, Ok_v, Ok_bin, Ok_cmp, Ok_and, Ok_or, Ok_not, Ok_ite, Ok_sub', Ok_tup, Ok_lst, Ok_dct, Ok_callE, Ok_blt, Ok_bm, Ok_sl, Ok_lc, Ok_x0, Ok_x1, Ok_bool, Ok_unl0, lock_none, lockOf_str, lockOf_tup, lockOf_int, lockOf_two, Ok_ok, List.map_cons, List.map_nil, List.length_cons, List.length_nil, List.replicate, List.cons_append, List.nil_append, List.set_cons_zero, List.set_cons_succ, List.getElem?_cons_zero, List.getElem?_cons_succ, Nat.reduceAdd, Nat.reduceSub, Nat.reduceLeDiff, if_false, if_true, Bool.false_eq_true, entry, setTg, setAll, wipeE, Ok_lenT, Ok_mulT]
  refine ⟨by decide, ⟨by decide, ?_⟩, ?_, trivial⟩
  · simp only [small3, wd, List.length_map, Bool.and_eq_true, decide_eq_true_eq]; omega
  · simp [rep, wd, bd', List.flatten_replicate_singleton]
theorem law_first_ok (ws : List (List Nat)) (hl : ws.length ≤ 6) (n : Nat) (st : Store) : callI T F (n + 1) i__law_first [.tup (wd ws)] st = .ok (.tup (bd' (List.replicate ws.length false))) st := by
  rw [← Ok_eq]
  refine Ok_call (fn := ⟨1, 1, b__law_first⟩) rfl rfl ?_
  simp only [b__law_first, Ok_nil, Ok_cons, Ok_ret, Ok_ex, Ok_asg, Ok_if, Ok_par, Ok_for, Ok_while, Ok_nm, Ok_sub, Ok_tp2, Ok_c, Ok_v, Ok_bin, Ok_cmp, Ok_and, Ok_or, Ok_not, Ok_ite, Ok_sub', Ok_tup, Ok_lst, Ok_dct, Ok_callE, Ok_blt, Ok_bm, Ok_sl, Ok_lc, Ok_x0, Ok_x1, Ok_bool, Ok_unl0, lock_none, lockOf_str, lockOf_tup, lockOf_int, lockOf_two, Ok_ok, List.map_cons, List.map_nil, List.length_cons, List.length_nil, List.replicate, List.cons_append, List.nil_append, List.set_cons_zero, List.set_cons_succ, List.getElem?_cons_zero, List.getElem?_cons_succ, Nat.reduceAdd, Nat.reduceSub, Nat.reduceLeDiff, if_false, if_true, Bool.false_eq_true, entry, setTg, setAll, wipeE, Ok_lenT, Ok_mulT]
  refine ⟨by decide, ⟨by decide, ?_⟩, ?_, trivial⟩
  · simp only [small3, wd, List.length_map, Bool.and_eq_true, decide_eq_true_eq]; omega
  · simp [rep, wd, bd', List.flatten_replicate_singleton]
end Lk02
namespace Lk02
open VI
theorem pow6 {ws : List (List Nat)} (hl : ws.length ≤ 6) : 2 ^ ws.length ≤ 64 := Nat.pow_le_pow_right (by decide) hl
theorem check_standing_ok (ws : List (List Nat)) (hw : ∀ w ∈ ws, w ∈ WORDS) (hl : ws.length ≤ 6) (hs : List Bool) (hv : val ws hs = true) (n : Nat) (st : Store) : Ok (callI T F (n + 2) i_check_standing [.tup (wd ws), .tup (bd' hs)] st) fun v s => v = .non ∧ Ext st s := by
  refine Ok_call (fn := ⟨2, 4, b_check_standing⟩) rfl rfl ?_
  simp only [b_check_standing, Ok_nil, Ok_cons, Ok_ret, Ok_ex, Ok_asg, Ok_if, Ok_par, Ok_for, Ok_while, Ok_nm, Ok_sub, Ok_tp2, Ok_c, Ok_v, Ok_bin, Ok_cmp, Ok_and, Ok_or, Ok_not, Ok_ite, Ok_sub', Ok_tup, Ok_lst, Ok_dct, Ok_callE, Ok_blt, Ok_bm, Ok_sl, Ok_lc, Ok_x0, Ok_x1, Ok_bool, Ok_unl0, lock_none, lockOf_str, lockOf_tup, lockOf_int, lockOf_two, Ok_ok, List.map_cons, List.map_nil, List.length_cons, List.length_nil, List.replicate, List.cons_append, List.nil_append, List.set_cons_zero, List.set_cons_succ, List.getElem?_cons_zero, List.getElem?_cons_succ, Nat.reduceAdd, Nat.reduceSub, Nat.reduceLeDiff, if_false, if_true, Bool.false_eq_true, entry, setTg, setAll, wipeE]
  refine (check_way_ok ws hw hl n st).mono fun v s1 ⟨hv1, e1⟩ => ?_
  refine Ok.eq (a := .bl true) (s := s1) rfl ?_
  simp only [Ok_nil, Ok_cons, Ok_ret, Ok_ex, Ok_asg, Ok_if, Ok_par, Ok_for, Ok_while, Ok_nm, Ok_sub, Ok_tp2, Ok_c, Ok_v, Ok_bin, Ok_cmp, Ok_and, Ok_or, Ok_not, Ok_ite, Ok_sub', Ok_tup, Ok_lst, Ok_dct, Ok_callE, Ok_blt, Ok_bm, Ok_sl, Ok_lc, Ok_x0, Ok_x1, Ok_bool, Ok_unl0, lock_none, lockOf_str, lockOf_tup, lockOf_int, lockOf_two, Ok_ok, List.map_cons, List.map_nil, List.length_cons, List.length_nil, List.replicate, List.cons_append, List.nil_append, List.set_cons_zero, List.set_cons_succ, List.getElem?_cons_zero, List.getElem?_cons_succ, Nat.reduceAdd, Nat.reduceSub, Nat.reduceLeDiff, if_false, if_true, Bool.false_eq_true, entry, setTg, setAll, wipeE, Bool.not_true, Ok_lenT]
  have hlen := val_len hv
  have e : ((bd' hs).length : Int) = (wd ws).length := by simp only [bd', wd, List.length_map, hlen]
  rw [e]
  refine Ok.eq (ne_same rfl) ?_
  simp only [Ok_nil, Ok_cons, Ok_ret, Ok_ex, Ok_asg, Ok_if, Ok_par, Ok_for, Ok_while, Ok_nm, Ok_sub, Ok_tp2, Ok_c, Ok_v, Ok_bin, Ok_cmp, Ok_and, Ok_or, Ok_not, Ok_ite, Ok_sub', Ok_tup, Ok_lst, Ok_dct, Ok_callE, Ok_blt, Ok_bm, Ok_sl, Ok_lc, Ok_x0, Ok_x1, Ok_bool, Ok_unl0, lock_none, lockOf_str, lockOf_tup, lockOf_int, lockOf_two, Ok_ok, List.map_cons, List.map_nil, List.length_cons, List.length_nil, List.replicate, List.cons_append, List.nil_append, List.set_cons_zero, List.set_cons_succ, List.getElem?_cons_zero, List.getElem?_cons_succ, Nat.reduceAdd, Nat.reduceSub, Nat.reduceLeDiff, if_false, if_true, Bool.false_eq_true, entry, setTg, setAll, wipeE]
  refine turns_rem (xs := List.zipWith (fun a b => D.tup [a, b]) (wd ws) (bd' hs)) (fun r env s => s = s1 ∧ ∃ ws' hs' u v, r = List.zipWith (fun a b => D.tup [a, b]) (wd ws') (bd' hs') ∧ (∀ w ∈ ws', w ∈ WORDS) ∧ val ws' hs' = true ∧ env = [some (.tup (wd ws)), some (.tup (bd' hs)), u, v]) (fun i r env s _ => it_zip2) ?_ ?_ (by simp [F, wd, bd']; omega) ⟨rfl, ws, hs, none, none, rfl, hw, hv, rfl⟩
  · rintro y r env s ⟨rfl, ws', hs', u, v, hr, h1, hv', rfl⟩
    obtain ⟨w, ws', b, hs', rfl, rfl, rfl, rfl⟩ := zip_cons hr
    have hwm := h1 w List.mem_cons_self
    simp only [val, Bool.and_eq_true] at hv'
    have hst : b = true → stan w = true := fun z => by have := hv'.1; rw [z] at this; simpa using this
    simp only [bodyF, Ok_nil, Ok_cons, Ok_ret, Ok_ex, Ok_asg, Ok_if, Ok_par, Ok_for, Ok_while, Ok_nm, Ok_sub, Ok_tp2, Ok_c, Ok_v, Ok_bin, Ok_cmp, Ok_and, Ok_or, Ok_not, Ok_ite, Ok_sub', Ok_tup, Ok_lst, Ok_dct, Ok_callE, Ok_blt, Ok_bm, Ok_sl, Ok_lc, Ok_x0, Ok_x1, Ok_bool, Ok_unl0, lock_none, lockOf_str, lockOf_tup, lockOf_int, lockOf_two, Ok_ok, List.map_cons, List.map_nil, List.length_cons, List.length_nil, List.replicate, List.cons_append, List.nil_append, List.set_cons_zero, List.set_cons_succ, List.getElem?_cons_zero, List.getElem?_cons_succ, Nat.reduceAdd, Nat.reduceSub, Nat.reduceLeDiff, if_false, if_true, Bool.false_eq_true, entry, setTg, setAll, wipeE, List.zip_cons_cons, List.zip_nil_right, List.foldl_cons, List.foldl_nil]
    refine Ok.eq (a := .bl true) (s := s) rfl ?_
    simp only [Ok_nil, Ok_cons, Ok_ret, Ok_ex, Ok_asg, Ok_if, Ok_par, Ok_for, Ok_while, Ok_nm, Ok_sub, Ok_tp2, Ok_c, Ok_v, Ok_bin, Ok_cmp, Ok_and, Ok_or, Ok_not, Ok_ite, Ok_sub', Ok_tup, Ok_lst, Ok_dct, Ok_callE, Ok_blt, Ok_bm, Ok_sl, Ok_lc, Ok_x0, Ok_x1, Ok_bool, Ok_unl0, lock_none, lockOf_str, lockOf_tup, lockOf_int, lockOf_two, Ok_ok, List.map_cons, List.map_nil, List.length_cons, List.length_nil, List.replicate, List.cons_append, List.nil_append, List.set_cons_zero, List.set_cons_succ, List.getElem?_cons_zero, List.getElem?_cons_succ, Nat.reduceAdd, Nat.reduceSub, Nat.reduceLeDiff, if_false, if_true, Bool.false_eq_true, entry, setTg, setAll, wipeE, Bool.not_true]
    cases b with
    | false =>
      simp only [Ok_nil, Ok_cons, Ok_ret, Ok_ex, Ok_asg, Ok_if, Ok_par, Ok_for, Ok_while, Ok_nm, Ok_sub, Ok_tp2, Ok_c, Ok_v, Ok_bin, Ok_cmp, Ok_and, Ok_or, Ok_not, Ok_ite, Ok_sub', Ok_tup, Ok_lst, Ok_dct, Ok_callE, Ok_blt, Ok_bm, Ok_sl, Ok_lc, Ok_x0, Ok_x1, Ok_bool, Ok_unl0, lock_none, lockOf_str, lockOf_tup, lockOf_int, lockOf_two, Ok_ok, List.map_cons, List.map_nil, List.length_cons, List.length_nil, List.replicate, List.cons_append, List.nil_append, List.set_cons_zero, List.set_cons_succ, List.getElem?_cons_zero, List.getElem?_cons_succ, Nat.reduceAdd, Nat.reduceSub, Nat.reduceLeDiff, if_false, if_true, Bool.false_eq_true, entry, setTg, setAll, wipeE]
      exact ⟨trivial, ws', hs', _, _, rfl, fun z hz => h1 z (List.mem_cons_of_mem _ hz), hv'.2, rfl⟩
    | true =>
      simp only [Ok_nil, Ok_cons, Ok_ret, Ok_ex, Ok_asg, Ok_if, Ok_par, Ok_for, Ok_while, Ok_nm, Ok_sub, Ok_tp2, Ok_c, Ok_v, Ok_bin, Ok_cmp, Ok_and, Ok_or, Ok_not, Ok_ite, Ok_sub', Ok_tup, Ok_lst, Ok_dct, Ok_callE, Ok_blt, Ok_bm, Ok_sl, Ok_lc, Ok_x0, Ok_x1, Ok_bool, Ok_unl0, lock_none, lockOf_str, lockOf_tup, lockOf_int, lockOf_two, Ok_ok, List.map_cons, List.map_nil, List.length_cons, List.length_nil, List.replicate, List.cons_append, List.nil_append, List.set_cons_zero, List.set_cons_succ, List.getElem?_cons_zero, List.getElem?_cons_succ, Nat.reduceAdd, Nat.reduceSub, Nat.reduceLeDiff, if_false, if_true, Bool.false_eq_true, entry, setTg, setAll, wipeE]
      refine Ok.eq (in_stan w hwm _ s) ?_
      rw [hst rfl]
      simp only [Ok_nil, Ok_cons, Ok_ret, Ok_ex, Ok_asg, Ok_if, Ok_par, Ok_for, Ok_while, Ok_nm, Ok_sub, Ok_tp2, Ok_c, Ok_v, Ok_bin, Ok_cmp, Ok_and, Ok_or, Ok_not, Ok_ite, Ok_sub', Ok_tup, Ok_lst, Ok_dct, Ok_callE, Ok_blt, Ok_bm, Ok_sl, Ok_lc, Ok_x0, Ok_x1, Ok_bool, Ok_unl0, lock_none, lockOf_str, lockOf_tup, lockOf_int, lockOf_two, Ok_ok, List.map_cons, List.map_nil, List.length_cons, List.length_nil, List.replicate, List.cons_append, List.nil_append, List.set_cons_zero, List.set_cons_succ, List.getElem?_cons_zero, List.getElem?_cons_succ, Nat.reduceAdd, Nat.reduceSub, Nat.reduceLeDiff, if_false, if_true, Bool.false_eq_true, entry, setTg, setAll, wipeE, Bool.not_true]
      exact ⟨trivial, ws', hs', _, _, rfl, fun z hz => h1 z (List.mem_cons_of_mem _ hz), hv'.2, rfl⟩
  · rintro env s ⟨rfl, ws', hs', u, v, hr, h1, hv', rfl⟩
    simp only [Ok_nil, Ok_cons, Ok_ret, Ok_ex, Ok_asg, Ok_if, Ok_par, Ok_for, Ok_while, Ok_nm, Ok_sub, Ok_tp2, Ok_c, Ok_v, Ok_bin, Ok_cmp, Ok_and, Ok_or, Ok_not, Ok_ite, Ok_sub', Ok_tup, Ok_lst, Ok_dct, Ok_callE, Ok_blt, Ok_bm, Ok_sl, Ok_lc, Ok_x0, Ok_x1, Ok_bool, Ok_unl0, lock_none, lockOf_str, lockOf_tup, lockOf_int, lockOf_two, Ok_ok, List.map_cons, List.map_nil, List.length_cons, List.length_nil, List.replicate, List.cons_append, List.nil_append, List.set_cons_zero, List.set_cons_succ, List.getElem?_cons_zero, List.getElem?_cons_succ, Nat.reduceAdd, Nat.reduceSub, Nat.reduceLeDiff, if_false, if_true, Bool.false_eq_true, entry, setTg, setAll, wipeE]
    exact ⟨trivial, e1⟩
theorem first_standing_ok (ws : List (List Nat)) (hw : ∀ w ∈ ws, w ∈ WORDS) (hl : ws.length ≤ 6) (n : Nat) (st : Store) : Ok (callI T F (n + 2) i_first_standing [.tup (wd ws)] st) fun v s => v = .tup (bd' (List.replicate ws.length false)) ∧ Ext st s := by
  refine Ok_call (fn := ⟨1, 1, b_first_standing⟩) rfl rfl ?_
  simp only [b_first_standing, Ok_nil, Ok_cons, Ok_ret, Ok_ex, Ok_asg, Ok_if, Ok_par, Ok_for, Ok_while, Ok_nm, Ok_sub, Ok_tp2, Ok_c, Ok_v, Ok_bin, Ok_cmp, Ok_and, Ok_or, Ok_not, Ok_ite, Ok_sub', Ok_tup, Ok_lst, Ok_dct, Ok_callE, Ok_blt, Ok_bm, Ok_sl, Ok_lc, Ok_x0, Ok_x1, Ok_bool, Ok_unl0, lock_none, lockOf_str, lockOf_tup, lockOf_int, lockOf_two, Ok_ok, List.map_cons, List.map_nil, List.length_cons, List.length_nil, List.replicate, List.cons_append, List.nil_append, List.set_cons_zero, List.set_cons_succ, List.getElem?_cons_zero, List.getElem?_cons_succ, Nat.reduceAdd, Nat.reduceSub, Nat.reduceLeDiff, if_false, if_true, Bool.false_eq_true, entry, setTg, setAll, wipeE]
  refine (check_way_ok ws hw hl n st).mono fun v s1 ⟨hv1, e1⟩ => ?_
  exact Ok.eq (start_of_ok ws hl n s1) ⟨rfl, e1⟩
theorem at_end_ok (ws : List (List Nat)) (hw : ∀ w ∈ ws, w ∈ WORDS) (hl : ws.length ≤ 6) (hs : List Bool) (hv : val ws hs = true) (n : Nat) (st : Store) : Ok (callI T F (n + 5) i_at_end [.tup (wd ws), .tup (bd' hs)] st) fun v s => v = .str (en ws hs []) ∧ Ext st s := by
  refine Ok_call (fn := ⟨2, 2, b_at_end⟩) rfl rfl ?_
  simp only [b_at_end, Ok_nil, Ok_cons, Ok_ret, Ok_ex, Ok_asg, Ok_if, Ok_par, Ok_for, Ok_while, Ok_nm, Ok_sub, Ok_tp2, Ok_c, Ok_v, Ok_bin, Ok_cmp, Ok_and, Ok_or, Ok_not, Ok_ite, Ok_sub', Ok_tup, Ok_lst, Ok_dct, Ok_callE, Ok_blt, Ok_bm, Ok_sl, Ok_lc, Ok_x0, Ok_x1, Ok_bool, Ok_unl0, lock_none, lockOf_str, lockOf_tup, lockOf_int, lockOf_two, Ok_ok, List.map_cons, List.map_nil, List.length_cons, List.length_nil, List.replicate, List.cons_append, List.nil_append, List.set_cons_zero, List.set_cons_succ, List.getElem?_cons_zero, List.getElem?_cons_succ, Nat.reduceAdd, Nat.reduceSub, Nat.reduceLeDiff, if_false, if_true, Bool.false_eq_true, entry, setTg, setAll, wipeE]
  refine (check_standing_ok ws hw hl hs hv (n + 2) st).mono fun v s1 ⟨hv1, e1⟩ => ?_
  have := pow6 hl
  exact Ok.eq (ended_ok ws hw hs (by omega) (by omega) n s1) ⟨rfl, e1⟩
theorem read_ok (ws : List (List Nat)) (hw : ∀ w ∈ ws, w ∈ WORDS) (hl : ws.length ≤ 6) (hs : List Bool) (hv : val ws hs = true) (c : Nat) (hc : c ∈ SIGNS) (n : Nat) (st : Store) : Ok (callI T F (n + 5) i_read [.tup (wd ws), .tup (bd' hs), .str [c]] st) fun v s => v = .tup [.tup (bd' (rb ws hs [c]).1), .str (rb ws hs [c]).2] ∧ Ext st s := by
  refine Ok_call (fn := ⟨3, 3, b_read⟩) rfl rfl ?_
  simp only [b_read, Ok_nil, Ok_cons, Ok_ret, Ok_ex, Ok_asg, Ok_if, Ok_par, Ok_for, Ok_while, Ok_nm, Ok_sub, Ok_tp2, Ok_c, Ok_v, Ok_bin, Ok_cmp, Ok_and, Ok_or, Ok_not, Ok_ite, Ok_sub', Ok_tup, Ok_lst, Ok_dct, Ok_callE, Ok_blt, Ok_bm, Ok_sl, Ok_lc, Ok_x0, Ok_x1, Ok_bool, Ok_unl0, lock_none, lockOf_str, lockOf_tup, lockOf_int, lockOf_two, Ok_ok, List.map_cons, List.map_nil, List.length_cons, List.length_nil, List.replicate, List.cons_append, List.nil_append, List.set_cons_zero, List.set_cons_succ, List.getElem?_cons_zero, List.getElem?_cons_succ, Nat.reduceAdd, Nat.reduceSub, Nat.reduceLeDiff, if_false, if_true, Bool.false_eq_true, entry, setTg, setAll, wipeE]
  refine (check_standing_ok ws hw hl hs hv (n + 2) st).mono fun v s1 ⟨hv1, e1⟩ => ?_
  refine Ok.eq (a := .bl true) (s := s1) rfl ?_
  simp only [Ok_nil, Ok_cons, Ok_ret, Ok_ex, Ok_asg, Ok_if, Ok_par, Ok_for, Ok_while, Ok_nm, Ok_sub, Ok_tp2, Ok_c, Ok_v, Ok_bin, Ok_cmp, Ok_and, Ok_or, Ok_not, Ok_ite, Ok_sub', Ok_tup, Ok_lst, Ok_dct, Ok_callE, Ok_blt, Ok_bm, Ok_sl, Ok_lc, Ok_x0, Ok_x1, Ok_bool, Ok_unl0, lock_none, lockOf_str, lockOf_tup, lockOf_int, lockOf_two, Ok_ok, List.map_cons, List.map_nil, List.length_cons, List.length_nil, List.replicate, List.cons_append, List.nil_append, List.set_cons_zero, List.set_cons_succ, List.getElem?_cons_zero, List.getElem?_cons_succ, Nat.reduceAdd, Nat.reduceSub, Nat.reduceLeDiff, if_false, if_true, Bool.false_eq_true, entry, setTg, setAll, wipeE, Bool.not_true, Ok_lenS]
  refine ⟨by decide, Ok.eq (a := .bl false) (s := s1) rfl ?_⟩
  simp only [Ok_nil, Ok_cons, Ok_ret, Ok_ex, Ok_asg, Ok_if, Ok_par, Ok_for, Ok_while, Ok_nm, Ok_sub, Ok_tp2, Ok_c, Ok_v, Ok_bin, Ok_cmp, Ok_and, Ok_or, Ok_not, Ok_ite, Ok_sub', Ok_tup, Ok_lst, Ok_dct, Ok_callE, Ok_blt, Ok_bm, Ok_sl, Ok_lc, Ok_x0, Ok_x1, Ok_bool, Ok_unl0, lock_none, lockOf_str, lockOf_tup, lockOf_int, lockOf_two, Ok_ok, List.map_cons, List.map_nil, List.length_cons, List.length_nil, List.replicate, List.cons_append, List.nil_append, List.set_cons_zero, List.set_cons_succ, List.getElem?_cons_zero, List.getElem?_cons_succ, Nat.reduceAdd, Nat.reduceSub, Nat.reduceLeDiff, if_false, if_true, Bool.false_eq_true, entry, setTg, setAll, wipeE]
  refine Ok.eq (a := .bl false) (s := s1) ?_ ?_
  · simp only [SIGNS, List.mem_cons, List.not_mem_nil, or_false] at hc
    rcases hc with rfl | rfl | rfl <;> rfl
  simp only [Ok_nil, Ok_cons, Ok_ret, Ok_ex, Ok_asg, Ok_if, Ok_par, Ok_for, Ok_while, Ok_nm, Ok_sub, Ok_tp2, Ok_c, Ok_v, Ok_bin, Ok_cmp, Ok_and, Ok_or, Ok_not, Ok_ite, Ok_sub', Ok_tup, Ok_lst, Ok_dct, Ok_callE, Ok_blt, Ok_bm, Ok_sl, Ok_lc, Ok_x0, Ok_x1, Ok_bool, Ok_unl0, lock_none, lockOf_str, lockOf_tup, lockOf_int, lockOf_two, Ok_ok, List.map_cons, List.map_nil, List.length_cons, List.length_nil, List.replicate, List.cons_append, List.nil_append, List.set_cons_zero, List.set_cons_succ, List.getElem?_cons_zero, List.getElem?_cons_succ, Nat.reduceAdd, Nat.reduceSub, Nat.reduceLeDiff, if_false, if_true, Bool.false_eq_true, entry, setTg, setAll, wipeE]
  have := pow6 hl
  exact (read_by_ok ws hw hs [c] (fun k hk => by rw [List.mem_singleton] at hk; rw [hk]; exact hc) (by simp only [List.length_cons, List.length_nil]; omega) (by omega) n s1).mono fun v s ⟨q1, q2⟩ => ⟨q1, e1.trans q2⟩
/-! ### draws -/
theorem allOpt_int (f : Nat) (s : Store) : ∀ ns : List Int, allOpt (dat (f + 1) s) (ns.map D.int) = some (ns.map .int)
  | [] => rfl
  | n :: r => by
    rw [List.map_cons]
    unfold allOpt
    rw [allOpt_int f s r]; rfl
theorem allOpt_intOf : ∀ ns : List Int, allOpt intOf (ns.map D.int) = some ns
  | [] => rfl
  | n :: r => by
    rw [List.map_cons]
    unfold allOpt
    rw [allOpt_intOf r]; rfl
theorem ne_empty {T : Tbl} {call : Caller} {s : Store} {a b : Nat} {ns : List Int} (ha : s.get a = some (.flst (ns.map .int))) (hb : s.get b = some (.lst [])) : ∃ k, cmpC T call .ne (.ref a) (.ref b) s = .ok (.bl k) s ∧ (k = true → ns ≠ []) ∧ (k = false → ns = []) := by
  have h1 : dat 60 s (.ref a) = some (.lst (ns.map .int)) := by
    show (match s.get a with | some (.lst xs) => (allOpt (dat 59 s) xs).map Pd.lst | some (.flst xs) => (allOpt (dat 59 s) xs).map Pd.lst | _ => none) = _
    rw [ha]
    simp only [allOpt_int 58 s ns, Option.map_some]
  have h2 : dat 60 s (.ref b) = some (.lst []) := by
    show (match s.get b with | some (.lst xs) => (allOpt (dat 59 s) xs).map Pd.lst | some (.flst xs) => (allOpt (dat 59 s) xs).map Pd.lst | _ => none) = _
    rw [hb]; rfl
  have hc : clsAt s (.ref a) = none := by
    show (match s.get a with | some (.ins c _) => some c | _ => none) = none
    rw [ha]
  unfold cmpC
  rw [hc]
  show ∃ k, ofOpt ((eqS s (.ref a) (.ref b)).map fun b => D.bl !b) s = _ ∧ _
  unfold eqS
  rw [h1, h2]
  cases ns with
  | nil => exact ⟨false, rfl, (fun z => by cases z), fun _ => rfl⟩
  | cons n r => exact ⟨true, rfl, (fun _ => by simp), (fun z => by cases z)⟩
theorem sm {i : Int} (h : -18446744073709551616 < i ∧ i < 18446744073709551616) : small64 i = true := by
  unfold small64
  simp only [Bool.and_eq_true, decide_eq_true_eq]
  exact h
theorem at_mod {α : Type} {xs : List α} (h : xs ≠ []) (k : Int) : ∃ x, atP xs (k % (xs.length : Int)) = some x ∧ x ∈ xs := by
  have hl : 0 < xs.length := List.length_pos_iff.mpr h
  have h1 : 0 ≤ k % (xs.length : Int) := Int.emod_nonneg _ (by omega)
  have h2 : k % (xs.length : Int) < xs.length := Int.emod_lt_of_pos _ (by omega)
  have h3 : (k % (xs.length : Int)).toNat < xs.length := by omega
  refine ⟨xs[(k % (xs.length : Int)).toNat], ?_, List.getElem_mem h3⟩
  unfold atP ixP
  rw [if_pos h1, if_pos h2]
  exact List.getElem?_eq_getElem h3
theorem number_rest (cs : List Int) (hc : cs ≠ []) (hcl : cs.length ≤ 63) (k : Int) (r : Nat) (st : Store) (hr : st.get r = some (.lst (cs.map .int))) (call : Caller) (e1 : Option D) :
    Ok (exSs T F call (match b__law_number with | .cons _ x => x | .nil => .nil) [some (.ref 0), some (.int k), some (.ref r), none, none, none, none, none] st) fun fl s => ∃ v : Int, fl = .rt (.int v) ∧ s = st := by
  have hne : cs.map D.int ≠ [] := by simpa using hc
  obtain ⟨x, hx1, hx2⟩ := at_mod hne k
  obtain ⟨i, hi, rfl⟩ := List.mem_map.mp hx2
  have hlen : (0 : Int) < (cs.map D.int).length := by have := List.length_pos_iff.mpr hne; omega
  simp only [b__law_number, Ok_nil, Ok_cons, Ok_ret, Ok_ex, Ok_asg, Ok_if, Ok_par, Ok_for, Ok_while, Ok_nm, Ok_sub, Ok_tp2, Ok_c, Ok_v, Ok_bin, Ok_cmp, Ok_and, Ok_or, Ok_not, Ok_ite, Ok_sub', Ok_tup, Ok_lst, Ok_dct, Ok_callE, Ok_blt, Ok_bm, Ok_sl, Ok_lc, Ok_x0, Ok_x1, Ok_bool, Ok_unl0, lock_none, lockOf_str, lockOf_tup, lockOf_int, lockOf_two, Ok_ok, List.map_cons, List.map_nil, List.length_cons, List.length_nil, List.replicate, List.cons_append, List.nil_append, List.set_cons_zero, List.set_cons_succ, List.getElem?_cons_zero, List.getElem?_cons_succ, Nat.reduceAdd, Nat.reduceSub, Nat.reduceLeDiff, if_false, if_true, Bool.false_eq_true, entry, setTg, setAll, wipeE, Ok_intI, Ok_lenL hr, Ok_modI]
  refine ⟨hlen, ?_⟩
  refine Ok.eq (a := .int i) (s := st) ?_ ?_
  · show (match st.get r with | some (.lst xs) => _ | some (.flst xs) => _ | some (.dct _ kvs) => _ | _ => _) = _
    rw [hr]
    show ofOpt (atP (cs.map D.int) (k % ((cs.map D.int).length : Int))) st = _
    rw [hx1]; rfl
  have hsum : ∀ Q : D → Store → Prop, Q (.int cs.sum) st → Ok (bltV .sum [.ref r] st) Q := fun Q h => by
    refine Ok.eq (a := .int cs.sum) (s := st) ?_ h
    show (match lists? st r with | some xs => ofOpt ((allOpt intOf xs).map fun (is : List Int) => D.int is.sum) st | none => .stuck) = _
    unfold lists?
    rw [hr]
    simp only [allOpt_intOf, Option.map_some]
    rfl
  simp only [Ok_nil, Ok_cons, Ok_ret, Ok_ex, Ok_asg, Ok_if, Ok_par, Ok_for, Ok_while, Ok_nm, Ok_sub, Ok_tp2, Ok_c, Ok_v, Ok_bin, Ok_cmp, Ok_and, Ok_or, Ok_not, Ok_ite, Ok_sub', Ok_tup, Ok_lst, Ok_dct, Ok_callE, Ok_blt, Ok_bm, Ok_sl, Ok_lc, Ok_x0, Ok_x1, Ok_bool, Ok_unl0, lock_none, lockOf_str, lockOf_tup, lockOf_int, lockOf_two, Ok_ok, List.map_cons, List.map_nil, List.length_cons, List.length_nil, List.replicate, List.cons_append, List.nil_append, List.set_cons_zero, List.set_cons_succ, List.getElem?_cons_zero, List.getElem?_cons_succ, Nat.reduceAdd, Nat.reduceSub, Nat.reduceLeDiff, if_false, if_true, Bool.false_eq_true, entry, setTg, setAll, wipeE, Ok_fdivI, Ok_mulI, Ok_addI, Ok_modI, Ok_intI, Ok_lenL hr]
  have ol : ∀ {a b : Bool}, a = true → (a || b) = true := fun h => by rw [h]; rfl
  have oR : ∀ {a b : Bool}, b = true → (a || b) = true := fun h => by rw [h, Bool.or_true]
  refine ⟨⟨hlen, by simp only [List.length_map]; omega⟩, ol rfl, by omega, by omega, by omega, trivial, hsum _ ?_⟩
  simp only [Ok_nil, Ok_cons, Ok_ret, Ok_ex, Ok_asg, Ok_if, Ok_par, Ok_for, Ok_while, Ok_nm, Ok_sub, Ok_tp2, Ok_c, Ok_v, Ok_bin, Ok_cmp, Ok_and, Ok_or, Ok_not, Ok_ite, Ok_sub', Ok_tup, Ok_lst, Ok_dct, Ok_callE, Ok_blt, Ok_bm, Ok_sl, Ok_lc, Ok_x0, Ok_x1, Ok_bool, Ok_unl0, lock_none, lockOf_str, lockOf_tup, lockOf_int, lockOf_two, Ok_ok, List.map_cons, List.map_nil, List.length_cons, List.length_nil, List.replicate, List.cons_append, List.nil_append, List.set_cons_zero, List.set_cons_succ, List.getElem?_cons_zero, List.getElem?_cons_succ, Nat.reduceAdd, Nat.reduceSub, Nat.reduceLeDiff, if_false, if_true, Bool.false_eq_true, entry, setTg, setAll, wipeE, Ok_fdivI, Ok_mulI, Ok_addI, Ok_modI, Ok_intI]
  refine ⟨by omega, ol rfl, oR rfl, ol rfl, by omega, ol rfl, ol (sm ?_), by omega, oR rfl, ?_⟩
  · have h1 := Int.emod_nonneg (((i + 13 * (k / ((cs.map D.int).length : Int))) % 1000003 + 977 * k) * 48271 + 31 * ((i + 13 * (k / ((cs.map D.int).length : Int))) / 1000003 % 999983) + cs.sum % 65521) (show (2147483647 : Int) ≠ 0 by decide)
    have h2 := Int.emod_lt_of_pos (((i + 13 * (k / ((cs.map D.int).length : Int))) % 1000003 + 977 * k) * 48271 + 31 * ((i + 13 * (k / ((cs.map D.int).length : Int))) / 1000003 % 999983) + cs.sum % 65521) (show (0 : Int) < 2147483647 by decide)
    constructor <;> omega
  · exact ⟨_, rfl, trivial⟩
theorem cut63 (ns : List Int) (h : ns ≠ []) : ∃ cs : List Int, cut (ns.map D.int) none (some 63) = cs.map .int ∧ cs ≠ [] ∧ cs.length ≤ 63 := by
  refine ⟨ns.take (min 63 ns.length), ?_, ?_, ?_⟩
  · simp [cut, sIx, List.map_take]
  · intro z
    have : (ns.take (min 63 ns.length)).length = 0 := by rw [z]; rfl
    have hl := List.length_pos_iff.mpr h
    rw [List.length_take] at this
    omega
  · rw [List.length_take]; omega
theorem number_ok (ns : List Int) (k : Int) (n : Nat) (st : Store) (h0 : st.get 0 = some (.flst (ns.map .int))) : Ok (callI T F (n + 1) i__law_number [.ref 0, .int k] st) fun v s => (∃ r : Int, v = .int r) ∧ Ext st s := by
  refine Ok_call (fn := ⟨2, 8, b__law_number⟩) rfl rfl ?_
  have go : ∀ (cs : List Int) (s : Store) (r : Nat), cs ≠ [] → cs.length ≤ 63 → Ext st s → s.get r = some (.lst (cs.map .int)) → Ok (exSs T F (callI T F n) (match b__law_number with | .cons _ x => x | .nil => .nil) [some (.ref 0), some (.int k), some (.ref r), none, none, none, none, none] s) fun fl s => match fl with | .nx _ => (∃ r : Int, D.non = .int r) ∧ Ext st s | .rt d => (∃ r : Int, d = .int r) ∧ Ext st s := fun cs s r h1 h2 h3 h4 =>
    (number_rest cs h1 h2 k r s h4 _ none).mono fun fl s' ⟨v, q1, q2⟩ => by subst q1; subst q2; exact ⟨⟨v, rfl⟩, h3⟩
  have e0 := Ext.add st (.lst [])
  obtain ⟨b, q1, q2, q3⟩ := ne_empty (T := T) (call := callI T F n) (e0.some h0) (add_get st (.lst []))
  show Ok (exSs T F (callI T F n) (.cons (.asg (.nm 2) (.ite (.cmp .ne (.v 0) (.lst .nil)) (.sl (.v 0) false (.c (.non)) true (.c (.int 63))) (.lst (.cons false (.c (.int 5)) .nil)))) (match b__law_number with | .cons _ x => x | .nil => .nil)) (entry 8 [.ref 0, .int k]) st) _
  rw [Ok_cons]
  simp only [Ok_asg, Ok_ite, Ok_cmp, Ok_v, Ok_lst, Ok_x0, Ok_x1, Ok_c, Ok_sl, Ok_ok, Ok_bind, entry, List.map_cons, List.map_nil, List.length_cons, List.length_nil, List.replicate, List.cons_append, List.nil_append, List.getElem?_cons_zero, List.getElem?_cons_succ, Nat.reduceAdd, Nat.reduceSub, if_false, if_true, Bool.false_eq_true, partV, Ok_nm, List.set_cons_zero, List.set_cons_succ]
  refine ⟨by decide, Ok.eq q1 ?_⟩
  rw [Ok_bool]
  cases b with
  | true =>
    obtain ⟨cs, c1, c2, c3⟩ := cut63 ns (q2 rfl)
    refine Ok.eq (a := .ref (st.add (.lst [])).sz) (s := (st.add (.lst [])).add (.lst (cs.map .int))) ?_ ?_
    · show (match lists? (st.add (.lst [])) 0 with | some xs => _ | none => _) = _
      unfold lists?
      rw [e0.some h0]
      show R.ok _ (Store.add _ (.lst (cut (ns.map D.int) none (some 63)))) = _
      rw [c1]
    · exact go cs _ _ c2 c3 (e0.trans (Ext.add _ _)) (add_get _ _)
  | false =>
    refine ⟨by decide, ?_⟩
    exact go [5] _ _ (by simp) (by simp) (e0.trans (Ext.add _ _)) (add_get _ _)
/-- the drawer stands at d -/
structure Dr (d : Nat) (ns : List Int) (s : Store) : Prop where
  ne : d ≠ 0
  sc : s.get 0 = some (.flst (ns.map .int))
  at_ : ∃ k : Int, s.get d = some (.lst [.ref 0, .int k])
theorem Dr.ext {d : Nat} {ns : List Int} {s t : Store} (h : Dr d ns s) (e : Ext s t) : Dr d ns t := ⟨h.ne, e.some h.sc, let ⟨k, hk⟩ := h.at_; ⟨k, e.some hk⟩⟩
theorem take_ok (d : Nat) (ns : List Int) (m : Int) (hm : 0 < m) (n : Nat) (st : Store) (h : Dr d ns st) : Ok (callI T F (n + 2) i__law_take [.ref d, .int m] st) fun v s => (∃ r : Int, v = .int r ∧ 0 ≤ r ∧ r < m) ∧ Dr d ns s ∧ ExtB d st s := by
  refine Ok_call (fn := ⟨2, 2, b__law_take⟩) rfl rfl ?_
  obtain ⟨k, hk⟩ := h.at_
  have hsub : ∀ (s : Store) (k : Int), s.get d = some (.lst [.ref 0, .int k]) → subV (.ref d) (.int 1) s = .ok (.int k) s ∧ subV (.ref d) (.int 0) s = .ok (.ref 0) s := fun s k hk => by
    constructor <;> (show (match s.get d with | some (.lst xs) => _ | some (.flst xs) => _ | some (.dct _ kvs) => _ | _ => _) = _; rw [hk]; rfl)
  simp only [b__law_take, Ok_nil, Ok_cons, Ok_ret, Ok_ex, Ok_asg, Ok_if, Ok_par, Ok_for, Ok_while, Ok_nm, Ok_sub, Ok_tp2, Ok_c, Ok_v, Ok_bin, Ok_cmp, Ok_and, Ok_or, Ok_not, Ok_ite, Ok_sub', Ok_tup, Ok_lst, Ok_dct, Ok_callE, Ok_blt, Ok_bm, Ok_sl, Ok_lc, Ok_x0, Ok_x1, Ok_bool, Ok_unl0, lock_none, lockOf_str, lockOf_tup, lockOf_int, lockOf_two, Ok_ok, List.map_cons, List.map_nil, List.length_cons, List.length_nil, List.replicate, List.cons_append, List.nil_append, List.set_cons_zero, List.set_cons_succ, List.getElem?_cons_zero, List.getElem?_cons_succ, Nat.reduceAdd, Nat.reduceSub, Nat.reduceLeDiff, if_false, if_true, Bool.false_eq_true, entry, setTg, setAll, wipeE]
  refine Ok.eq (hsub st k hk).1 ?_
  simp only [Ok_nil, Ok_cons, Ok_ret, Ok_ex, Ok_asg, Ok_if, Ok_par, Ok_for, Ok_while, Ok_nm, Ok_sub, Ok_tp2, Ok_c, Ok_v, Ok_bin, Ok_cmp, Ok_and, Ok_or, Ok_not, Ok_ite, Ok_sub', Ok_tup, Ok_lst, Ok_dct, Ok_callE, Ok_blt, Ok_bm, Ok_sl, Ok_lc, Ok_x0, Ok_x1, Ok_bool, Ok_unl0, lock_none, lockOf_str, lockOf_tup, lockOf_int, lockOf_two, Ok_ok, List.map_cons, List.map_nil, List.length_cons, List.length_nil, List.replicate, List.cons_append, List.nil_append, List.set_cons_zero, List.set_cons_succ, List.getElem?_cons_zero, List.getElem?_cons_succ, Nat.reduceAdd, Nat.reduceSub, Nat.reduceLeDiff, if_false, if_true, Bool.false_eq_true, entry, setTg, setAll, wipeE, Ok_addI]
  refine Ok.eq (a := ()) (s := st.set d (.lst [.ref 0, .int (k + 1)])) ?_ ?_
  · show (match st.get d with | some (.lst xs) => _ | some (.dct false kvs) => _ | _ => _) = _
    rw [hk]; rfl
  have hd : d < st.sz := Store.get_lt hk
  have g1 : (st.set d (.lst [.ref 0, .int (k + 1)])).get d = some (.lst [.ref 0, .int (k + 1)]) := Store.get_set_self hd
  have g0 : (st.set d (.lst [.ref 0, .int (k + 1)])).get 0 = some (.flst (ns.map .int)) := by rw [Store.get_set_ne (Ne.symm h.ne)]; exact h.sc
  refine Ok.eq (hsub _ _ g1).2 (Ok.eq (hsub _ _ g1).1 ?_)
  simp only [Ok_nil, Ok_cons, Ok_ret, Ok_ex, Ok_asg, Ok_if, Ok_par, Ok_for, Ok_while, Ok_nm, Ok_sub, Ok_tp2, Ok_c, Ok_v, Ok_bin, Ok_cmp, Ok_and, Ok_or, Ok_not, Ok_ite, Ok_sub', Ok_tup, Ok_lst, Ok_dct, Ok_callE, Ok_blt, Ok_bm, Ok_sl, Ok_lc, Ok_x0, Ok_x1, Ok_bool, Ok_unl0, lock_none, lockOf_str, lockOf_tup, lockOf_int, lockOf_two, Ok_ok, List.map_cons, List.map_nil, List.length_cons, List.length_nil, List.replicate, List.cons_append, List.nil_append, List.set_cons_zero, List.set_cons_succ, List.getElem?_cons_zero, List.getElem?_cons_succ, Nat.reduceAdd, Nat.reduceSub, Nat.reduceLeDiff, if_false, if_true, Bool.false_eq_true, entry, setTg, setAll, wipeE, Ok_intI]
  refine (number_ok ns (k + 1) n _ g0).mono fun v s ⟨⟨r, hr⟩, e⟩ => ?_
  subst hr
  simp only [Ok_nil, Ok_cons, Ok_ret, Ok_ex, Ok_asg, Ok_if, Ok_par, Ok_for, Ok_while, Ok_nm, Ok_sub, Ok_tp2, Ok_c, Ok_v, Ok_bin, Ok_cmp, Ok_and, Ok_or, Ok_not, Ok_ite, Ok_sub', Ok_tup, Ok_lst, Ok_dct, Ok_callE, Ok_blt, Ok_bm, Ok_sl, Ok_lc, Ok_x0, Ok_x1, Ok_bool, Ok_unl0, lock_none, lockOf_str, lockOf_tup, lockOf_int, lockOf_two, Ok_ok, List.map_cons, List.map_nil, List.length_cons, List.length_nil, List.replicate, List.cons_append, List.nil_append, List.set_cons_zero, List.set_cons_succ, List.getElem?_cons_zero, List.getElem?_cons_succ, Nat.reduceAdd, Nat.reduceSub, Nat.reduceLeDiff, if_false, if_true, Bool.false_eq_true, entry, setTg, setAll, wipeE, Ok_intI, Ok_modI]
  exact ⟨hm, ⟨_, rfl, Int.emod_nonneg _ (by omega), Int.emod_lt_of_pos _ hm⟩, ⟨h.ne, e.some g0, k + 1, e.some g1⟩, (ExtB.set d st _).trans e.b⟩
theorem pick_ok (d t : Nat) (ns : List Int) (xs : List D) (hx : xs ≠ []) (hxl : xs.length ≤ 1000) (ht : t ≠ d) (n : Nat) (st : Store) (h : Dr d ns st) (hg : st.get t = some (.lst xs)) : Ok (callI T F (n + 3) i__law_pick [.ref d, .ref t] st) fun v s => v ∈ xs ∧ Dr d ns s ∧ ExtB d st s := by
  refine Ok_call (fn := ⟨2, 2, b__law_pick⟩) rfl rfl ?_
  simp only [b__law_pick, Ok_nil, Ok_cons, Ok_ret, Ok_ex, Ok_asg, Ok_if, Ok_par, Ok_for, Ok_while, Ok_nm, Ok_sub, Ok_tp2, Ok_c, Ok_v, Ok_bin, Ok_cmp, Ok_and, Ok_or, Ok_not, Ok_ite, Ok_sub', Ok_tup, Ok_lst, Ok_dct, Ok_callE, Ok_blt, Ok_bm, Ok_sl, Ok_lc, Ok_x0, Ok_x1, Ok_bool, Ok_unl0, lock_none, lockOf_str, lockOf_tup, lockOf_int, lockOf_two, Ok_ok, List.map_cons, List.map_nil, List.length_cons, List.length_nil, List.replicate, List.cons_append, List.nil_append, List.set_cons_zero, List.set_cons_succ, List.getElem?_cons_zero, List.getElem?_cons_succ, Nat.reduceAdd, Nat.reduceSub, Nat.reduceLeDiff, if_false, if_true, Bool.false_eq_true, entry, setTg, setAll, wipeE, Ok_lenL hg]
  have hl := List.length_pos_iff.mpr hx
  refine (take_ok d ns xs.length (by omega) n st h).mono fun v s ⟨⟨r, hr, r1, r2⟩, hd, e⟩ => ?_
  subst hr
  obtain ⟨y, hy1, hy2⟩ := at_mod hx r
  rw [Int.emod_eq_of_lt r1 r2] at hy1
  refine Ok.eq (a := y) (s := s) ?_ ⟨hy2, hd, e⟩
  show (match s.get t with | some (.lst xs) => _ | some (.flst xs) => _ | some (.dct _ kvs) => _ | _ => _) = _
  rw [e.some hg ht]
  show ofOpt (atP xs r) s = _
  rw [hy1]; rfl
end Lk02
namespace Lk02
open VI
theorem rng_nat {r : Int} (h : 0 ≤ r) : (D.int r) = .int ((r.toNat : Nat) : Int) := by congr 1; omega
theorem way_ok (d : Nat) (ns : List Int) (n : Nat) (st : Store) (h : Dr d ns st) : Ok (callI T F (n + 4) i__law_way [.ref d, .int 6] st) fun v s => ∃ ws, v = .tup (wd ws) ∧ ws.length ≤ 6 ∧ (∀ w ∈ ws, w ∈ WORDS) ∧ Dr d ns s ∧ ExtB d st s := by
  refine Ok_call (fn := ⟨2, 4, b__law_way⟩) rfl rfl ?_
  simp only [b__law_way, Ok_nil, Ok_cons, Ok_ret, Ok_ex, Ok_asg, Ok_if, Ok_par, Ok_for, Ok_while, Ok_nm, Ok_sub, Ok_tp2, Ok_c, Ok_v, Ok_bin, Ok_cmp, Ok_and, Ok_or, Ok_not, Ok_ite, Ok_sub', Ok_tup, Ok_lst, Ok_dct, Ok_callE, Ok_blt, Ok_bm, Ok_sl, Ok_lc, Ok_x0, Ok_x1, Ok_bool, Ok_unl0, lock_none, lockOf_str, lockOf_tup, lockOf_int, lockOf_two, Ok_ok, List.map_cons, List.map_nil, List.length_cons, List.length_nil, List.replicate, List.cons_append, List.nil_append, List.set_cons_zero, List.set_cons_succ, List.getElem?_cons_zero, List.getElem?_cons_succ, Nat.reduceAdd, Nat.reduceSub, Nat.reduceLeDiff, if_false, if_true, Bool.false_eq_true, entry, setTg, setAll, wipeE, Ok_addI]
  refine ⟨by decide, ?_⟩
  obtain ⟨k, hk⟩ := h.at_
  have hd : d < st.sz := Store.get_lt hk
  generalize hs1 : st.add (.lst [.str [97, 108, 108], .str [98, 111, 116, 104], .str [99, 97, 114, 101], .str [108, 111, 110, 101], .str [108, 111, 110, 101, 115], .str [112, 97, 105, 114, 115]]) = s1
  have e1 : Ext st s1 := by rw [← hs1]; exact Ext.add _ _
  have g1 : s1.get st.sz = some (.lst (wd WORDS)) := by rw [← hs1]; exact add_get _ _
  refine (take_ok d ns (6 + 1) (by decide) (n + 1) s1 (h.ext e1)).mono fun v s2 ⟨⟨r, hr, r1, r2⟩, hd2, e2⟩ => ?_
  subst hr
  rw [rng_nat r1]
  simp only [lockOf_int, lock_none, Ok_unl0, Ok_bind, Ok_noexc]
  refine walk_rem (xs := (List.range r.toNat).map fun (i : Nat) => D.int i) (fun l acc s => Dr d ns s ∧ ExtB d st s ∧ s.get st.sz = some (.lst (wd WORDS)) ∧ ∃ ws, acc = wd ws ∧ (∀ w ∈ ws, w ∈ WORDS) ∧ ws.length + l.length ≤ 6) (fun i l a s _ => it_rg (by omega)) ?_ ?_ (by simp [F]; omega) ⟨hd2, e1.b.trans e2, e2.some g1 (by omega), [], rfl, (fun w hw => by cases hw), by simp; omega⟩
  · rintro x l acc s ⟨i1, i2, i3, ws, rfl, i4, i5⟩
    simp only [bodyL, Ok_bind, Ok_nil, Ok_cons, Ok_ret, Ok_ex, Ok_asg, Ok_if, Ok_par, Ok_for, Ok_while, Ok_nm, Ok_sub, Ok_tp2, Ok_c, Ok_v, Ok_bin, Ok_cmp, Ok_and, Ok_or, Ok_not, Ok_ite, Ok_sub', Ok_tup, Ok_lst, Ok_dct, Ok_callE, Ok_blt, Ok_bm, Ok_sl, Ok_lc, Ok_x0, Ok_x1, Ok_bool, Ok_unl0, lock_none, lockOf_str, lockOf_tup, lockOf_int, lockOf_two, Ok_ok, List.map_cons, List.map_nil, List.length_cons, List.length_nil, List.replicate, List.cons_append, List.nil_append, List.set_cons_zero, List.set_cons_succ, List.getElem?_cons_zero, List.getElem?_cons_succ, Nat.reduceAdd, Nat.reduceSub, Nat.reduceLeDiff, if_false, if_true, Bool.false_eq_true, entry, setTg, setAll, wipeE]
    refine ⟨by decide, (Ok_addL ((Ext.add s _).some i3) (add_get _ _)).mpr ⟨by decide, ?_⟩⟩
    generalize hs3 : (s.add (.lst [.str [112, 97, 105, 114, 115], .str [99, 97, 114, 101]])).add (.lst (wd WORDS ++ [.str [112, 97, 105, 114, 115], .str [99, 97, 114, 101]])) = s3
    have e3 : Ext s s3 := by rw [← hs3]; exact (Ext.add _ _).trans (Ext.add _ _)
    have g3 : s3.get (s.add (.lst [.str [112, 97, 105, 114, 115], .str [99, 97, 114, 101]])).sz = some (.lst (wd WORDS ++ [.str [112, 97, 105, 114, 115], .str [99, 97, 114, 101]])) := by rw [← hs3]; exact add_get _ _
    have hne : (s.add (.lst [.str [112, 97, 105, 114, 115], .str [99, 97, 114, 101]])).sz ≠ d := by rw [Store.add_sz]; have := i2.le; omega
    refine (pick_ok d _ ns _ (by simp [wd, WORDS]) (by decide) hne n s3 (i1.ext e3) g3).mono fun v s4 ⟨hv, hd4, e4⟩ => ?_
    have hv' : ∃ w ∈ WORDS, v = .str w := by
      rcases List.mem_append.mp hv with z | z
      · obtain ⟨w, hw, e⟩ := List.mem_map.mp z; exact ⟨w, hw, e.symm⟩
      · simp only [List.mem_cons, List.not_mem_nil, or_false] at z
        rcases z with z | z
        · exact ⟨wPairs, by decide, z⟩
        · exact ⟨wCare, by decide, z⟩
    obtain ⟨w, hw, rfl⟩ := hv'
    simp only [List.length_cons] at i5
    refine Ok_iff.mpr ⟨by simp only [wd, List.length_map, line]; omega, hd4, (i2.trans e3.b).trans e4, e4.some (e3.some i3) (by omega), ws ++ [w], by simp [wd], ?_, by simp only [List.length_append, List.length_cons, List.length_nil]; omega⟩
    intro z hz
    rcases List.mem_append.mp hz with z1 | z1
    · exact i4 z z1
    · rw [List.mem_singleton] at z1; rw [z1]; exact hw
  · rintro acc s ⟨i1, i2, i3, ws, rfl, i4, i5⟩
    simp only [Ok_nil, Ok_cons, Ok_ret, Ok_ex, Ok_asg, Ok_if, Ok_par, Ok_for, Ok_while, Ok_nm, Ok_sub, Ok_tp2, Ok_c, Ok_v, Ok_bin, Ok_cmp, Ok_and, Ok_or, Ok_not, Ok_ite, Ok_sub', Ok_tup, Ok_lst, Ok_dct, Ok_callE, Ok_blt, Ok_bm, Ok_sl, Ok_lc, Ok_x0, Ok_x1, Ok_bool, Ok_unl0, lock_none, lockOf_str, lockOf_tup, lockOf_int, lockOf_two, Ok_ok, List.map_cons, List.map_nil, List.length_cons, List.length_nil, List.replicate, List.cons_append, List.nil_append, List.set_cons_zero, List.set_cons_succ, List.getElem?_cons_zero, List.getElem?_cons_succ, Nat.reduceAdd, Nat.reduceSub, Nat.reduceLeDiff, if_false, if_true, Bool.false_eq_true, entry, setTg, setAll, wipeE]
    refine (Ok_tupL (add_get _ _)).mpr ⟨ws, rfl, by simpa using i5, i4, i1.ext (Ext.add _ _), i2.trans (Ext.add _ _).b⟩
theorem notin_al : ∀ w ∈ WORDS, ∀ (call : Caller) (s : Store), cmpC T call .notin (.str w) (.tup [.str [97, 108, 108], .str [108, 111, 110, 101]]) s = .ok (.bl (stan w)) s := by
  intro w hw call s
  simp only [WORDS, List.mem_cons, List.not_mem_nil, or_false] at hw
  rcases hw with rfl | rfl | rfl | rfl | rfl | rfl <;> rfl
theorem val_snoc : ∀ {p : List (List Nat)} {hs : List Bool} {w : List Nat} {b : Bool}, val p hs = true → (b = true → stan w = true) → val (p ++ [w]) (hs ++ [b]) = true
  | w0 :: p, h0 :: hs, w, b, hv, hb => by
    simp only [val, Bool.and_eq_true] at hv
    simp only [List.cons_append, val, Bool.and_eq_true]
    exact ⟨hv.1, val_snoc hv.2 hb⟩
  | [], [], w, b, _, hb => by
    cases b with
    | false => rfl
    | true => simp [val, hb rfl]
  | [], _ :: _, _, _, z, _ => by cases z
  | _ :: _, [], _, _, z, _ => by cases z
theorem any_ok (d : Nat) (ns : List Int) (ws : List (List Nat)) (hw : ∀ w ∈ ws, w ∈ WORDS) (hl : ws.length ≤ 6) (n : Nat) (st : Store) (h : Dr d ns st) : Ok (callI T F (n + 3) i__law_any_standing [.ref d, .tup (wd ws)] st) fun v s => ∃ hs, v = .tup (bd' hs) ∧ val ws hs = true ∧ Dr d ns s ∧ ExtB d st s := by
  refine Ok_call (fn := ⟨2, 3, b__law_any_standing⟩) rfl rfl ?_
  simp only [b__law_any_standing, Ok_nil, Ok_cons, Ok_ret, Ok_ex, Ok_asg, Ok_if, Ok_par, Ok_for, Ok_while, Ok_nm, Ok_sub, Ok_tp2, Ok_c, Ok_v, Ok_bin, Ok_cmp, Ok_and, Ok_or, Ok_not, Ok_ite, Ok_sub', Ok_tup, Ok_lst, Ok_dct, Ok_callE, Ok_blt, Ok_bm, Ok_sl, Ok_lc, Ok_x0, Ok_x1, Ok_bool, Ok_unl0, lock_none, lockOf_str, lockOf_tup, lockOf_int, lockOf_two, Ok_ok, List.map_cons, List.map_nil, List.length_cons, List.length_nil, List.replicate, List.cons_append, List.nil_append, List.set_cons_zero, List.set_cons_succ, List.getElem?_cons_zero, List.getElem?_cons_succ, Nat.reduceAdd, Nat.reduceSub, Nat.reduceLeDiff, if_false, if_true, Bool.false_eq_true, entry, setTg, setAll, wipeE, Ok_bind, Ok_noexc]
  refine walk_rem (xs := wd ws) (fun l acc s => Dr d ns s ∧ ExtB d st s ∧ ∃ p ws' hs, l = wd ws' ∧ ws = p ++ ws' ∧ acc = bd' hs ∧ val p hs = true) (fun i l a s _ => it_tup) ?_ ?_ (by simp [F, wd]; omega) ⟨h, ExtB.refl _ _, [], ws, [], rfl, rfl, rfl, rfl⟩
  · rintro x l acc s ⟨i1, i2, p, ws', hs, i3, i4, rfl, i5⟩
    cases ws' with
    | nil => cases i3
    | cons w ws' =>
      cases i3
      have hwm := hw w (by rw [i4]; simp)
      have hpl : hs.length ≤ 6 := by
        have := val_len i5
        rw [i4] at hl
        simp only [List.length_append] at hl
        omega
      simp only [bodyL, Ok_bind, Ok_nil, Ok_cons, Ok_ret, Ok_ex, Ok_asg, Ok_if, Ok_par, Ok_for, Ok_while, Ok_nm, Ok_sub, Ok_tp2, Ok_c, Ok_v, Ok_bin, Ok_cmp, Ok_and, Ok_or, Ok_not, Ok_ite, Ok_sub', Ok_tup, Ok_lst, Ok_dct, Ok_callE, Ok_blt, Ok_bm, Ok_sl, Ok_lc, Ok_x0, Ok_x1, Ok_bool, Ok_unl0, lock_none, lockOf_str, lockOf_tup, lockOf_int, lockOf_two, Ok_ok, List.map_cons, List.map_nil, List.length_cons, List.length_nil, List.replicate, List.cons_append, List.nil_append, List.set_cons_zero, List.set_cons_succ, List.getElem?_cons_zero, List.getElem?_cons_succ, Nat.reduceAdd, Nat.reduceSub, Nat.reduceLeDiff, if_false, if_true, Bool.false_eq_true, entry, setTg, setAll, wipeE]
      refine ⟨by decide, Ok.eq (notin_al w hwm _ s) ?_⟩
      have fin : ∀ (b : Bool) (s' : Store), (b = true → stan w = true) → Dr d ns s' → ExtB d s s' → Ok (if (bd' hs).length < line then R.ok (bd' hs ++ [D.bl b]) s' else .stuck) fun a' s => Dr d ns s ∧ ExtB d st s ∧ ∃ p ws'_1 hs, wd ws' = wd ws'_1 ∧ ws = p ++ ws'_1 ∧ a' = bd' hs ∧ val p hs = true := fun b s' hb hd he => by
        refine Ok_iff.mpr ⟨by simp only [bd', List.length_map, line]; omega, hd, i2.trans he, p ++ [w], ws', hs ++ [b], rfl, by rw [i4]; simp, by simp [bd'], val_snoc i5 hb⟩
      cases hst : stan w with
      | false =>
        simp only [Ok_nil, Ok_cons, Ok_ret, Ok_ex, Ok_asg, Ok_if, Ok_par, Ok_for, Ok_while, Ok_nm, Ok_sub, Ok_tp2, Ok_c, Ok_v, Ok_bin, Ok_cmp, Ok_and, Ok_or, Ok_not, Ok_ite, Ok_sub', Ok_tup, Ok_lst, Ok_dct, Ok_callE, Ok_blt, Ok_bm, Ok_sl, Ok_lc, Ok_x0, Ok_x1, Ok_bool, Ok_unl0, lock_none, lockOf_str, lockOf_tup, lockOf_int, lockOf_two, Ok_ok, List.map_cons, List.map_nil, List.length_cons, List.length_nil, List.replicate, List.cons_append, List.nil_append, List.set_cons_zero, List.set_cons_succ, List.getElem?_cons_zero, List.getElem?_cons_succ, Nat.reduceAdd, Nat.reduceSub, Nat.reduceLeDiff, if_false, if_true, Bool.false_eq_true, entry, setTg, setAll, wipeE]
        exact fin false s (fun z => by cases z) i1 (ExtB.refl _ _)
      | true =>
        simp only [Ok_nil, Ok_cons, Ok_ret, Ok_ex, Ok_asg, Ok_if, Ok_par, Ok_for, Ok_while, Ok_nm, Ok_sub, Ok_tp2, Ok_c, Ok_v, Ok_bin, Ok_cmp, Ok_and, Ok_or, Ok_not, Ok_ite, Ok_sub', Ok_tup, Ok_lst, Ok_dct, Ok_callE, Ok_blt, Ok_bm, Ok_sl, Ok_lc, Ok_x0, Ok_x1, Ok_bool, Ok_unl0, lock_none, lockOf_str, lockOf_tup, lockOf_int, lockOf_two, Ok_ok, List.map_cons, List.map_nil, List.length_cons, List.length_nil, List.replicate, List.cons_append, List.nil_append, List.set_cons_zero, List.set_cons_succ, List.getElem?_cons_zero, List.getElem?_cons_succ, Nat.reduceAdd, Nat.reduceSub, Nat.reduceLeDiff, if_false, if_true, Bool.false_eq_true, entry, setTg, setAll, wipeE]
        refine (take_ok d ns 2 (by decide) n s i1).mono fun v s4 ⟨⟨r, hr, r1, r2⟩, hd4, e4⟩ => ?_
        subst hr
        refine Ok.eq (a := .bl (r == 0)) (s := s4) rfl ?_
        exact fin (r == 0) s4 (fun _ => hst) hd4 e4
  · rintro acc s ⟨i1, i2, p, ws', hs, i3, i4, rfl, i5⟩
    have : ws' = [] := by cases ws' with | nil => rfl | cons _ _ => cases i3
    subst this
    rw [List.append_nil] at i4
    subst i4
    exact (Ok_tupL (add_get _ _)).mpr ⟨hs, rfl, i5, i1.ext (Ext.add _ _), i2.trans (Ext.add _ _).b⟩
end Lk02
namespace Lk02
open VI
/-! ### searches -/
theorem eqvs_bd : ∀ (a b : List Bool), D.eqvs (bd' a) (bd' b) = decide (a = b)
  | [], [] => rfl
  | [], _ :: _ => rfl
  | _ :: _, [] => rfl
  | x :: a, y :: b => by
    show (D.eqv (.bl x) (.bl y) && D.eqvs (bd' a) (bd' b)) = _
    rw [eqvs_bd a b]
    simp only [D.eqv]
    cases x <;> cases y <;> simp
theorem eqv_bd (a b : List Bool) : D.eqv (.tup (bd' a)) (.tup (bd' b)) = decide (a = b) := by
  show D.eqvs _ _ = _
  exact eqvs_bd a b
def kv (f : List (List Bool)) : List (D × D) := f.map fun h => (.tup (bd' h), .bl true)
theorem look_kv (h : List Bool) : ∀ f : List (List Bool), (lookD (kv f) (.tup (bd' h))).isSome = decide (h ∈ f)
  | [] => rfl
  | a :: f => by
    show (if D.eqv (.tup (bd' a)) (.tup (bd' h)) then some (D.bl true) else lookD (kv f) (.tup (bd' h))).isSome = _
    rw [eqv_bd]
    by_cases e : a = h
    · subst e; simp
    · have e' : ¬ h = a := fun z => e z.symm
      simp only [e, decide_false, Bool.false_eq_true, if_false]
      rw [look_kv h f]
      simp [e']
theorem flats_bd : ∀ h : List Bool, D.flats (bd' h) = true ∧ D.depths (bd' h) = 0
  | [] => ⟨rfl, rfl⟩
  | b :: h => by
    obtain ⟨h1, h2⟩ := flats_bd h
    refine ⟨?_, ?_⟩
    · show (D.flat (.bl b) && D.flats (bd' h)) = true
      rw [h1]; rfl
    · show max (D.depth (.bl b)) (D.depths (bd' h)) = 0
      rw [h2]; rfl
theorem kk_bd (h : List Bool) : kk (.tup (bd' h)) = 2 := by
  show (if (D.flats (bd' h) && decide (D.depths (bd' h) < 8)) = true then 2 else 0) = 2
  rw [(flats_bd h).1, (flats_bd h).2]; rfl
theorem kkOk_kv (f : List (List Bool)) (h : List Bool) : kkOk (kv f) (.tup (bd' h)) = true := by
  cases f with
  | nil => show (kk _ != 0) = true; rw [kk_bd]; rfl
  | cons a f => show (kk _ != 0 && kk _ == kk _) = true; rw [kk_bd]; show ((2 : Nat) != 0 && 2 == kk (D.tup (bd' a))) = true; rw [kk_bd]; rfl
theorem put_kv {f : List (List Bool)} {h : List Bool} (hn : h ∉ f) : putD (kv f) (.tup (bd' h)) (.bl true) = kv (f ++ [h]) := by
  unfold putD
  rw [look_kv, if_neg (by simp [hn])]
  simp [kv]
theorem gd_bd (h : List Bool) (n : Nat) : gd (n + 1) (.tup (bd' h)) = true := by
  show (bd' h).all (gd n) = true
  rw [List.all_eq_true]
  intro x hx
  obtain ⟨b, _, rfl⟩ := List.mem_map.mp hx
  cases n <;> rfl
theorem nodup_len {α : Type} [BEq α] [LawfulBEq α] : ∀ {l m : List α}, l.Nodup → (∀ x ∈ l, x ∈ m) → l.length ≤ m.length
  | [], m, _, _ => Nat.zero_le _
  | x :: l, m, hn, hs => by
    rw [List.nodup_cons] at hn
    have hx := hs x List.mem_cons_self
    have ih := nodup_len (l := l) (m := m.erase x) hn.2 (fun y hy => (List.mem_erase_of_ne (fun e => by subst e; exact hn.1 hy)).mpr (hs y (List.mem_cons_of_mem _ hy)))
    rw [List.length_erase_of_mem hx] at ih
    have : 0 < m.length := List.length_pos_of_mem hx
    rw [List.length_cons]; omega
def allB : Nat → List (List Bool)
  | 0 => [[]]
  | n + 1 => (allB n).map (false :: ·) ++ (allB n).map (true :: ·)
theorem allB_len : ∀ n, (allB n).length = 2 ^ n
  | 0 => rfl
  | n + 1 => by simp only [allB, List.length_append, List.length_map, allB_len n, Nat.pow_succ]; omega
theorem mem_allB : ∀ (h : List Bool), h ∈ allB h.length
  | [] => by simp [allB]
  | b :: h => by
    simp only [List.length_cons, allB, List.mem_append, List.mem_map]
    cases b with
    | false => exact .inl ⟨h, mem_allB h, rfl⟩
    | true => exact .inr ⟨h, mem_allB h, rfl⟩
/-- what comes about -/
inductive Rc (ws : List (List Nat)) : List Bool → Prop
  | start : Rc ws (List.replicate ws.length false)
  | next {h : List Bool} {c : Nat} : Rc ws h → c ∈ SIGNS → Rc ws (rb ws h [c]).1
theorem val_start : ∀ ws : List (List Nat), val ws (List.replicate ws.length false) = true
  | [] => rfl
  | w :: ws => by simp only [List.length_cons, List.replicate_succ, val, Bool.not_false, Bool.true_or, Bool.true_and]; exact val_start ws
theorem sg1 {c : Nat} (hc : c ∈ SIGNS) : ∀ k ∈ [c], k ∈ SIGNS := fun k hk => by rw [List.mem_singleton] at hk; rw [hk]; exact hc
theorem Rc.val {ws : List (List Nat)} (hw : ∀ w ∈ ws, w ∈ WORDS) {h : List Bool} (r : Rc ws h) : val ws h = true := by
  induction r with
  | start => exact val_start ws
  | next _ hc ih => exact rb_val hw (sg1 hc) ih
theorem found_len {ws : List (List Nat)} (hw : ∀ w ∈ ws, w ∈ WORDS) (hl : ws.length ≤ 6) {f : List (List Bool)} (hn : f.Nodup) (hr : ∀ h ∈ f, Rc ws h) : f.length ≤ 64 := by
  have := nodup_len (m := allB ws.length) hn (fun h hh => by
    have := val_len ((hr h hh).val hw)
    rw [← this]; exact mem_allB h)
  rw [allB_len] at this
  exact Nat.le_trans this (pow6 hl)
theorem ne_nil {T : Tbl} {call : Caller} {s : Store} {a b : Nat} {q : List (List Bool)} (ha : s.get a = some (.lst (q.map fun h => .tup (bd' h)))) (hb : s.get b = some (.lst [])) : cmpC T call .ne (.ref a) (.ref b) s = .ok (.bl !q.isEmpty) s := by
  have key : ∀ q : List (List Bool), ∃ ps, allOpt (dat 59 s) (q.map fun h => D.tup (bd' h)) = some ps ∧ ps.length = q.length := fun q => by
    induction q with
    | nil => exact ⟨[], rfl, rfl⟩
    | cons h q ih =>
      obtain ⟨ps, h1, h2⟩ := ih
      obtain ⟨p, hp⟩ := dat_gd s 59 (.tup (bd' h)) (gd_bd h 58)
      exact ⟨p :: ps, by rw [List.map_cons]; unfold allOpt; rw [hp, h1], by simp [h2]⟩
  obtain ⟨ps, k1, k2⟩ := key q
  have h1 : dat 60 s (.ref a) = some (.lst ps) := by
    show (match s.get a with | some (.lst xs) => (allOpt (dat 59 s) xs).map Pd.lst | some (.flst xs) => (allOpt (dat 59 s) xs).map Pd.lst | _ => none) = _
    rw [ha]
    simp only [k1, Option.map_some]
  have h2 : dat 60 s (.ref b) = some (.lst []) := by
    show (match s.get b with | some (.lst xs) => (allOpt (dat 59 s) xs).map Pd.lst | some (.flst xs) => (allOpt (dat 59 s) xs).map Pd.lst | _ => none) = _
    rw [hb]; rfl
  have hc : clsAt s (.ref a) = none := by
    show (match s.get a with | some (.ins c _) => some c | _ => none) = none
    rw [ha]
  unfold cmpC
  rw [hc]
  show ofOpt ((eqS s (.ref a) (.ref b)).map fun b => D.bl !b) s = _
  unfold eqS
  rw [h1, h2]
  cases q with
  | nil =>
    have : ps = [] := List.length_eq_zero_iff.mp k2
    subst this; rfl
  | cons h q =>
    cases ps with
    | nil => cases k2
    | cons p ps => rfl
theorem notin_kv {T : Tbl} {call : Caller} {s : Store} {a : Nat} {f : List (List Bool)} {h : List Bool} (ha : s.get a = some (.dct false (kv f))) : cmpC T call .notin (.tup (bd' h)) (.ref a) s = .ok (.bl !(decide (h ∈ f))) s := by
  unfold cmpC
  show ofOpt ((inV (.tup (bd' h)) (.ref a) s).map fun b => D.bl !b) s = _
  unfold inV
  simp only [ha, kkOk_kv, if_true, look_kv, Option.map_some]
  rfl
theorem set_kv {s : Store} {a : Nat} {f : List (List Bool)} {h : List Bool} (ha : s.get a = some (.dct false (kv f))) (hn : h ∉ f) (hl : f.length < 1000) : setItemV (.ref a) (.tup (bd' h)) (.bl true) s = .ok () (s.set a (.dct false (kv (f ++ [h])))) := by
  unfold setItemV
  simp only [ha, kkOk_kv, put_kv hn, Bool.true_and]
  rw [if_pos]
  simp only [kv, List.length_map, line, decide_eq_true_eq]; omega
theorem list_kv {s : Store} {a : Nat} {f : List (List Bool)} (ha : s.get a = some (.dct false (kv f))) : bltV .list [.ref a] s = .ok (.ref s.sz) (s.add (.lst (f.map fun h => .tup (bd' h)))) := by
  show (match s.get a with | some (.lst xs) => _ | some (.flst xs) => _ | some (.dct _ kvs) => _ | _ => _) = _
  rw [ha]
  simp only [kv, List.map_map]
  rfl
def closed (ws : List (List Nat)) (f g : List (List Bool)) : Prop := ∀ h ∈ f, ∀ c ∈ SIGNS, (rb ws h [c]).1 ∈ g
theorem Rc.mem {ws : List (List Nat)} {f : List (List Bool)} (h0 : List.replicate ws.length false ∈ f) (hc : closed ws f f) {h : List Bool} (r : Rc ws h) : h ∈ f := by
  induction r with
  | start => exact h0
  | next _ hc' ih => exact hc _ ih _ hc'
theorem all_standings_ok (ws : List (List Nat)) (hw : ∀ w ∈ ws, w ∈ WORDS) (hl : ws.length ≤ 6) (n : Nat) (st : Store) : Ok (callI T F (n + 5) i_all_standings [.tup (wd ws)] st) fun v s => ∃ (r : Nat) (f : List (List Bool)), v = .ref r ∧ s.get r = some (.lst (f.map fun h => .tup (bd' h))) ∧ f.Nodup ∧ (∀ h, h ∈ f ↔ Rc ws h) ∧ Ext st s ∧ st.sz ≤ r := by
  refine Ok_call (fn := ⟨1, 6, b_all_standings⟩) rfl rfl ?_
  simp only [b_all_standings, Ok_nil, Ok_cons, Ok_ret, Ok_ex, Ok_asg, Ok_if, Ok_par, Ok_for, Ok_while, Ok_nm, Ok_sub, Ok_tp2, Ok_c, Ok_v, Ok_bin, Ok_cmp, Ok_and, Ok_or, Ok_not, Ok_ite, Ok_sub', Ok_tup, Ok_lst, Ok_dct, Ok_callE, Ok_blt, Ok_bm, Ok_sl, Ok_lc, Ok_x0, Ok_x1, Ok_bool, Ok_unl0, lock_none, lockOf_str, lockOf_tup, lockOf_int, lockOf_two, Ok_ok, List.map_cons, List.map_nil, List.length_cons, List.length_nil, List.replicate, List.cons_append, List.nil_append, List.set_cons_zero, List.set_cons_succ, List.getElem?_cons_zero, List.getElem?_cons_succ, Nat.reduceAdd, Nat.reduceSub, Nat.reduceLeDiff, if_false, if_true, Bool.false_eq_true, entry, setTg, setAll, wipeE]
  refine (check_way_ok ws hw hl (n + 3) st).mono fun v s1 ⟨hv1, e1⟩ => ?_
  refine Ok.eq (start_of_ok ws hl (n + 3) s1) ?_
  simp only [mkDict, Ok_bind]
  have g0 : (s1.add (.dct false [])).get s1.sz = some (.dct false (kv [])) := add_get _ _
  refine Ok.eq (set_kv g0 (by simp) (by simp)) ?_
  refine Ok_ok.mpr (Ok.eq (start_of_ok ws hl (n + 3) _) ?_)
  refine ⟨by decide, ?_⟩
  generalize hs2 : ((s1.add (.dct false [])).set s1.sz (.dct false (kv ([] ++ [List.replicate ws.length false])))) = s2
  have e2 : Ext st s2 := by rw [← hs2]; exact (e1.trans (Ext.add _ _)).set e1.le
  have z2 : s2.sz = s1.sz + 1 := by rw [← hs2, Store.set_sz, Store.add_sz]
  have g2 : s2.get s1.sz = some (.dct false (kv [List.replicate ws.length false])) := by rw [← hs2]; exact Store.get_set_self (by rw [Store.add_sz]; omega)
  have pw := pow6 hl
  refine ⟨trivial, ?_⟩
  refine loop_ok (fun m env s => ∃ P q u v w, m = 64 - P.length ∧ (P ++ q).Nodup ∧ (∀ h ∈ P ++ q, Rc ws h) ∧ List.replicate ws.length false ∈ P ++ q ∧ closed ws P (P ++ q) ∧ Ext st s ∧ st.sz ≤ s1.sz ∧ s1.sz + 1 < s.sz ∧ s.get s1.sz = some (.dct false (kv (P ++ q))) ∧ s.get (s1.sz + 1) = some (.lst (q.map fun h => .tup (bd' h))) ∧
    env = [some (.tup (wd ws)), some (.ref s1.sz), some (.ref (s1.sz + 1)), u, v, w]) ?_ F 64 _ _ (by decide) ?_
  · rintro m env s ⟨P, q, u, v, w, rfl, i1, i2, i3, i4, i5, i6, i7, i8, i9, rfl⟩
    simp only [Ok_bind, Ok_nil, Ok_cons, Ok_ret, Ok_ex, Ok_asg, Ok_if, Ok_par, Ok_for, Ok_while, Ok_nm, Ok_sub, Ok_tp2, Ok_c, Ok_v, Ok_bin, Ok_cmp, Ok_and, Ok_or, Ok_not, Ok_ite, Ok_sub', Ok_tup, Ok_lst, Ok_dct, Ok_callE, Ok_blt, Ok_bm, Ok_sl, Ok_lc, Ok_x0, Ok_x1, Ok_bool, Ok_unl0, lock_none, lockOf_str, lockOf_tup, lockOf_int, lockOf_two, Ok_ok, List.map_cons, List.map_nil, List.length_cons, List.length_nil, List.replicate, List.cons_append, List.nil_append, List.set_cons_zero, List.set_cons_succ, List.getElem?_cons_zero, List.getElem?_cons_succ, Nat.reduceAdd, Nat.reduceSub, Nat.reduceLeDiff, if_false, if_true, Bool.false_eq_true, entry, setTg, setAll, wipeE]
    refine ⟨by decide, Ok.eq (ne_nil ((Ext.add s _).some i9) (add_get _ _)) ?_⟩
    simp only [Ok_bool]
    cases q with
    | nil =>
      simp only [List.isEmpty_nil, Bool.not_true, Ok_nil, Ok_cons, Ok_ret, Ok_ex, Ok_asg, Ok_if, Ok_par, Ok_for, Ok_while, Ok_nm, Ok_sub, Ok_tp2, Ok_c, Ok_v, Ok_bin, Ok_cmp, Ok_and, Ok_or, Ok_not, Ok_ite, Ok_sub', Ok_tup, Ok_lst, Ok_dct, Ok_callE, Ok_blt, Ok_bm, Ok_sl, Ok_lc, Ok_x0, Ok_x1, Ok_bool, Ok_unl0, lock_none, lockOf_str, lockOf_tup, lockOf_int, lockOf_two, Ok_ok, List.map_cons, List.map_nil, List.length_cons, List.length_nil, List.replicate, List.cons_append, List.nil_append, List.set_cons_zero, List.set_cons_succ, List.getElem?_cons_zero, List.getElem?_cons_succ, Nat.reduceAdd, Nat.reduceSub, Nat.reduceLeDiff, if_false, if_true, Bool.false_eq_true, entry, setTg, setAll, wipeE]
      refine Ok.eq (list_kv ((Ext.add s _).some i8)) ?_
      simp only [Ok_nil, Ok_cons, Ok_ret, Ok_ex, Ok_asg, Ok_if, Ok_par, Ok_for, Ok_while, Ok_nm, Ok_sub, Ok_tp2, Ok_c, Ok_v, Ok_bin, Ok_cmp, Ok_and, Ok_or, Ok_not, Ok_ite, Ok_sub', Ok_tup, Ok_lst, Ok_dct, Ok_callE, Ok_blt, Ok_bm, Ok_sl, Ok_lc, Ok_x0, Ok_x1, Ok_bool, Ok_unl0, lock_none, lockOf_str, lockOf_tup, lockOf_int, lockOf_two, Ok_ok, List.map_cons, List.map_nil, List.length_cons, List.length_nil, List.replicate, List.cons_append, List.nil_append, List.set_cons_zero, List.set_cons_succ, List.getElem?_cons_zero, List.getElem?_cons_succ, Nat.reduceAdd, Nat.reduceSub, Nat.reduceLeDiff, if_false, if_true, Bool.false_eq_true, entry, setTg, setAll, wipeE, List.append_nil] at *
      refine ⟨_, P, rfl, add_get _ _, i1, fun h => ⟨i2 h, fun r => r.mem i3 i4⟩, (i5.trans (Ext.add _ _)).trans (Ext.add _ _), ?_⟩
      rw [Store.add_sz]; omega
    | cons h0 q =>
      simp only [List.isEmpty_cons, Bool.not_false, Ok_nil, Ok_cons, Ok_ret, Ok_ex, Ok_asg, Ok_if, Ok_par, Ok_for, Ok_while, Ok_nm, Ok_sub, Ok_tp2, Ok_c, Ok_v, Ok_bin, Ok_cmp, Ok_and, Ok_or, Ok_not, Ok_ite, Ok_sub', Ok_tup, Ok_lst, Ok_dct, Ok_callE, Ok_blt, Ok_bm, Ok_sl, Ok_lc, Ok_x0, Ok_x1, Ok_bool, Ok_unl0, lock_none, lockOf_str, lockOf_tup, lockOf_int, lockOf_two, Ok_ok, List.map_cons, List.map_nil, List.length_cons, List.length_nil, List.replicate, List.cons_append, List.nil_append, List.set_cons_zero, List.set_cons_succ, List.getElem?_cons_zero, List.getElem?_cons_succ, Nat.reduceAdd, Nat.reduceSub, Nat.reduceLeDiff, if_false, if_true, Bool.false_eq_true, entry, setTg, setAll, wipeE]
      have hP := found_len hw hl i1 i2
      simp only [List.length_append, List.length_cons] at hP
      generalize hs3 : s.add (.lst []) = s3
      have e3 : Ext s s3 := by rw [← hs3]; exact Ext.add _ _
      refine ⟨recv_lst (.inr (.inl rfl)) (e3.some i9), ?_⟩
      refine Ok.eq (a := .tup (bd' h0)) (s := s3.set (s1.sz + 1) (.lst (q.map fun h => .tup (bd' h)))) ?_ ?_
      · show (match s3.get (s1.sz + 1) with | some (.lst xs) => _ | _ => _) = _
        rw [e3.some i9]
        have hix : ixP ((h0 :: q).map fun h => D.tup (bd' h)).length 0 = some 0 := by
          unfold ixP
          rw [if_pos (by omega), if_pos (by simp only [List.length_map, List.length_cons]; omega)]; rfl
        simp only [hix]
        rfl
      generalize hs4 : s3.set (s1.sz + 1) (.lst (q.map fun h => .tup (bd' h))) = s4
      have z4 : s4.sz = s3.sz := by rw [← hs4, Store.set_sz]
      have e4 : Ext st s4 := by rw [← hs4]; exact (i5.trans e3).set (by omega)
      have g4 : s4.get s1.sz = some (.dct false (kv (P ++ h0 :: q))) := by rw [← hs4, Store.get_set_ne (by omega)]; exact e3.some i8
      have l4 : s4.get (s1.sz + 1) = some (.lst (q.map fun h => .tup (bd' h))) := by rw [← hs4]; exact Store.get_set_self (by have := e3.le; omega)
      have r0 : Rc ws h0 := i2 h0 (by simp)
      refine Ok.eq (a := .ref s4.sz) (s := s4.add (.lst [.str [97], .str [110], .str [114]])) rfl ?_
      simp only [Ok_nil, Ok_cons, Ok_ret, Ok_ex, Ok_asg, Ok_if, Ok_par, Ok_for, Ok_while, Ok_nm, Ok_sub, Ok_tp2, Ok_c, Ok_v, Ok_bin, Ok_cmp, Ok_and, Ok_or, Ok_not, Ok_ite, Ok_sub', Ok_tup, Ok_lst, Ok_dct, Ok_callE, Ok_blt, Ok_bm, Ok_sl, Ok_lc, Ok_x0, Ok_x1, Ok_bool, Ok_unl0, lock_none, lockOf_str, lockOf_tup, lockOf_int, lockOf_two, Ok_ok, List.map_cons, List.map_nil, List.length_cons, List.length_nil, List.replicate, List.cons_append, List.nil_append, List.set_cons_zero, List.set_cons_succ, List.getElem?_cons_zero, List.getElem?_cons_succ, Nat.reduceAdd, Nat.reduceSub, Nat.reduceLeDiff, if_false, if_true, Bool.false_eq_true, entry, setTg, setAll, wipeE, lockOf_lst (add_get s4 (.lst [.str [97], .str [110], .str [114]]))]
      generalize hs5 : s4.add (.lst [.str [97], .str [110], .str [114]]) = s5
      have e5 : Ext s4 s5 := by rw [← hs5]; exact Ext.add _ _
      have z5 : s5.sz = s4.sz + 1 := by rw [← hs5, Store.add_sz]
      have g5 : s5.get s4.sz = some (.lst [.str [97], .str [110], .str [114]]) := by rw [← hs5]; exact add_get _ _
      have lt := e3.le
      refine turns_rem (xs := [.str [97], .str [110], .str [114]]) (fun l env s => ∃ q' cs v w, l = cs.map (fun c => D.str [c]) ∧ (∀ c ∈ cs, c ∈ SIGNS) ∧ (∀ c ∈ SIGNS, c ∈ cs ∨ (rb ws h0 [c]).1 ∈ P ++ h0 :: q') ∧ (P ++ h0 :: q').Nodup ∧ (∀ h ∈ P ++ h0 :: q', Rc ws h) ∧ (∀ h ∈ P ++ h0 :: q, h ∈ P ++ h0 :: q') ∧ Ext st s ∧ s4.sz < s.sz ∧ s.get s4.sz = some (.lst [.str [97], .str [110], .str [114]]) ∧ s.get s1.sz = some (.dct false (kv (P ++ h0 :: q'))) ∧ s.get (s1.sz + 1) = some (.lst (q'.map fun h => .tup (bd' h))) ∧
        env = [some (.tup (wd ws)), some (.ref s1.sz), some (.ref (s1.sz + 1)), some (.tup (bd' h0)), v, w]) ?_ ?_ ?_ (by decide) ⟨q, [97, 110, 114], _, _, rfl, (fun c hc => hc), (fun c hc => .inl hc), i1, i2, (fun h hh => hh), e4.trans e5, by omega, g5, e5.some g4, e5.some l4, rfl⟩
      · rintro i l env s ⟨q', cs, v, w, j1, j2, j3, j4, j5, j6, j7, j8, j9, j10, j11, rfl⟩
        exact it_lst j9
      · rintro x l env s ⟨q', cs, v, w, j1, j2, j3, j4, j5, j6, j7, j8, j9, j10, j11, rfl⟩
        cases cs with
        | nil => cases j1
        | cons c cs =>
          cases j1
          have hc := j2 c List.mem_cons_self
          have hP' := found_len hw hl j4 j5
          simp only [List.length_append, List.length_cons] at hP'
          simp only [bodyF, Ok_nil, Ok_cons, Ok_ret, Ok_ex, Ok_asg, Ok_if, Ok_par, Ok_for, Ok_while, Ok_nm, Ok_sub, Ok_tp2, Ok_c, Ok_v, Ok_bin, Ok_cmp, Ok_and, Ok_or, Ok_not, Ok_ite, Ok_sub', Ok_tup, Ok_lst, Ok_dct, Ok_callE, Ok_blt, Ok_bm, Ok_sl, Ok_lc, Ok_x0, Ok_x1, Ok_bool, Ok_unl0, lock_none, lockOf_str, lockOf_tup, lockOf_int, lockOf_two, Ok_ok, List.map_cons, List.map_nil, List.length_cons, List.length_nil, List.replicate, List.cons_append, List.nil_append, List.set_cons_zero, List.set_cons_succ, List.getElem?_cons_zero, List.getElem?_cons_succ, Nat.reduceAdd, Nat.reduceSub, Nat.reduceLeDiff, if_false, if_true, Bool.false_eq_true, entry, setTg, setAll, wipeE]
          refine (read_by_ok ws hw h0 [c] (sg1 hc) (by simp only [List.length_cons, List.length_nil]; omega) (by omega) n s).mono fun v s6 ⟨hv6, e6⟩ => ?_
          subst hv6
          refine Ok.eq (a := .tup (bd' (rb ws h0 [c]).1)) (s := s6) rfl ?_
          refine Ok.eq (notin_kv (e6.some j10)) ?_
          simp only [Ok_bool]
          by_cases hm : (rb ws h0 [c]).1 ∈ P ++ h0 :: q'
          · simp only [hm, decide_true, Bool.not_true, Ok_nil, Ok_cons, Ok_ret, Ok_ex, Ok_asg, Ok_if, Ok_par, Ok_for, Ok_while, Ok_nm, Ok_sub, Ok_tp2, Ok_c, Ok_v, Ok_bin, Ok_cmp, Ok_and, Ok_or, Ok_not, Ok_ite, Ok_sub', Ok_tup, Ok_lst, Ok_dct, Ok_callE, Ok_blt, Ok_bm, Ok_sl, Ok_lc, Ok_x0, Ok_x1, Ok_bool, Ok_unl0, lock_none, lockOf_str, lockOf_tup, lockOf_int, lockOf_two, Ok_ok, List.map_cons, List.map_nil, List.length_cons, List.length_nil, List.replicate, List.cons_append, List.nil_append, List.set_cons_zero, List.set_cons_succ, List.getElem?_cons_zero, List.getElem?_cons_succ, Nat.reduceAdd, Nat.reduceSub, Nat.reduceLeDiff, if_false, if_true, Bool.false_eq_true, entry, setTg, setAll, wipeE]
            refine ⟨q', cs, _, _, rfl, fun k hk => j2 k (List.mem_cons_of_mem _ hk), fun k hk => ?_, j4, j5, j6, j7.trans e6, by have := e6.le; omega, e6.some j9, e6.some j10, e6.some j11, rfl⟩
            rcases j3 k hk with z | z
            · rcases List.mem_cons.mp z with z | z
              · subst z; exact .inr hm
              · exact .inl z
            · exact .inr z
          · simp only [hm, decide_false, Bool.not_false, Ok_nil, Ok_cons, Ok_ret, Ok_ex, Ok_asg, Ok_if, Ok_par, Ok_for, Ok_while, Ok_nm, Ok_sub, Ok_tp2, Ok_c, Ok_v, Ok_bin, Ok_cmp, Ok_and, Ok_or, Ok_not, Ok_ite, Ok_sub', Ok_tup, Ok_lst, Ok_dct, Ok_callE, Ok_blt, Ok_bm, Ok_sl, Ok_lc, Ok_x0, Ok_x1, Ok_bool, Ok_unl0, lock_none, lockOf_str, lockOf_tup, lockOf_int, lockOf_two, Ok_ok, List.map_cons, List.map_nil, List.length_cons, List.length_nil, List.replicate, List.cons_append, List.nil_append, List.set_cons_zero, List.set_cons_succ, List.getElem?_cons_zero, List.getElem?_cons_succ, Nat.reduceAdd, Nat.reduceSub, Nat.reduceLeDiff, if_false, if_true, Bool.false_eq_true, entry, setTg, setAll, wipeE]
            refine Ok.eq (set_kv (e6.some j10) hm (by simp only [List.length_append, List.length_cons]; omega)) ?_
            have le6 := e6.le
            have l6 : (s6.set s1.sz (.dct false (kv (P ++ h0 :: q' ++ [(rb ws h0 [c]).1])))).get (s1.sz + 1) = some (.lst (q'.map fun h => .tup (bd' h))) := by rw [Store.get_set_ne (by omega)]; exact e6.some j11
            refine ⟨recv_lst (.inl rfl) l6, (Ok_app l6).mpr ⟨by simp only [List.length_map, line]; omega, ?_⟩⟩
            have ea : P ++ h0 :: q' ++ [(rb ws h0 [c]).1] = P ++ h0 :: (q' ++ [(rb ws h0 [c]).1]) := by simp
            rw [ea]
            refine ⟨q' ++ [(rb ws h0 [c]).1], cs, _, _, rfl, fun k hk => j2 k (List.mem_cons_of_mem _ hk), fun k hk => ?_, ?_, fun h hh => ?_, fun h hh => ?_, ((j7.trans e6).set (by omega)).set (by omega), by rw [Store.set_sz, Store.set_sz]; omega, ?_, ?_, ?_, rfl⟩
            · rcases j3 k hk with z | z
              · rcases List.mem_cons.mp z with z | z
                · subst z; exact .inr (by simp)
                · exact .inl z
              · right
                rw [← ea]
                exact List.mem_append_left _ z
            · rw [← ea, List.nodup_append]
              refine ⟨j4, by simp, fun a ha b hb => ?_⟩
              rw [List.mem_singleton] at hb
              subst hb
              exact fun e => hm (e ▸ ha)
            · rw [← ea] at hh
              rcases List.mem_append.mp hh with z | z
              · exact j5 h z
              · rw [List.mem_singleton] at z; rw [z]; exact .next r0 hc
            · rw [← ea]; exact List.mem_append_left _ (j6 h hh)
            · rw [Store.get_set_ne (by omega), Store.get_set_ne (by omega)]; exact e6.some j9
            · rw [Store.get_set_ne (by omega)]; exact Store.get_set_self (by omega)
            · rw [Store.get_set_self (by rw [Store.set_sz]; omega)]; simp
      · rintro env s ⟨q', cs, v, w, j1, j2, j3, j4, j5, j6, j7, j8, j9, j10, j11, rfl⟩
        have : cs = [] := by cases cs with | nil => rfl | cons _ _ => cases j1
        subst this
        simp only [Ok_nil, Ok_cons, Ok_ret, Ok_ex, Ok_asg, Ok_if, Ok_par, Ok_for, Ok_while, Ok_nm, Ok_sub, Ok_tp2, Ok_c, Ok_v, Ok_bin, Ok_cmp, Ok_and, Ok_or, Ok_not, Ok_ite, Ok_sub', Ok_tup, Ok_lst, Ok_dct, Ok_callE, Ok_blt, Ok_bm, Ok_sl, Ok_lc, Ok_x0, Ok_x1, Ok_bool, Ok_unl0, lock_none, lockOf_str, lockOf_tup, lockOf_int, lockOf_two, Ok_ok, List.map_cons, List.map_nil, List.length_cons, List.length_nil, List.replicate, List.cons_append, List.nil_append, List.set_cons_zero, List.set_cons_succ, List.getElem?_cons_zero, List.getElem?_cons_succ, Nat.reduceAdd, Nat.reduceSub, Nat.reduceLeDiff, if_false, if_true, Bool.false_eq_true, entry, setTg, setAll, wipeE]
        refine ⟨64 - (P ++ [h0]).length, by simp only [List.length_append, List.length_cons, List.length_nil]; omega, P ++ [h0], q', _, _, _, rfl, by simpa using j4, by simpa using j5, by simpa using j6 _ i3, ?_, j7, i6, by omega, by simpa using j10, j11, rfl⟩
        intro h hh c hc
        have e : P ++ [h0] ++ q' = P ++ h0 :: q' := by simp
        rw [e]
        rcases List.mem_append.mp hh with z | z
        · exact j6 _ (i4 h z c hc)
        · rw [List.mem_singleton] at z
          subst z
          rcases j3 c hc with y | y
          · cases y
          · exact y
  · refine ⟨[], [List.replicate ws.length false], none, none, none, rfl, by simp, fun h hh => ?_, by simp, (fun h hh => by cases hh), e2.trans (Ext.add _ _), e1.le, by rw [Store.add_sz]; omega, (Ext.add _ _).some g2, ?_, ?_⟩
    · simp only [List.nil_append, List.mem_singleton] at hh
      rw [hh]; exact .start
    · rw [← z2]; exact add_get _ _
    · rw [← z2]
end Lk02
namespace Lk02
open VI
def tps (q : List (List Bool)) : List D := q.map fun h => .tup (bd' h)
theorem concat_or {α : Type} : ∀ l : List α, l = [] ∨ ∃ p b, l = p ++ [b]
  | [] => .inl rfl
  | a :: l => by
    rcases concat_or l with rfl | ⟨p, b, rfl⟩
    · exact .inr ⟨[], a, rfl⟩
    · exact .inr ⟨a :: p, b, rfl⟩
theorem reach_ok (ws : List (List Nat)) (hw : ∀ w ∈ ws, w ∈ WORDS) (hl : ws.length ≤ 6) (n : Nat) (st : Store) : Ok (callI T F (n + 3) i__law_reach [.tup (wd ws)] st) fun v s => ∃ (r : Nat) (f : List (List Bool)), v = .ref r ∧ s.get r = some (.lst (tps f)) ∧ f.Nodup ∧ (∀ h, h ∈ f ↔ Rc ws h) ∧ Ext st s ∧ st.sz ≤ r := by
  refine Ok_call (fn := ⟨1, 5, b__law_reach⟩) rfl rfl ?_
  simp only [b__law_reach, Ok_nil, Ok_cons, Ok_ret, Ok_ex, Ok_asg, Ok_if, Ok_par, Ok_for, Ok_while, Ok_nm, Ok_sub, Ok_tp2, Ok_c, Ok_v, Ok_bin, Ok_cmp, Ok_and, Ok_or, Ok_not, Ok_ite, Ok_sub', Ok_tup, Ok_lst, Ok_dct, Ok_callE, Ok_blt, Ok_bm, Ok_sl, Ok_lc, Ok_x0, Ok_x1, Ok_bool, Ok_unl0, lock_none, lockOf_str, lockOf_tup, lockOf_int, lockOf_two, Ok_ok, List.map_cons, List.map_nil, List.length_cons, List.length_nil, List.replicate, List.cons_append, List.nil_append, List.set_cons_zero, List.set_cons_succ, List.getElem?_cons_zero, List.getElem?_cons_succ, Nat.reduceAdd, Nat.reduceSub, Nat.reduceLeDiff, if_false, if_true, Bool.false_eq_true, entry, setTg, setAll, wipeE, mkDict]
  refine Ok.eq (law_first_ok ws hl (n + 1) _) ⟨by decide, trivial, ?_⟩
  generalize hs1 : st.add (.dct false []) = s1
  have e1 : Ext st s1 := by rw [← hs1]; exact Ext.add _ _
  have z1 : s1.sz = st.sz + 1 := by rw [← hs1, Store.add_sz]
  have g1 : s1.get st.sz = some (.dct false (kv [])) := by rw [← hs1]; exact add_get _ _
  have pw := pow6 hl
  refine loop_ok (fun m env s => ∃ f q wr u v, m = 4 * (64 - f.length) + q.length ∧ f.Nodup ∧ (∀ h ∈ f, Rc ws h) ∧ (∀ h ∈ q, Rc ws h) ∧ (List.replicate ws.length false ∈ f ∨ List.replicate ws.length false ∈ q) ∧ (∀ h ∈ f, ∀ c ∈ SIGNS, (rb ws h [c]).1 ∈ f ∨ (rb ws h [c]).1 ∈ q) ∧ q.length ≤ 3 * f.length + 1 ∧ Ext st s ∧ st.sz < wr ∧ wr < s.sz ∧
    s.get st.sz = some (.dct false (kv f)) ∧ s.get wr = some (.lst (tps q)) ∧ env = [some (.tup (wd ws)), some (.ref st.sz), some (.ref wr), u, v]) ?_ F 257 _ _ (by decide) ?_
  · rintro m env s ⟨f, q, wr, u, v, rfl, i1, i2, i3, i4, i5, i6, i7, i8, i9, i10, i11, rfl⟩
    simp only [Ok_bind, Ok_nil, Ok_cons, Ok_ret, Ok_ex, Ok_asg, Ok_if, Ok_par, Ok_for, Ok_while, Ok_nm, Ok_sub, Ok_tp2, Ok_c, Ok_v, Ok_bin, Ok_cmp, Ok_and, Ok_or, Ok_not, Ok_ite, Ok_sub', Ok_tup, Ok_lst, Ok_dct, Ok_callE, Ok_blt, Ok_bm, Ok_sl, Ok_lc, Ok_x0, Ok_x1, Ok_bool, Ok_unl0, lock_none, lockOf_str, lockOf_tup, lockOf_int, lockOf_two, Ok_ok, List.map_cons, List.map_nil, List.length_cons, List.length_nil, List.replicate, List.cons_append, List.nil_append, List.set_cons_zero, List.set_cons_succ, List.getElem?_cons_zero, List.getElem?_cons_succ, Nat.reduceAdd, Nat.reduceSub, Nat.reduceLeDiff, if_false, if_true, Bool.false_eq_true, entry, setTg, setAll, wipeE]
    refine ⟨by decide, Ok.eq (ne_nil ((Ext.add s _).some i11) (add_get _ _)) ?_⟩
    simp only [Ok_bool]
    have hfl := found_len hw hl i1 i2
    rcases concat_or q with rfl | ⟨p, h0, rfl⟩
    · simp only [List.isEmpty_nil, Bool.not_true, Ok_nil, Ok_cons, Ok_ret, Ok_ex, Ok_asg, Ok_if, Ok_par, Ok_for, Ok_while, Ok_nm, Ok_sub, Ok_tp2, Ok_c, Ok_v, Ok_bin, Ok_cmp, Ok_and, Ok_or, Ok_not, Ok_ite, Ok_sub', Ok_tup, Ok_lst, Ok_dct, Ok_callE, Ok_blt, Ok_bm, Ok_sl, Ok_lc, Ok_x0, Ok_x1, Ok_bool, Ok_unl0, lock_none, lockOf_str, lockOf_tup, lockOf_int, lockOf_two, Ok_ok, List.map_cons, List.map_nil, List.length_cons, List.length_nil, List.replicate, List.cons_append, List.nil_append, List.set_cons_zero, List.set_cons_succ, List.getElem?_cons_zero, List.getElem?_cons_succ, Nat.reduceAdd, Nat.reduceSub, Nat.reduceLeDiff, if_false, if_true, Bool.false_eq_true, entry, setTg, setAll, wipeE]
      refine Ok.eq (list_kv ((Ext.add s _).some i10)) ?_
      refine ⟨_, f, rfl, add_get _ _, i1, fun h => ⟨i2 h, fun r => r.mem (by rcases i4 with z | z; exact z; cases z) (fun h hh c hc => by rcases i5 h hh c hc with z | z; exact z; cases z)⟩, (i7.trans (Ext.add _ _)).trans (Ext.add _ _), ?_⟩
      rw [Store.add_sz]; omega
    · have hne : (p ++ [h0]).isEmpty = false := by simp
      simp only [hne, Bool.not_false, Ok_nil, Ok_cons, Ok_ret, Ok_ex, Ok_asg, Ok_if, Ok_par, Ok_for, Ok_while, Ok_nm, Ok_sub, Ok_tp2, Ok_c, Ok_v, Ok_bin, Ok_cmp, Ok_and, Ok_or, Ok_not, Ok_ite, Ok_sub', Ok_tup, Ok_lst, Ok_dct, Ok_callE, Ok_blt, Ok_bm, Ok_sl, Ok_lc, Ok_x0, Ok_x1, Ok_bool, Ok_unl0, lock_none, lockOf_str, lockOf_tup, lockOf_int, lockOf_two, Ok_ok, List.map_cons, List.map_nil, List.length_cons, List.length_nil, List.replicate, List.cons_append, List.nil_append, List.set_cons_zero, List.set_cons_succ, List.getElem?_cons_zero, List.getElem?_cons_succ, Nat.reduceAdd, Nat.reduceSub, Nat.reduceLeDiff, if_false, if_true, Bool.false_eq_true, entry, setTg, setAll, wipeE]
      generalize hs3 : s.add (.lst []) = s3
      have e3 : Ext s s3 := by rw [← hs3]; exact Ext.add _ _
      have lt3 := e3.le
      refine ⟨recv_lst (.inr (.inl rfl)) (e3.some i11), ?_⟩
      refine Ok.eq (a := .tup (bd' h0)) (s := s3.set wr (.lst (tps p))) ?_ ?_
      · show (match s3.get wr with | some (.lst xs) => _ | _ => _) = _
        rw [e3.some i11]
        have hx : (tps (p ++ [h0]))[(tps (p ++ [h0])).length - 1]? = some (.tup (bd' h0)) := by
          simp [tps]
        have hd : (tps (p ++ [h0])).dropLast = tps p := by simp [tps]
        simp only [hx, hd]
      generalize hs4 : s3.set wr (.lst (tps p)) = s4
      have z4 : s4.sz = s3.sz := by rw [← hs4, Store.set_sz]
      have e4 : Ext st s4 := by rw [← hs4]; exact (i7.trans e3).set (by omega)
      have g4 : s4.get st.sz = some (.dct false (kv f)) := by rw [← hs4, Store.get_set_ne (by omega)]; exact e3.some i10
      have l4 : s4.get wr = some (.lst (tps p)) := by rw [← hs4]; exact Store.get_set_self (by omega)
      have r0 : Rc ws h0 := i3 h0 (by simp)
      refine Ok.eq (notin_kv g4) ?_
      simp only [Ok_bool]
      simp only [List.length_append, List.length_cons, List.length_nil] at i6 ⊢
      by_cases hm : h0 ∈ f
      · simp only [hm, decide_true, Bool.not_true, Ok_nil, Ok_cons, Ok_ret, Ok_ex, Ok_asg, Ok_if, Ok_par, Ok_for, Ok_while, Ok_nm, Ok_sub, Ok_tp2, Ok_c, Ok_v, Ok_bin, Ok_cmp, Ok_and, Ok_or, Ok_not, Ok_ite, Ok_sub', Ok_tup, Ok_lst, Ok_dct, Ok_callE, Ok_blt, Ok_bm, Ok_sl, Ok_lc, Ok_x0, Ok_x1, Ok_bool, Ok_unl0, lock_none, lockOf_str, lockOf_tup, lockOf_int, lockOf_two, Ok_ok, List.map_cons, List.map_nil, List.length_cons, List.length_nil, List.replicate, List.cons_append, List.nil_append, List.set_cons_zero, List.set_cons_succ, List.getElem?_cons_zero, List.getElem?_cons_succ, Nat.reduceAdd, Nat.reduceSub, Nat.reduceLeDiff, if_false, if_true, Bool.false_eq_true, entry, setTg, setAll, wipeE]
        refine ⟨4 * (64 - f.length) + p.length, by omega, f, p, wr, _, _, rfl, i1, i2, fun h hh => i3 h (List.mem_append_left _ hh), ?_, ?_, by omega, e4, i8, by omega, g4, l4, rfl⟩
        · rcases i4 with z | z
          · exact .inl z
          · rcases List.mem_append.mp z with z | z
            · exact .inr z
            · rw [List.mem_singleton] at z; rw [z]; exact .inl hm
        · intro h hh c hc
          rcases i5 h hh c hc with z | z
          · exact .inl z
          · rcases List.mem_append.mp z with z | z
            · exact .inr z
            · rw [List.mem_singleton] at z; rw [z]; exact .inl hm
      · simp only [hm, decide_false, Bool.not_false, Ok_nil, Ok_cons, Ok_ret, Ok_ex, Ok_asg, Ok_if, Ok_par, Ok_for, Ok_while, Ok_nm, Ok_sub, Ok_tp2, Ok_c, Ok_v, Ok_bin, Ok_cmp, Ok_and, Ok_or, Ok_not, Ok_ite, Ok_sub', Ok_tup, Ok_lst, Ok_dct, Ok_callE, Ok_blt, Ok_bm, Ok_sl, Ok_lc, Ok_x0, Ok_x1, Ok_bool, Ok_unl0, lock_none, lockOf_str, lockOf_tup, lockOf_int, lockOf_two, Ok_ok, List.map_cons, List.map_nil, List.length_cons, List.length_nil, List.replicate, List.cons_append, List.nil_append, List.set_cons_zero, List.set_cons_succ, List.getElem?_cons_zero, List.getElem?_cons_succ, Nat.reduceAdd, Nat.reduceSub, Nat.reduceLeDiff, if_false, if_true, Bool.false_eq_true, entry, setTg, setAll, wipeE]
        refine Ok.eq (set_kv g4 hm (by omega)) ?_
        generalize hs5 : s4.set st.sz (.dct false (kv (f ++ [h0]))) = s5
        have z5 : s5.sz = s4.sz := by rw [← hs5, Store.set_sz]
        have e5 : Ext st s5 := by rw [← hs5]; exact e4.set (Nat.le_refl _)
        have g5 : s5.get st.sz = some (.dct false (kv (f ++ [h0]))) := by rw [← hs5]; exact Store.get_set_self (by omega)
        have l5 : s5.get wr = some (.lst (tps p)) := by rw [← hs5, Store.get_set_ne (by omega)]; exact l4
        have nd : (f ++ [h0]).Nodup := by
          rw [List.nodup_append]
          refine ⟨i1, by simp, fun a ha b hb => ?_⟩
          rw [List.mem_singleton] at hb
          subst hb
          exact fun e => hm (e ▸ ha)
        have rf : ∀ h ∈ f ++ [h0], Rc ws h := fun h hh => by
          rcases List.mem_append.mp hh with z | z
          · exact i2 h z
          · rw [List.mem_singleton] at z; rw [z]; exact r0
        have hfl' := found_len hw hl nd rf
        simp only [List.length_append, List.length_cons, List.length_nil] at hfl'
        refine ⟨by decide, ?_⟩
        simp only [Ok_bind, Ok_noexc, Ok_nil, Ok_cons, Ok_ret, Ok_ex, Ok_asg, Ok_if, Ok_par, Ok_for, Ok_while, Ok_nm, Ok_sub, Ok_tp2, Ok_c, Ok_v, Ok_bin, Ok_cmp, Ok_and, Ok_or, Ok_not, Ok_ite, Ok_sub', Ok_tup, Ok_lst, Ok_dct, Ok_callE, Ok_blt, Ok_bm, Ok_sl, Ok_lc, Ok_x0, Ok_x1, Ok_bool, Ok_unl0, lock_none, lockOf_str, lockOf_tup, lockOf_int, lockOf_two, Ok_ok, List.map_cons, List.map_nil, List.length_cons, List.length_nil, List.replicate, List.cons_append, List.nil_append, List.set_cons_zero, List.set_cons_succ, List.getElem?_cons_zero, List.getElem?_cons_succ, Nat.reduceAdd, Nat.reduceSub, Nat.reduceLeDiff, if_false, if_true, Bool.false_eq_true, entry, setTg, setAll, wipeE]
        refine walk_rem (xs := [.str [97], .str [110], .str [114]]) (fun l acc s => Ext s5 s ∧ ∃ cs dn, l = cs.map (fun c => D.str [c]) ∧ SIGNS = dn ++ cs ∧ acc = tps (dn.map fun c => (rb ws h0 [c]).1)) (fun i l a s _ => it_tup) ?_ ?_ (by decide) ⟨Ext.refl _, SIGNS, [], rfl, rfl, rfl⟩
        · rintro x l acc s ⟨j1, cs, dn, j2, j3, rfl⟩
          cases cs with
          | nil => cases j2
          | cons c cs =>
            cases j2
            have hc : c ∈ SIGNS := by rw [j3]; simp
            have hdl : dn.length ≤ 3 := by
              have : SIGNS.length = 3 := rfl
              rw [j3] at this
              simp only [List.length_append, List.length_cons] at this
              omega
            simp only [bodyL, Ok_bind, Ok_nil, Ok_cons, Ok_ret, Ok_ex, Ok_asg, Ok_if, Ok_par, Ok_for, Ok_while, Ok_nm, Ok_sub, Ok_tp2, Ok_c, Ok_v, Ok_bin, Ok_cmp, Ok_and, Ok_or, Ok_not, Ok_ite, Ok_sub', Ok_tup, Ok_lst, Ok_dct, Ok_callE, Ok_blt, Ok_bm, Ok_sl, Ok_lc, Ok_x0, Ok_x1, Ok_bool, Ok_unl0, lock_none, lockOf_str, lockOf_tup, lockOf_int, lockOf_two, Ok_ok, List.map_cons, List.map_nil, List.length_cons, List.length_nil, List.replicate, List.cons_append, List.nil_append, List.set_cons_zero, List.set_cons_succ, List.getElem?_cons_zero, List.getElem?_cons_succ, Nat.reduceAdd, Nat.reduceSub, Nat.reduceLeDiff, if_false, if_true, Bool.false_eq_true, entry, setTg, setAll, wipeE]
            refine (law_read_ok ws hw h0 [c] (sg1 hc) (by simp only [List.length_cons, List.length_nil]; omega) (by omega) n s).mono fun v s6 ⟨hv6, e6⟩ => ?_
            subst hv6
            refine Ok.eq (a := .tup (bd' (rb ws h0 [c]).1)) (s := s6) rfl ?_
            refine Ok_iff.mpr ⟨by simp only [tps, List.length_map, line]; omega, j1.trans e6, cs, dn ++ [c], rfl, by rw [j3]; simp, by simp [tps]⟩
        · rintro acc s ⟨j1, cs, dn, j2, j3, rfl⟩
          have : cs = [] := by cases cs with | nil => rfl | cons _ _ => cases j2
          subst this
          rw [List.append_nil] at j3
          subst j3
          refine (Ok_addL ((Ext.add s _).some (j1.some l5)) (add_get _ _)).mpr ⟨by simp only [tps, List.length_map, line]; have : SIGNS.length = 3 := rfl; omega, ?_⟩
          have lej := j1.le
          refine ⟨4 * (64 - (f ++ [h0]).length) + (p ++ SIGNS.map fun c => (rb ws h0 [c]).1).length, ?_, f ++ [h0], p ++ SIGNS.map fun c => (rb ws h0 [c]).1, _, _, _, rfl, nd, rf, ?_, ?_, ?_, ?_, ((e5.trans j1).trans (Ext.add _ _)).trans (Ext.add _ _), by simp only [Store.add_sz]; omega, by simp only [Store.add_sz]; omega, (Ext.add _ _).some ((Ext.add _ _).some (j1.some g5)), ?_, rfl⟩
          · have : SIGNS.length = 3 := rfl
            simp only [List.length_append, List.length_cons, List.length_nil, List.length_map]; omega
          · intro h hh
            rcases List.mem_append.mp hh with z | z
            · exact i3 h (List.mem_append_left _ z)
            · obtain ⟨c, hc, rfl⟩ := List.mem_map.mp z
              exact .next r0 hc
          · rcases i4 with z | z
            · exact .inl (List.mem_append_left _ z)
            · rcases List.mem_append.mp z with z | z
              · exact .inr (List.mem_append_left _ z)
              · exact .inl (List.mem_append_right _ z)
          · intro h hh c hc
            rcases List.mem_append.mp hh with z | z
            · rcases i5 h z c hc with y | y
              · exact .inl (List.mem_append_left _ y)
              · rcases List.mem_append.mp y with y | y
                · exact .inr (List.mem_append_left _ y)
                · exact .inl (List.mem_append_right _ y)
            · rw [List.mem_singleton] at z
              subst z
              exact .inr (List.mem_append_right _ (List.mem_map.mpr ⟨c, hc, rfl⟩))
          · have : SIGNS.length = 3 := rfl
            simp only [List.length_append, List.length_cons, List.length_nil, List.length_map]; omega
          · rw [add_get]; simp [tps]
  · refine ⟨[], [List.replicate ws.length false], s1.sz, none, none, rfl, by simp, (fun h hh => by cases hh), fun h hh => ?_, .inr (by simp), (fun h hh => by cases hh), by simp, e1.trans (Ext.add _ _), by omega, by simp only [Store.add_sz]; omega, (Ext.add _ _).some g1, add_get _ _, ?_⟩
    · rw [List.mem_singleton] at hh
      rw [hh]; exact .start
    · rfl
end Lk02
namespace Lk02
open VI
theorem good_signs {x : List Nat} (h : ∀ c ∈ x, c ∈ SIGNS) : x.all goodCp = true := by
  rw [List.all_eq_true]
  intro c hc
  have := h c hc
  simp only [SIGNS, List.mem_cons, List.not_mem_nil, or_false] at this
  rcases this with rfl | rfl | rfl <;> rfl
theorem en_signs : ∀ {ws : List (List Nat)} {hs : List Bool} {x : List Nat}, (∀ w ∈ ws, w ∈ WORDS) → (∀ c ∈ x, c ∈ SIGNS) → ∀ c ∈ en ws hs x, c ∈ SIGNS
  | w :: ws, h :: hs, x, hw, hx => by
    simp only [en]
    refine en_signs (fun z hz => hw z (List.mem_cons_of_mem _ hz)) ?_
    obtain ⟨_, t2⟩ := tb_len (hw w List.mem_cons_self) (h := h) hx
    split
    · intro c hc
      rcases List.mem_append.mp hc with z | z
      · exact t2 c z
      · rw [List.mem_singleton] at z; rw [z]; exact lf_sign w
    · exact t2
  | [], _, x, _, hx => by simpa [en] using hx
  | _ :: _, [], x, _, hx => by simpa [en] using hx
theorem rb_signs : ∀ {ws : List (List Nat)} {hs : List Bool} {x : List Nat}, (∀ w ∈ ws, w ∈ WORDS) → (∀ c ∈ x, c ∈ SIGNS) → ∀ c ∈ (rb ws hs x).2, c ∈ SIGNS
  | w :: ws, h :: hs, x, hw, hx => by
    simp only [rb]
    exact rb_signs (fun z hz => hw z (List.mem_cons_of_mem _ hz)) (tb_len (hw w List.mem_cons_self) (h := h) hx).2
  | [], _, x, _, hx => by simpa [rb] using hx
  | _ :: _, [], x, _, hx => by simpa [rb] using hx
theorem gd_str {x : List Nat} (h : ∀ c ∈ x, c ∈ SIGNS) (n : Nat) : gd n (.str x) = true := by
  cases n <;> exact good_signs h
theorem dat_bd (s : Store) (n : Nat) (h : List Bool) : dat (n + 2) s (.tup (bd' h)) = some (.tup (h.map Pd.bl)) := by
  show (allOpt (dat (n + 1) s) (bd' h)).map Pd.tup = _
  have : allOpt (dat (n + 1) s) (bd' h) = some (h.map Pd.bl) := by
    induction h with
    | nil => rfl
    | cons b h ih =>
      have e : bd' (b :: h) = .bl b :: bd' h := rfl
      rw [e]
      unfold allOpt
      rw [ih]; rfl
  rw [this]; rfl
theorem in_tps {call : Caller} {s : Store} {r : Nat} {f : List (List Bool)} {h : List Bool} (hr : s.get r = some (.lst (tps f))) (hm : h ∈ f) : cmpC T call .inn (.tup (bd' h)) (.ref r) s = .ok (.bl true) s := by
  have hall : allOpt (dat 58 s) (tps f) = some (f.map fun h => .tup (h.map Pd.bl)) := by
    clear hr hm
    induction f with
    | nil => rfl
    | cons a f ih =>
      have e : tps (a :: f) = .tup (bd' a) :: tps f := rfl
      rw [e]
      unfold allOpt
      rw [ih, dat_bd s 56 a]; rfl
  unfold cmpC
  show ofOpt ((inV (.tup (bd' h)) (.ref r) s).map D.bl) s = _
  unfold inV
  simp only [hr]
  unfold memS
  rw [dat_bd s 56 h, hall]
  have : (List.any (f.map fun h => Pd.tup (h.map Pd.bl)) fun b => b.eqv (.tup (h.map Pd.bl))) = true := by
    rw [List.any_eq_true]
    exact ⟨_, List.mem_map.mpr ⟨h, hm, rfl⟩, Pd.eqv_refl _⟩
  simp only [this, Option.map_some]
  rfl
theorem cut6 (f : List (List Bool)) : ∃ g, cut (tps f) none (some 6) = tps g ∧ (∀ h ∈ g, h ∈ f) ∧ g.length ≤ 6 := by
  refine ⟨f.take (min 6 f.length), ?_, fun h hh => List.mem_of_mem_take hh, by rw [List.length_take]; omega⟩
  simp [cut, sIx, tps, List.map_take]
theorem tps_app (a b : List (List Bool)) : tps a ++ tps b = tps (a ++ b) := by simp [tps]
theorem tps_cons {x : D} {l : List D} {q : List (List Bool)} (h : x :: l = tps q) : ∃ a q', q = a :: q' ∧ x = .tup (bd' a) ∧ l = tps q' := by
  cases q with
  | nil => cases h
  | cons a q => cases h; exact ⟨a, q, rfl, rfl, rfl⟩
theorem law_turn (ns : List Int) (n : Nat) (s : Store) (hd : Dr 1 ns s) (x : D) (u2 u3 u4 u5 u6 u7 u8 : Option D) (hx : x = x) :
    Ok (bodyF T F (callI T F (n + 5)) (.nm 2) (match b_law with | .cons _ (.cons (.for _ _ _ b) _) => b | _ => .nil) x [some (.ref 0), some (.ref 1), u2, u3, u4, u5, u6, u7, u8] s) fun fl s' => ∃ v2 v3 v4 v5 v6 v7 v8, fl = .nx [some (.ref 0), some (.ref 1), v2, v3, v4, v5, v6, v7, v8] ∧ Dr 1 ns s' := by
  simp only [bodyF, b_law, Ok_nil, Ok_cons, Ok_ret, Ok_ex, Ok_asg, Ok_if, Ok_par, Ok_for, Ok_while, Ok_nm, Ok_sub, Ok_tp2, Ok_c, Ok_v, Ok_bin, Ok_cmp, Ok_and, Ok_or, Ok_not, Ok_ite, Ok_sub', Ok_tup, Ok_lst, Ok_dct, Ok_callE, Ok_blt, Ok_bm, Ok_sl, Ok_lc, Ok_x0, Ok_x1, Ok_bool, Ok_unl0, lock_none, lockOf_str, lockOf_tup, lockOf_int, lockOf_two, Ok_ok, List.map_cons, List.map_nil, List.length_cons, List.length_nil, List.replicate, List.cons_append, List.nil_append, List.set_cons_zero, List.set_cons_succ, List.getElem?_cons_zero, List.getElem?_cons_succ, Nat.reduceAdd, Nat.reduceSub, Nat.reduceLeDiff, if_false, if_true, Bool.false_eq_true, entry, setTg, setAll, wipeE]
  refine (way_ok 1 ns (n + 1) s hd).mono fun v s1 ⟨ws, hv, hl, hw, d1, _⟩ => ?_
  subst hv
  have pw := pow6 hl
  refine (first_standing_ok ws hw hl (n + 3) s1).mono fun v s2 ⟨hv, e2⟩ => ?_
  subst hv
  refine Ok.eq (law_first_ok ws hl (n + 4) s2) (Ok.eq (ne_same (gd_bd _ 59)) ?_)
  simp only [Ok_nil, Ok_cons, Ok_ret, Ok_ex, Ok_asg, Ok_if, Ok_par, Ok_for, Ok_while, Ok_nm, Ok_sub, Ok_tp2, Ok_c, Ok_v, Ok_bin, Ok_cmp, Ok_and, Ok_or, Ok_not, Ok_ite, Ok_sub', Ok_tup, Ok_lst, Ok_dct, Ok_callE, Ok_blt, Ok_bm, Ok_sl, Ok_lc, Ok_x0, Ok_x1, Ok_bool, Ok_unl0, lock_none, lockOf_str, lockOf_tup, lockOf_int, lockOf_two, Ok_ok, List.map_cons, List.map_nil, List.length_cons, List.length_nil, List.replicate, List.cons_append, List.nil_append, List.set_cons_zero, List.set_cons_succ, List.getElem?_cons_zero, List.getElem?_cons_succ, Nat.reduceAdd, Nat.reduceSub, Nat.reduceLeDiff, if_false, if_true, Bool.false_eq_true, entry, setTg, setAll, wipeE]
  have d2 := d1.ext e2
  refine (all_standings_ok ws hw hl n s2).mono fun v s3 ⟨r3, f, hv, g3, nf, mf, e3, lr3⟩ => ?_
  subst hv
  refine (reach_ok ws hw hl (n + 2) s3).mono fun v s4 ⟨r4, g, hv, g4, ng, mg, e4, lr4⟩ => ?_
  subst hv
  have d4 := (d2.ext e3).ext e4
  have hlen : f.length = g.length := Nat.le_antisymm (nodup_len nf fun h hh => (mg h).mpr ((mf h).mp hh)) (nodup_len ng fun h hh => (mf h).mpr ((mg h).mp hh))
  have g3' := e4.some g3
  refine ⟨by decide, ?_⟩
  refine (Ok_lenL g3').mpr ((Ok_lenL g4).mpr ?_)
  have e : ((f.map fun h => D.tup (bd' h)).length : Int) = (tps g).length := by simp only [tps, List.length_map, hlen]
  rw [e]
  refine Ok.eq (ne_same rfl) ?_
  simp only [Ok_nil, Ok_cons, Ok_ret, Ok_ex, Ok_asg, Ok_if, Ok_par, Ok_for, Ok_while, Ok_nm, Ok_sub, Ok_tp2, Ok_c, Ok_v, Ok_bin, Ok_cmp, Ok_and, Ok_or, Ok_not, Ok_ite, Ok_sub', Ok_tup, Ok_lst, Ok_dct, Ok_callE, Ok_blt, Ok_bm, Ok_sl, Ok_lc, Ok_x0, Ok_x1, Ok_bool, Ok_unl0, lock_none, lockOf_str, lockOf_tup, lockOf_int, lockOf_two, Ok_ok, List.map_cons, List.map_nil, List.length_cons, List.length_nil, List.replicate, List.cons_append, List.nil_append, List.set_cons_zero, List.set_cons_succ, List.getElem?_cons_zero, List.getElem?_cons_succ, Nat.reduceAdd, Nat.reduceSub, Nat.reduceLeDiff, if_false, if_true, Bool.false_eq_true, entry, setTg, setAll, wipeE, lockOf_lst g3', Ok_bind, Ok_noexc]
  have hfl := found_len hw hl nf (fun h hh => (mf h).mp hh)
  have hwalk : walk .val [.ref r3] (bodyL T F (callI T F (n + 5)) [4] (.nm 4) (.c (.bl true)) (.cmp .inn (.v 4) (.v 6)) [some (.ref 0), some (.ref 1), some x, some (.tup (wd ws)), u4, some (.ref r3), some (.ref r4), u7, u8]) F 0 [] s4 = .ok (List.replicate f.length (.bl true)) s4 := by
    rw [← Ok_eq]
    refine walk_rem (xs := tps f) (fun l acc s => s = s4 ∧ ∃ p q, f = p ++ q ∧ l = tps q ∧ acc = List.replicate p.length (.bl true)) (fun i l a s ⟨h1, _⟩ => by subst h1; exact it_lst g3') ?_ ?_ (by simp [F, tps]; omega) ⟨rfl, [], f, rfl, rfl, rfl⟩
    · rintro y l acc s ⟨rfl, p, q, h1, h2, rfl⟩
      obtain ⟨a, q', rfl, rfl, rfl⟩ := tps_cons h2
      simp only [bodyL, Ok_bind, Ok_nil, Ok_cons, Ok_ret, Ok_ex, Ok_asg, Ok_if, Ok_par, Ok_for, Ok_while, Ok_nm, Ok_sub, Ok_tp2, Ok_c, Ok_v, Ok_bin, Ok_cmp, Ok_and, Ok_or, Ok_not, Ok_ite, Ok_sub', Ok_tup, Ok_lst, Ok_dct, Ok_callE, Ok_blt, Ok_bm, Ok_sl, Ok_lc, Ok_x0, Ok_x1, Ok_bool, Ok_unl0, lock_none, lockOf_str, lockOf_tup, lockOf_int, lockOf_two, Ok_ok, List.map_cons, List.map_nil, List.length_cons, List.length_nil, List.replicate, List.cons_append, List.nil_append, List.set_cons_zero, List.set_cons_succ, List.getElem?_cons_zero, List.getElem?_cons_succ, Nat.reduceAdd, Nat.reduceSub, Nat.reduceLeDiff, if_false, if_true, Bool.false_eq_true, entry, setTg, setAll, wipeE]
      refine Ok.eq (in_tps g4 ((mg a).mpr ((mf a).mp (by rw [h1]; simp)))) ?_
      have : f.length = p.length + (q'.length + 1) := by rw [h1]; simp
      refine Ok_iff.mpr ⟨by simp only [List.length_replicate, line]; omega, rfl, p ++ [a], q', by rw [h1]; simp, rfl, by simp [List.replicate_succ']⟩
    · rintro acc s ⟨rfl, p, q, h1, h2, rfl⟩
      have : q = [] := by cases q with | nil => rfl | cons _ _ => cases h2
      subst this
      rw [List.append_nil] at h1
      exact ⟨by rw [h1], rfl⟩
  rw [hwalk]
  simp only [Ok_nil, Ok_cons, Ok_ret, Ok_ex, Ok_asg, Ok_if, Ok_par, Ok_for, Ok_while, Ok_nm, Ok_sub, Ok_tp2, Ok_c, Ok_v, Ok_bin, Ok_cmp, Ok_and, Ok_or, Ok_not, Ok_ite, Ok_sub', Ok_tup, Ok_lst, Ok_dct, Ok_callE, Ok_blt, Ok_bm, Ok_sl, Ok_lc, Ok_x0, Ok_x1, Ok_bool, Ok_unl0, lock_none, lockOf_str, lockOf_tup, lockOf_int, lockOf_two, Ok_ok, List.map_cons, List.map_nil, List.length_cons, List.length_nil, List.replicate, List.cons_append, List.nil_append, List.set_cons_zero, List.set_cons_succ, List.getElem?_cons_zero, List.getElem?_cons_succ, Nat.reduceAdd, Nat.reduceSub, Nat.reduceLeDiff, if_false, if_true, Bool.false_eq_true, entry, setTg, setAll, wipeE]
  refine (Ok_all (k := f.length) (add_get _ _)).mpr ?_
  simp only [Ok_nil, Ok_cons, Ok_ret, Ok_ex, Ok_asg, Ok_if, Ok_par, Ok_for, Ok_while, Ok_nm, Ok_sub, Ok_tp2, Ok_c, Ok_v, Ok_bin, Ok_cmp, Ok_and, Ok_or, Ok_not, Ok_ite, Ok_sub', Ok_tup, Ok_lst, Ok_dct, Ok_callE, Ok_blt, Ok_bm, Ok_sl, Ok_lc, Ok_x0, Ok_x1, Ok_bool, Ok_unl0, lock_none, lockOf_str, lockOf_tup, lockOf_int, lockOf_two, Ok_ok, List.map_cons, List.map_nil, List.length_cons, List.length_nil, List.replicate, List.cons_append, List.nil_append, List.set_cons_zero, List.set_cons_succ, List.getElem?_cons_zero, List.getElem?_cons_succ, Nat.reduceAdd, Nat.reduceSub, Nat.reduceLeDiff, if_false, if_true, Bool.false_eq_true, entry, setTg, setAll, wipeE, Bool.not_true]
  generalize hs5 : s4.add (.lst (List.replicate f.length (.bl true))) = s5
  have e5 : Ext s4 s5 := by rw [← hs5]; exact Ext.add _ _
  have d5 := d4.ext e5
  have hr4 : r4 ≠ 1 := by
    have := Store.get_lt d1.sc
    obtain ⟨k, hk⟩ := d1.at_
    have h1 := Store.get_lt hk
    have h2 := e2.le
    have h3 := e3.le
    omega
  have e4i : (D.int 4) = .int ((4 : Nat) : Int) := rfl
  rw [e4i]
  refine walk_rem (xs := (List.range 4).map fun (i : Nat) => D.int i) (fun l acc s => Dr 1 ns s ∧ s.get r4 = some (.lst (tps g)) ∧ ∃ hs, acc = tps hs ∧ (∀ h ∈ hs, val ws h = true) ∧ hs.length + l.length ≤ 4) (fun i l a s _ => it_rg (by decide)) ?_ ?_ (by decide) ⟨d5, e5.some g4, [], rfl, (fun h hh => by cases hh), by decide⟩
  · rintro y l acc s ⟨i1, i2, hs, rfl, i3, i4⟩
    simp only [bodyL, Ok_bind, Ok_nil, Ok_cons, Ok_ret, Ok_ex, Ok_asg, Ok_if, Ok_par, Ok_for, Ok_while, Ok_nm, Ok_sub, Ok_tp2, Ok_c, Ok_v, Ok_bin, Ok_cmp, Ok_and, Ok_or, Ok_not, Ok_ite, Ok_sub', Ok_tup, Ok_lst, Ok_dct, Ok_callE, Ok_blt, Ok_bm, Ok_sl, Ok_lc, Ok_x0, Ok_x1, Ok_bool, Ok_unl0, lock_none, lockOf_str, lockOf_tup, lockOf_int, lockOf_two, Ok_ok, List.map_cons, List.map_nil, List.length_cons, List.length_nil, List.replicate, List.cons_append, List.nil_append, List.set_cons_zero, List.set_cons_succ, List.getElem?_cons_zero, List.getElem?_cons_succ, Nat.reduceAdd, Nat.reduceSub, Nat.reduceLeDiff, if_false, if_true, Bool.false_eq_true, entry, setTg, setAll, wipeE]
    refine (any_ok 1 ns ws hw hl (n + 2) s i1).mono fun v s6 ⟨h6, hv, val6, d6, e6⟩ => ?_
    subst hv
    simp only [List.length_cons] at i4
    refine Ok_iff.mpr ⟨by simp only [tps, List.length_map, line]; omega, d6, e6.some i2 hr4, hs ++ [h6], by simp [tps], ?_, by simp only [List.length_append, List.length_cons, List.length_nil]; omega⟩
    intro z hz
    rcases List.mem_append.mp hz with z1 | z1
    · exact i3 z z1
    · rw [List.mem_singleton] at z1; rw [z1]; exact val6
  · rintro acc s ⟨i1, i2, hs, rfl, i3, i4⟩
    obtain ⟨g6, c1, c2, c3⟩ := cut6 g
    simp only [Ok_nil, Ok_cons, Ok_ret, Ok_ex, Ok_asg, Ok_if, Ok_par, Ok_for, Ok_while, Ok_nm, Ok_sub, Ok_tp2, Ok_c, Ok_v, Ok_bin, Ok_cmp, Ok_and, Ok_or, Ok_not, Ok_ite, Ok_sub', Ok_tup, Ok_lst, Ok_dct, Ok_callE, Ok_blt, Ok_bm, Ok_sl, Ok_lc, Ok_x0, Ok_x1, Ok_bool, Ok_unl0, lock_none, lockOf_str, lockOf_tup, lockOf_int, lockOf_two, Ok_ok, List.map_cons, List.map_nil, List.length_cons, List.length_nil, List.replicate, List.cons_append, List.nil_append, List.set_cons_zero, List.set_cons_succ, List.getElem?_cons_zero, List.getElem?_cons_succ, Nat.reduceAdd, Nat.reduceSub, Nat.reduceLeDiff, if_false, if_true, Bool.false_eq_true, entry, setTg, setAll, wipeE, Ok_bind, partV]
    generalize hs7 : s.add (.lst (tps hs)) = s7
    have e7 : Ext s s7 := by rw [← hs7]; exact Ext.add _ _
    have g7 : s7.get s.sz = some (.lst (tps hs)) := by rw [← hs7]; exact add_get _ _
    refine Ok.eq (a := .ref s7.sz) (s := s7.add (.lst (tps g6))) ?_ ?_
    · show (match lists? s7 r4 with | some xs => _ | none => _) = _
      unfold lists?
      rw [e7.some i2]
      show R.ok _ (Store.add _ (.lst (cut (tps g) none (some 6)))) = _
      rw [c1]
    simp only [List.length_nil] at i4
    refine (Ok_addL ((Ext.add s7 _).some g7) (add_get _ _)).mpr ⟨by simp only [tps, List.length_map, line]; omega, ?_⟩
    rw [tps_app]
    generalize hs8 : (s7.add (.lst (tps g6))).add (.lst (tps (hs ++ g6))) = s8
    have e8 : Ext s s8 := by rw [← hs8]; exact (e7.trans (Ext.add _ _)).trans (Ext.add _ _)
    have g8 : s8.get (s7.add (.lst (tps g6))).sz = some (.lst (tps (hs ++ g6))) := by rw [← hs8]; exact add_get _ _
    generalize (s7.add (.lst (tps g6))).sz = r8 at g8
    have val8 : ∀ h ∈ hs ++ g6, val ws h = true := fun h hh => by
      rcases List.mem_append.mp hh with z | z
      · exact i3 h z
      · exact ((mg h).mp (c2 h z)).val hw
    simp only [lockOf_lst g8, lock_none, Ok_unl0]
    refine turns_rem (xs := tps (hs ++ g6)) (fun l env s => Dr 1 ns s ∧ s.get r8 = some (.lst (tps (hs ++ g6))) ∧ ∃ q u4 u7 u8, l = tps q ∧ (∀ h ∈ q, val ws h = true) ∧ env = [some (.ref 0), some (.ref 1), some x, some (.tup (wd ws)), u4, some (.ref r3), some (.ref r4), u7, u8]) (fun i l env s ⟨_, h, _⟩ => it_lst h) ?_ ?_ (by simp [F, tps]; omega) ⟨i1.ext e8, g8, hs ++ g6, _, _, _, rfl, val8, rfl⟩
    · rintro y l env s ⟨j1, j2, q, v4, v7, v8, j3, j4, rfl⟩
      obtain ⟨a, q', rfl, rfl, rfl⟩ := tps_cons j3
      have va := j4 a List.mem_cons_self
      simp only [bodyF, Ok_nil, Ok_cons, Ok_ret, Ok_ex, Ok_asg, Ok_if, Ok_par, Ok_for, Ok_while, Ok_nm, Ok_sub, Ok_tp2, Ok_c, Ok_v, Ok_bin, Ok_cmp, Ok_and, Ok_or, Ok_not, Ok_ite, Ok_sub', Ok_tup, Ok_lst, Ok_dct, Ok_callE, Ok_blt, Ok_bm, Ok_sl, Ok_lc, Ok_x0, Ok_x1, Ok_bool, Ok_unl0, lock_none, lockOf_str, lockOf_tup, lockOf_int, lockOf_two, Ok_ok, List.map_cons, List.map_nil, List.length_cons, List.length_nil, List.replicate, List.cons_append, List.nil_append, List.set_cons_zero, List.set_cons_succ, List.getElem?_cons_zero, List.getElem?_cons_succ, Nat.reduceAdd, Nat.reduceSub, Nat.reduceLeDiff, if_false, if_true, Bool.false_eq_true, entry, setTg, setAll, wipeE]
      refine (at_end_ok ws hw hl a va n s).mono fun v s9 ⟨hv, e9⟩ => ?_
      subst hv
      refine Ok.eq (law_end_ok ws hw a va (by omega) (by omega) (n + 3) s9) (Ok.eq (ne_same (gd_str (en_signs hw (fun c hc => by cases hc)) 60)) ?_)
      simp only [Ok_nil, Ok_cons, Ok_ret, Ok_ex, Ok_asg, Ok_if, Ok_par, Ok_for, Ok_while, Ok_nm, Ok_sub, Ok_tp2, Ok_c, Ok_v, Ok_bin, Ok_cmp, Ok_and, Ok_or, Ok_not, Ok_ite, Ok_sub', Ok_tup, Ok_lst, Ok_dct, Ok_callE, Ok_blt, Ok_bm, Ok_sl, Ok_lc, Ok_x0, Ok_x1, Ok_bool, Ok_unl0, lock_none, lockOf_str, lockOf_tup, lockOf_int, lockOf_two, Ok_ok, List.map_cons, List.map_nil, List.length_cons, List.length_nil, List.replicate, List.cons_append, List.nil_append, List.set_cons_zero, List.set_cons_succ, List.getElem?_cons_zero, List.getElem?_cons_succ, Nat.reduceAdd, Nat.reduceSub, Nat.reduceLeDiff, if_false, if_true, Bool.false_eq_true, entry, setTg, setAll, wipeE]
      refine ⟨by decide, ?_⟩
      refine turns_rem (xs := [.str [97], .str [110], .str [114]]) (fun l env s => Dr 1 ns s ∧ s.get r8 = some (.lst (tps (hs ++ g6))) ∧ ∃ cs u7, l = cs.map (fun c => D.str [c]) ∧ (∀ c ∈ cs, c ∈ SIGNS) ∧ env = [some (.ref 0), some (.ref 1), some x, some (.tup (wd ws)), some (.tup (bd' a)), some (.ref r3), some (.ref r4), u7, v8]) (fun i l env s _ => it_tup) ?_ ?_ (by decide) ⟨j1.ext e9, e9.some j2, [97, 110, 114], _, rfl, (fun c hc => hc), rfl⟩
      · rintro y l env s ⟨k1, k2, cs, w7, k3, k4, rfl⟩
        cases cs with
        | nil => cases k3
        | cons c cs =>
          cases k3
          have hc := k4 c List.mem_cons_self
          simp only [bodyF, Ok_nil, Ok_cons, Ok_ret, Ok_ex, Ok_asg, Ok_if, Ok_par, Ok_for, Ok_while, Ok_nm, Ok_sub, Ok_tp2, Ok_c, Ok_v, Ok_bin, Ok_cmp, Ok_and, Ok_or, Ok_not, Ok_ite, Ok_sub', Ok_tup, Ok_lst, Ok_dct, Ok_callE, Ok_blt, Ok_bm, Ok_sl, Ok_lc, Ok_x0, Ok_x1, Ok_bool, Ok_unl0, lock_none, lockOf_str, lockOf_tup, lockOf_int, lockOf_two, Ok_ok, List.map_cons, List.map_nil, List.length_cons, List.length_nil, List.replicate, List.cons_append, List.nil_append, List.set_cons_zero, List.set_cons_succ, List.getElem?_cons_zero, List.getElem?_cons_succ, Nat.reduceAdd, Nat.reduceSub, Nat.reduceLeDiff, if_false, if_true, Bool.false_eq_true, entry, setTg, setAll, wipeE]
          refine (read_ok ws hw hl a va c hc n s).mono fun v s10 ⟨hv, e10⟩ => ?_
          subst hv
          refine (law_read_ok ws hw a [c] (sg1 hc) (by simp only [List.length_cons, List.length_nil]; omega) (by omega) (n + 3) s10).mono fun v s11 ⟨hv, e11⟩ => ?_
          subst hv
          refine Ok.eq (ne_same ?_) ?_
          · show ([D.tup (bd' (rb ws a [c]).1), .str (rb ws a [c]).2]).all (gd 59) = true
            simp only [List.all_cons, List.all_nil, gd_bd _ 58, gd_str (rb_signs hw (sg1 hc)) 59, Bool.and_self]
          simp only [Ok_nil, Ok_cons, Ok_ret, Ok_ex, Ok_asg, Ok_if, Ok_par, Ok_for, Ok_while, Ok_nm, Ok_sub, Ok_tp2, Ok_c, Ok_v, Ok_bin, Ok_cmp, Ok_and, Ok_or, Ok_not, Ok_ite, Ok_sub', Ok_tup, Ok_lst, Ok_dct, Ok_callE, Ok_blt, Ok_bm, Ok_sl, Ok_lc, Ok_x0, Ok_x1, Ok_bool, Ok_unl0, lock_none, lockOf_str, lockOf_tup, lockOf_int, lockOf_two, Ok_ok, List.map_cons, List.map_nil, List.length_cons, List.length_nil, List.replicate, List.cons_append, List.nil_append, List.set_cons_zero, List.set_cons_succ, List.getElem?_cons_zero, List.getElem?_cons_succ, Nat.reduceAdd, Nat.reduceSub, Nat.reduceLeDiff, if_false, if_true, Bool.false_eq_true, entry, setTg, setAll, wipeE]
          exact ⟨(k1.ext e10).ext e11, e11.some (e10.some k2), cs, _, rfl, fun k hk => k4 k (List.mem_cons_of_mem _ hk), rfl⟩
      · rintro env s ⟨k1, k2, cs, w7, k3, k4, rfl⟩
        simp only [Ok_nil, Ok_cons, Ok_ret, Ok_ex, Ok_asg, Ok_if, Ok_par, Ok_for, Ok_while, Ok_nm, Ok_sub, Ok_tp2, Ok_c, Ok_v, Ok_bin, Ok_cmp, Ok_and, Ok_or, Ok_not, Ok_ite, Ok_sub', Ok_tup, Ok_lst, Ok_dct, Ok_callE, Ok_blt, Ok_bm, Ok_sl, Ok_lc, Ok_x0, Ok_x1, Ok_bool, Ok_unl0, lock_none, lockOf_str, lockOf_tup, lockOf_int, lockOf_two, Ok_ok, List.map_cons, List.map_nil, List.length_cons, List.length_nil, List.replicate, List.cons_append, List.nil_append, List.set_cons_zero, List.set_cons_succ, List.getElem?_cons_zero, List.getElem?_cons_succ, Nat.reduceAdd, Nat.reduceSub, Nat.reduceLeDiff, if_false, if_true, Bool.false_eq_true, entry, setTg, setAll, wipeE]
        exact ⟨k1, k2, q', _, _, _, rfl, fun h hh => j4 h (List.mem_cons_of_mem _ hh), rfl⟩
    · rintro env s ⟨j1, j2, q, v4, v7, v8, j3, j4, rfl⟩
      simp only [Ok_nil, Ok_cons, Ok_ret, Ok_ex, Ok_asg, Ok_if, Ok_par, Ok_for, Ok_while, Ok_nm, Ok_sub, Ok_tp2, Ok_c, Ok_v, Ok_bin, Ok_cmp, Ok_and, Ok_or, Ok_not, Ok_ite, Ok_sub', Ok_tup, Ok_lst, Ok_dct, Ok_callE, Ok_blt, Ok_bm, Ok_sl, Ok_lc, Ok_x0, Ok_x1, Ok_bool, Ok_unl0, lock_none, lockOf_str, lockOf_tup, lockOf_int, lockOf_two, Ok_ok, List.map_cons, List.map_nil, List.length_cons, List.length_nil, List.replicate, List.cons_append, List.nil_append, List.set_cons_zero, List.set_cons_succ, List.getElem?_cons_zero, List.getElem?_cons_succ, Nat.reduceAdd, Nat.reduceSub, Nat.reduceLeDiff, if_false, if_true, Bool.false_eq_true, entry, setTg, setAll, wipeE]
      exact ⟨_, _, _, _, _, _, _, rfl, j1⟩
theorem ev : ∀ ns : List Int, ns.length ≤ 63 → ∃ st, callI T 4000 24 22 [.ref 0] (script ns) = .ok (.bl true) st := by
  intro ns _
  have : Ok (callI T F (18 + 5 + 1) i_law [.ref 0] (script ns)) fun v s => v = .bl true := by
    refine Ok_call (fn := ⟨1, 9, b_law⟩) rfl rfl ?_
    have h0 : (script ns).get 0 = some (.flst (ns.map .int)) := add_get _ _
    have z0 : (script ns).sz = 1 := rfl
    show Ok (exSs T F (callI T F (18 + 5)) (.cons (.asg (.nm 1) (.lst (.cons false (.v 0) (.cons false (.c (.int 0)) .nil)))) (.cons (.for (.nm 2) .rng (.cons false (.c (.int 6)) .nil) (match b_law with | .cons _ (.cons (.for _ _ _ b) _) => b | _ => .nil)) (.cons (.ret (.c (.bl true))) .nil))) (entry 9 [.ref 0]) (script ns)) _
    rw [Ok_cons, Ok_asg, Ok_lst, Ok_x1]
    simp only [Ok_v, Ok_x1, Ok_c, Ok_x0, Ok_nm, entry, List.map_cons, List.map_nil, List.length_cons, List.length_nil, List.replicate, List.cons_append, List.nil_append, List.getElem?_cons_zero, List.getElem?_cons_succ, Nat.reduceAdd, Nat.reduceSub, List.set_cons_zero, List.set_cons_succ]
    refine ⟨by decide, ?_⟩
    rw [Ok_cons, Ok_for, Ok_x1, Ok_c, Ok_x0]
    rw [show (D.int 6) = .int ((6 : Nat) : Int) from rfl]
    simp only [lockOf_int, lock_none, Ok_unl0]
    have d1 : Dr 1 ns ((script ns).add (.lst [.ref 0, .int 0])) := ⟨by decide, (Ext.add _ _).some h0, 0, add_get (script ns) _⟩
    refine turns_rem (xs := (List.range 6).map fun (i : Nat) => D.int i) (fun l env s => Dr 1 ns s ∧ ∃ v2 v3 v4 v5 v6 v7 v8, env = [some (.ref 0), some (.ref 1), v2, v3, v4, v5, v6, v7, v8]) (fun i l env s _ => it_rg (by decide)) ?_ ?_ (by decide) ⟨d1, none, none, none, none, none, none, none, rfl⟩
    · rintro x l env s ⟨hd, v2, v3, v4, v5, v6, v7, v8, rfl⟩
      refine (law_turn ns 18 s hd x v2 v3 v4 v5 v6 v7 v8 rfl).mono fun fl s' ⟨w2, w3, w4, w5, w6, w7, w8, hfl, hd'⟩ => ?_
      subst hfl
      exact ⟨hd', _, _, _, _, _, _, _, rfl⟩
    · rintro env s ⟨hd, v2, v3, v4, v5, v6, v7, v8, rfl⟩
      simp only [Ok_cons, Ok_ret, Ok_c]
  obtain ⟨v, s, h1, rfl⟩ := this
  exact ⟨s, h1⟩
end Lk02
namespace Lk02
open PySem PySem.Spec PyProof.Rows L2 VI
abbrev R : PySem.W.OpenRow := PySem.W.OpenLaw.row PySem.Challenge.rw_turnedends_k02_whole_standings
abbrev hk : PySem.W.Hook := He.hookX 4 (faD tx) (fnD tx) [] [] (exB tx)
def ob (s : PySem.W.SharedT) : He.AlX := He.obsX 4 (faD tx) (fnD tx) [] [] (exB tx) (HandSHeadRun.getT s)
theorem ob_eq (s : PySem.W.SharedT) : ob s = hk.obs s.abs := He.obsX_eq (HandSHeadRun.getT_eq s)
def nms0 : List PySem.Str := ["TurnError", "BadWay", "BadStanding", "BadSign", "SIGNS", "MOST_CONVERSIONS", "CONVERSIONS", "HOLDING", "STANDING", "check_way", "start_of", "left", "sign_by", "text_by", "read_by", "ended", "check_standing", "first_standing", "read", "at_end", "all_standings", "_law_number", "_law_take", "_law_pick", "_law_way", "_law_text", "_law_by", "_law_made", "_law_is_of", "_law_texts"]
def nms1 : List PySem.Str := ["_law_sign", "_law_read", "_law_end", "_law_first", "_law_can", "_law_any_standing", "_law_reach"]
def nms : List PySem.Str := nms0 ++ nms1
theorem run_false (w : World) : HandSHeadRun.RunEq R (PySem.W.view R.prog [40]) hk ob 4000 nms (w.withFollow "special-get-raises" false) := by
  intro os
  kernel_rfl
theorem run_true (w : World) : HandSHeadRun.RunEq R (PySem.W.view R.prog [40]) hk ob 4000 nms (w.withFollow "special-get-raises" true) := by
  intro os
  kernel_rfl
theorem run (w : World) : HandSHeadRun.RunEq R (PySem.W.view R.prog [40]) hk ob 4000 nms w :=
  PySem.W.byRow2 "special-get-raises" (P := fun w => HandSHeadRun.RunEq R (PySem.W.view R.prog [40]) hk ob 4000 nms w) run_false run_true w
end Lk02
open PySem PySem.W PySem.Calls PyProof.Rows
theorem PySem.Challenge.cw_turnedends_k02_whole_standings_holds : PySem.Challenge.rw_turnedends_k02_whole_standings.Holds := by
  w_on; o_law
  refine HandSHeadRun.head_any (r := OpenLaw.row PySem.Challenge.rw_turnedends_k02_whole_standings) (q := view (OpenLaw.row PySem.Challenge.rw_turnedends_k02_whole_standings).prog [40]) (H := Lk02.hk) (ob := Lk02.ob) (M := 4000) (loose := Lk02.nms) (d := HandSHeadRun.topDef (OpenLaw.row PySem.Challenge.rw_turnedends_k02_whole_standings).prog 40) (kwd := []) Lk02.ob_eq
    (by kernel_rfl) (fun s => by kernel_rfl) Lk02.run (by kernel_rfl) (by kernel_rfl) (by kernel_rfl) (by rfl) (by first | assumption | decide +kernel) (by decide +kernel) ⟨rfl, rfl, rfl, rfl, rfl, by decide +kernel⟩ ?hw ?hc
  case hw => w_witness2
  case hc =>
    refine L2.walk_ofE (l := PySem.Challenge.rw_turnedends_k02_whole_standings) (n := 63) (k := 24) (x := "script") (CX := VI.CXa (PySem.Challenge.rw_turnedends_k02_whole_standings).prog) rfl (by decide) (by kernel_rfl) ⟨rfl, by decide, by decide⟩ ?F (VI.cx_no _)
    intro w mg fa h Y G hmg0
    have hmg : mg ("law" : PySem.Str) = some (.ref fa) := by
      have e : (HandSHeadRun.topDef (OpenLaw.row PySem.Challenge.rw_turnedends_k02_whole_standings).prog 40).name = ("law" : PySem.Str) := by kernel_rfl
      rw [← e]
      exact hmg0
    exact VI.law_end (t := Lk02.tx) (T := Lk02.T) (F := 4000) (fuel := 60) (n := 24) (i := 22) (most := 63) (d := Lk02.d_law) (x := "script") rfl Lk02.hd Lk02.bd rfl rfl Lk02.ev w mg fa h Y G hmg
