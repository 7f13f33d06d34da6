import PyProof.Rows.All
import HandS.ForMost
import HandS.ForExc
import HandS.Codes
import HandS.TupMul
import HandS.TupAny
import HandS.Wide
import HandS.Deep
import HandS.IsInst
import HandS.TupLen
import HandS.WordsDict
import PyProof.SeqIndex
import HandS.Flow
import KE.GoesMore
import HandS.Style
import KE.KExcSuper
import HandS.ExcCtx
import HandS.ExcField
import HandS.RaiseFrom
import HandS.TryMany
import HandS.TryOnly
import HandS.SuiteRaise
import HandS.Words
import HandS.WordsExc
import HandS.Defaults
import HandS.Head0
import HandS.Head1
import HandS.Head2
import HandS.HeadEnd
import HandS.HeadHook1
import HandS.HeadHook2
import PySem.Challenge.RW_doorways_k82_whole_piece_texts
set_option Elab.async false
set_option linter.all false
section
set_option Elab.async false
namespace DW
open PySem (Str)


inductive D where
  | non
  | bl (b : Bool)
  | int (i : Int)
  | str (x : Str)
  | tup (xs : List D)
  | lst (xs : List D)
  | ref (n : Nat)
  | frz (xs : List D)
  | exn
  deriving Inhabited, Repr

mutual
def D.eqb : D → D → Bool
  | .non, .non => true
  | .bl a, .bl b => a == b
  | .int a, .int b => decide (a = b)
  | .str a, .str b => decide (a = b)
  | .tup a, .tup b => D.eqbs a b
  | .lst a, .lst b => D.eqbs a b
  | .frz a, .frz b => D.eqbs a b
  | .ref a, .ref b => Nat.beq a b
  | .exn, .exn => true
  | _, _ => false
def D.eqbs : List D → List D → Bool
  | [], [] => true
  | a :: as, b :: bs => D.eqb a b && D.eqbs as bs
  | _, _ => false
end
mutual
theorem D.eqb_eq : ∀ {a b : D}, D.eqb a b = true → a = b
  | .non, b, h => by cases b <;> first | rfl | (simp [D.eqb] at h)
  | .exn, b, h => by cases b <;> first | rfl | (simp [D.eqb] at h)
  | .bl a, b, h => by cases b <;> simp [D.eqb] at h; subst h; rfl
  | .int a, b, h => by cases b <;> simp [D.eqb] at h; subst h; rfl
  | .str a, b, h => by cases b <;> simp [D.eqb] at h; subst h; rfl
  | .ref a, b, h => by cases b <;> simp [D.eqb] at h; subst h; rfl
  | .tup a, b, h => by cases b <;> simp [D.eqb] at h; rw [D.eqbs_eq h]
  | .lst a, b, h => by cases b <;> simp [D.eqb] at h; rw [D.eqbs_eq h]
  | .frz a, b, h => by cases b <;> simp [D.eqb] at h; rw [D.eqbs_eq h]
theorem D.eqbs_eq : ∀ {a b : List D}, D.eqbs a b = true → a = b
  | [], b, h => by cases b <;> first | rfl | (simp [D.eqbs] at h)
  | x :: xs, b, h => by
    cases b with
    | nil => simp [D.eqbs] at h
    | cons y ys =>
      simp [D.eqbs] at h
      rw [D.eqb_eq h.1, D.eqbs_eq h.2]
end
mutual
theorem D.eqb_refl : ∀ a : D, D.eqb a a = true
  | .non | .exn => by simp [D.eqb]
  | .bl _ | .int _ | .str _ | .ref _ => by simp [D.eqb]
  | .tup a | .lst a | .frz a => by simp [D.eqb, D.eqbs_refl a]
theorem D.eqbs_refl : ∀ a : List D, D.eqbs a a = true
  | [] => by simp [D.eqbs]
  | x :: xs => by simp [D.eqbs, D.eqb_refl x, D.eqbs_refl xs]
end
instance : DecidableEq D := fun a b =>
  match h : D.eqb a b with
  | true => isTrue (D.eqb_eq h)
  | false => isFalse fun e => by rw [e, D.eqb_refl] at h; cases h

inductive Ob where
  | lst (xs : List D)
  | dct (t : Bool) (kvs : List (D × D))
  | ins (c : Nat) (fs : List (Str × D))
  deriving Inhabited, Repr, DecidableEq
abbrev Store := List Ob
abbrev Env := List (Option D)


inductive R (α : Type) where
  | ok (a : α) (S : Store)
  | exc (c : Nat) (v : D) (S : Store)
  | bad (why : String)
  deriving Repr
def R.bind {α β : Type} : R α → (α → Store → R β) → R β
  | .ok a S, k => k a S
  | .exc c v S, _ => .exc c v S
  | .bad w, _ => .bad w

def R.opt {α : Type} (w : String) : Option α → Store → R α
  | some a, S => .ok a S
  | none, _ => .bad w
inductive RS where
  | nx (ρ : Env) (S : Store)
  | rt (d : D) (S : Store)
  | bk (ρ : Env) (S : Store)
  | ct (ρ : Env) (S : Store)
  | exc (c : Nat) (v : D) (ρ : Env) (S : Store)
  | bad (why : String)
  deriving Repr

def R.to {α : Type} (ρ : Env) : R α → (α → Store → RS) → RS
  | .ok a S, k => k a S
  | .exc c v S, _ => .exc c v ρ S
  | .bad w, _ => .bad w
def RS.andThen : RS → (Env → Store → RS) → RS
  | .nx ρ S, k => k ρ S
  | r, _ => r


abbrev LINE : Nat := 16777216
abbrev LIM : Nat := 1099511627776
abbrev I62 : Int := 4611686018427387904



def seqOf (S : Store) : D → Option (List D)
  | .tup xs => some xs
  | .lst xs => some xs
  | .frz xs => some xs
  | .ref n => match S[n]? with
    | some (.lst xs) => some xs
    | _ => none
  | _ => none

def lstOf (S : Store) : D → Option (List D)
  | .lst xs => some xs
  | .ref n => match S[n]? with
    | some (.lst xs) => some xs
    | _ => none
  | _ => none

def res (S : Store) : Nat → D → Option D
  | 0, _ => none
  | n + 1, d => match d with
    | .non => some .non
    | .bl b => some (.bl b)
    | .int i => some (.int i)
    | .str x => if PySem.PyData.strOk x then some (.str x) else none
    | .tup xs => (xs.mapM (res S n)).map .tup
    | .lst xs => (xs.mapM (res S n)).map .lst
    | .ref k => match S[k]? with
      | some (.lst xs) => (xs.mapM (res S n)).map .lst
      | _ => none
    | .frz _ => none
    | .exn => none
mutual
def deq : D → D → Bool
  | .non, .non => true
  | .bl a, .bl b => a == b
  | .bl a, .int j => decide ((if a then 1 else 0) = j)
  | .int i, .bl b => decide (i = (if b then 1 else 0))
  | .int i, .int j => decide (i = j)
  | .str x, .str y => decide (x = y)
  | .lst xs, .lst ys => deqs xs ys
  | .tup xs, .tup ys => deqs xs ys
  | _, _ => false
def deqs : List D → List D → Bool
  | [], [] => true
  | x :: xs, y :: ys => deq x y && deqs xs ys
  | _, _ => false
end
def tru (S : Store) : D → Option Bool
  | .non => some false
  | .bl b => some b
  | .int i => some (i != 0)
  | .str x => if x.length ≤ LINE then some ((x.length : Int) != 0) else none
  | .tup xs => some (!xs.isEmpty)
  | .lst xs => some (!xs.isEmpty)
  | .ref n => match S[n]? with
    | some (.lst xs) => some (!xs.isEmpty)
    | some (.dct false kvs) => some (!kvs.isEmpty)
    | _ => none
  | .frz xs => some (!xs.isEmpty)
  | .exn => none


inductive BOp where
  | add | sub | mul | fdiv | mod | pow | xor | and | shl | shr
  deriving Repr, DecidableEq
inductive COp where
  | eq | ne | lt | le | gt | ge | is | isnot | isin | notin
  deriving Repr, DecidableEq

def mulOk (i j : Int) : Bool := decide (-(2 ^ 64) < i ∧ i < 2 ^ 64) || decide (-(2 ^ 64) < j ∧ j < 2 ^ 64)

def binD (o : BOp) (a b : D) : Option D := match a, b with
  | .int i, .int j => match o with
    | .add => some (.int (i + j))
    | .sub => some (.int (i - j))
    | .mul => if mulOk i j then some (.int (i * j)) else none
    | .fdiv => if 0 < j ∧ j < 1073741824 then some (.int (i / j)) else none
    | .mod => if 0 < j then some (.int (i % j)) else none
    | .pow => if 0 ≤ j ∧ j ≤ 1000000 ∧ i.natAbs < 2 ^ 64 then some (.int (i ^ j.toNat)) else none
    | .xor => some (.int (PySem.Builtin.bitXor i j))
    | .and => some (.int (PySem.Builtin.bitAnd i j))
    | .shl => if 0 ≤ j ∧ j ≤ 1000000 ∧ i.natAbs < 2 ^ 64 then some (.int (i * 2 ^ j.toNat)) else none
    | .shr => if 0 ≤ j then some (.int (i / 2 ^ j.toNat)) else none
  | .str x, .str y => match o with
    | .add => if x.length + y.length ≤ LINE then some (.str (x ++ y)) else none
    | _ => none
  | .str x, .int n => match o with
    | .mul => if 2 ≤ n ∧ n ≤ 10000 ∧ x.length * n.toNat ≤ LINE then some (.str (if x.length = 0 then x else ⟨(List.replicate n.toNat x.cps).foldl (· ++ ·) #[]⟩)) else none
    | _ => none
  | .tup xs, .tup ys => match o with
    | .add => if xs.length + ys.length ≤ LINE then some (.tup (xs ++ ys)) else none
    | _ => none
  | _, _ => none

def catL (S : Store) (a b : D) : Option (List D) := match lstOf S a, lstOf S b with
  | some xs, some ys => if xs.length + ys.length ≤ LINE then some (xs ++ ys) else none
  | _, _ => none

def flatKey : D → Bool
  | .int _ => true
  | .str _ => true
  | _ => false
def keyOk (t : Bool) : D → Bool
  | .tup xs => t && xs.all flatKey
  | d => !t && flatKey d
def dget (kvs : List (D × D)) (k : D) : Option D := (kvs.find? fun p => decide (p.1 = k)).map (·.2)
def dput (kvs : List (D × D)) (k v : D) : List (D × D) :=
  if (kvs.any fun p => decide (p.1 = k)) then kvs.map (fun p => if p.1 = k then (p.1, v) else p) else kvs ++ [(k, v)]
abbrev DEPTH : Nat := 60
def flatD : D → Bool
  | .non => true
  | .bl _ => true
  | .int _ => true
  | .str _ => true
  | _ => false

def inL (S : Store) (a : D) (xs : List D) : Option Bool :=
  if flatD a && xs.all flatD then some (xs.any fun z => deq z a)
  else match res S DEPTH a, xs.mapM (res S DEPTH) with
    | some d, some es => some (es.any fun z => deq z d)
    | _, _ => none

def eqD (S : Store) (a b : D) : Option Bool :=
  if flatD a && flatD b then some (deq a b)
  else match res S DEPTH a, res S DEPTH b with
    | some x, some y => some (deq x y)
    | _, _ => none
def inD (S : Store) (a b : D) : Option Bool := match b with
  | .str y => match a with
    | .str x => some (!(PySem.Builtin.Str.occurrences y x 0 y.length 1).isEmpty)
    | _ => none
  | .ref n => match S[n]? with
    | some (.dct t kvs) => if keyOk t a then some ((dget kvs a).isSome) else none
    | some (.lst xs) => inL S a xs
    | _ => none
  | .lst xs => inL S a xs
  | .tup xs => inL S a xs
  | _ => none
def strLt (x y : Str) : Bool := decide (x.cps.toList < y.cps.toList)
def cmpD (S : Store) (o : COp) (a b : D) : Option Bool := match o with
  | .eq => eqD S a b
  | .ne => (eqD S a b).map (!·)
  | .lt => match a, b with
    | .int i, .int j => some (decide (i < j))
    | _, _ => none
  | .le => match a, b with
    | .int i, .int j => some (decide (i ≤ j))
    | _, _ => none
  | .gt => match a, b with
    | .int i, .int j => some (decide (j < i))
    | _, _ => none
  | .ge => match a, b with
    | .int i, .int j => some (decide (j ≤ i))
    | _, _ => none
  | .is => match b with
    | .non => match a with
      | .exn => none
      | a => some (decide (a = .non))
    | _ => none
  | .isnot => match b with
    | .non => match a with
      | .exn => none
      | a => some (!decide (a = .non))
    | _ => none
  | .isin => inD S a b
  | .notin => (inD S a b).map (!·)


def ixL (xs : List D) : D → Option D
  | .int k => L2.atI xs k
  | _ => none
def ixD (S : Store) (a i : D) : Option D := match a with
  | .ref n => match S[n]? with
    | some (.lst xs) => ixL xs i
    | some (.dct t kvs) => if keyOk t i then dget kvs i else none
    | _ => none
  | .tup xs => ixL xs i
  | .lst xs => ixL xs i
  | .str z => match i with
    | .int k => if z.length ≤ LINE then (L2.atI z.cps.toList k).map fun c => .str ⟨#[c]⟩ else none
    | _ => none
  | _ => none
def cutL {α : Type} (xs : List α) (lo hi : Option Int) : List α := (xs.drop (HT.sIx xs.length 0 lo)).take (HT.sIx xs.length xs.length hi - HT.sIx xs.length 0 lo)


inductive WV where
  | val (d : D)
  | new (xs : List D)
  deriving Repr
def WV.d : WV → D
  | .val d => d
  | .new xs => .lst xs
def binW (S : Store) (o : BOp) (a b : D) : Option WV := match binD o a b with
  | some d => some (.val d)
  | none => match o with
    | .add => (catL S a b).map .new
    | _ => none
def slD (S : Store) (a : D) (lo hi : Option Int) : Option WV := match a with
  | .tup xs => some (.val (.tup (cutL xs lo hi)))
  | .lst xs => some (.new (cutL xs lo hi))
  | .ref n => match S[n]? with
    | some (.lst xs) => some (.new (cutL xs lo hi))
    | _ => none
  | .str z => if z.length ≤ LINE then some (.val (.str (L2.cutS z lo hi))) else none
  | _ => none


inductive BI where
  | len | abs | min2 | max2 | sum | all | any | int | str | tuple | list
  deriving Repr, DecidableEq
def boolsOf : List D → Option (List Bool)
  | [] => some []
  | .bl b :: r => (boolsOf r).map (b :: ·)
  | _ => none
def intsOf : List D → Option (List Int)
  | [] => some []
  | .int i :: r => (intsOf r).map (i :: ·)
  | _ => none
def strsOf : List D → Option (List Str)
  | [] => some []
  | .str i :: r => (strsOf r).map (i :: ·)
  | _ => none
def lenD (S : Store) : D → Option Nat
  | .str z => if z.length ≤ LINE then some z.length else none
  | .tup xs => some xs.length
  | .lst xs => some xs.length
  | .frz xs => some xs.length
  | .ref n => match S[n]? with
    | some (.lst xs) => some xs.length
    | some (.dct _ kvs) => some kvs.length
    | _ => none
  | _ => none
def biD (S : Store) (b : BI) (vs : List D) : Option WV := match b, vs with
  | .len, [d] => (lenD S d).map fun (n : Nat) => .val (.int n)
  | .abs, [.int i] => some (.val (.int (if i < 0 then -i else i)))
  | .min2, [.int i, .int j] => some (.val (.int (if j < i then j else i)))
  | .max2, [.int i, .int j] => some (.val (.int (if j > i then j else i)))
  | .sum, [d] => ((lstOf S d).bind intsOf).map fun is => .val (.int is.sum)
  | .all, [d] => ((lstOf S d).bind boolsOf).map fun bs => .val (.bl (bs.all id))
  | .any, [d] => ((lstOf S d).bind boolsOf).map fun bs => .val (.bl (bs.any id))
  | .int, [.int i] => some (.val (.int i))
  | .int, [.bl k] => some (.val (.int (if k then 1 else 0)))
  | .int, [.str a] => if a.length ≤ 640 then (PySem.intText? a).map fun n => .val (.int n) else none
  | .str, [.int i] => if i.natAbs.log2 < 1920 then some (.val (.str (toString i))) else none
  | .tuple, [d] => match d with
    | .tup xs => some (.val (.tup xs))
    | d => (lstOf S d).map fun xs => .val (.tup xs)
  | .list, [d] => (seqOf S d).map .new
  | _, _ => none


inductive Mt where
  | split | join | append | index | index2 | count
  deriving Repr, DecidableEq
def findD : List D → D → Nat → Option Nat
  | [], _, _ => none
  | x :: r, d, i => if deq x d then some i else findD r d (i + 1)

def mtD (S : Store) (m : Mt) (o : D) (vs : List D) : Option WV := match m, o, vs with
  | .split, .str a, [.str b] => if b.length ≠ 0 ∧ a.length + 2 ≤ LINE then some (.new ((PySem.Txt.split a b).map .str)) else none
  | .join, .str a, [d] => match seqOf S d with
    | some xs => match strsOf xs with
      | some ys => if (ys.map (·.length)).sum + ys.length * a.length ≤ LINE then some (.val (.str (PySem.Txt.join a ys))) else none
      | none => none
    | none => none
  | .index, d, [x] => match lstOf S d with
    | some xs => if flatD x && xs.all flatD then (findD xs x 0).map fun (i : Nat) => .val (.int i) else none
    | none => none
  | .index2, d, [x, .int i] => match lstOf S d with
    | some xs => if flatD x && xs.all flatD && decide (0 ≤ i ∧ i ≤ LINE) then (findD (xs.drop i.toNat) x i.toNat).map fun (i : Nat) => .val (.int i) else none
    | none => none
  | .count, d, [x] => match lstOf S d with
    | some xs => if flatD x && xs.all flatD then some (.val (.int (xs.countP fun z => deq z x))) else none
    | none => none
  | _, _, _ => none


def rcvOk (S : Store) (m : Mt) (d : D) : Bool := match m with
  | .split | .join => match d with
    | .str _ => true
    | _ => false
  | _ => (lstOf S d).isSome


inductive IK where
  | seq | rng | enum | zip
  deriving Repr, DecidableEq
def rngD (lo : Int) (n : Nat) : List D := (List.range n).map fun i => .int (lo + (i : Nat))

abbrev Gd := List (Nat × List D)
def srcOf (S : Store) : D → Option (List D × Gd)
  | .tup xs => some (xs, [])
  | .lst xs => some (xs, [])
  | .frz xs => some (xs, [])
  | .ref n => match S[n]? with
    | some (.lst xs) => some (xs, [(n, xs)])
    | _ => none
  | _ => none
def enumD (xs : List D) : List D := xs.mapIdx fun i x => .tup [.int (i : Nat), x]
def itemsOf (S : Store) (k : IK) (vs : List D) : Option (List D × Gd) := match k, vs with
  | .seq, [.str z] => some (z.cps.toList.map fun c => .str ⟨#[c]⟩, [])
  | .seq, [d] => srcOf S d
  | .rng, [.int j] => if -I62 ≤ j ∧ j < I62 then some (rngD 0 j.toNat, []) else none
  | .rng, [.int i, .int j] => if -I62 ≤ i ∧ i < I62 ∧ -I62 ≤ j ∧ j < I62 then some (rngD i (j - i).toNat, []) else none
  | .enum, [d] => (srcOf S d).map fun p => (enumD p.1, p.2)
  | .zip, [a, b] => match srcOf S a, srcOf S b with
    | some p, some q => some ((p.1.zip q.1).map fun z => .tup [z.1, z.2], p.2 ++ q.2)
    | _, _ => none
  | _, _ => none
def stays (S : Store) (g : Gd) : Bool := g.all fun p => decide (S[p.1]? = some (.lst p.2))


inductive Tg where
  | nm (i : Nat)
  | tp (ts : List Tg)
  deriving Repr
mutual
def bindT : Tg → D → Env → Option Env
  | .nm i, d, ρ => if i < ρ.length then some (ρ.set i (some d)) else none
  | .tp ts, d, ρ => match d with
    | .tup xs => bindTs ts xs ρ
    | _ => none
def bindTs : List Tg → List D → Env → Option Env
  | [], [], ρ => some ρ
  | t :: ts, x :: xs, ρ => match bindT t x ρ with
    | some ρ' => bindTs ts xs ρ'
    | none => none
  | _, _, _ => none
end
def wipe (ρ : Env) : List Nat → Env
  | [] => ρ
  | v :: vs => (wipe ρ vs).set v none


mutual
inductive CE where
  | var (i : Nat)
  | cst (d : D)
  | bin (o : BOp) (a b : CE)
  | neg (a : CE)
  | cmp (o : COp) (a b : CE)
  | chn (o p : COp) (a b c : CE)
  | and (a b : CE)
  | or (a b : CE)
  | not (a : CE)
  | ite (c a b : CE)
  | tup (es : CEs)
  | lst (es : CEs)
  | new (e : CE)
  | dct (t : Bool) (ks vs : CEs)
  | ix (a i : CE)
  | sl (a lo hi : CE)
  | call (f : Nat) (es : CEs)
  | bi (b : BI) (es : CEs)
  | mt (m : Mt) (o : CE) (es : CEs)
  | app (o e : CE)
  | isi (a : CE) (t : String)
  | comp (own : List Nat) (tg : Tg) (k : IK) (it : CEs) (c el : CE)
  | xfld (i : Nat) (f : Str)
inductive CEs where
  | nil
  | cons (e : CE) (es : CEs)
end
mutual
inductive CS where
  | asg (t : Tg) (e : CE)
  | put (o i e : CE)
  | xpr (e : CE)
  | ret (e : CE)
  | cond (c : CE) (a b : CSs)
  | loop (t : Tg) (k : IK) (it : CEs) (b : CSs)
  | whl (c : CE) (b : CSs)
  | raise (c : Nat) (e : CE)
  | raiseN (c : Nat) (e : CE)
  | tryx (b : CSs) (hs : CHs)
  | tryr (b : CSs) (c : Nat) (s : CSs)
  | pass
  | brk
  | cont
inductive CSs where
  | nil
  | cons (s : CS) (r : CSs)
inductive CHs where
  | nil
  | cons (c : Nat) (n : Option Nat) (b : CSs) (r : CHs)
end

def newIf (b : Bool) (e : CE) : CE := if b then .new e else e

def noPart : CE → Bool
  | .cst .non => true
  | _ => false
def partOf (c : CE) (d : D) : Option (Option Int) := if noPart c then some none else match d with
  | .int i => some (some i)
  | _ => none


structure GX where
  call : Nat → List D → Store → R D
  sub : Nat → Nat → Bool
  fld : Nat → Str
  hot : Nat → Bool
abbrev Cur := Option (Nat × D)

def isiD (S : Store) (t : String) : D → Option Bool
  | .non => some false
  | .bl _ => some (t == "bool" || t == "int")
  | .int _ => some (t == "int")
  | .str _ => some (t == "str")
  | .tup _ => some (t == "tuple")
  | .lst _ => some (t == "list")
  | .ref n => match S[n]? with
    | some (.lst _) => some (t == "list")
    | some (.dct _ _) => some (t == "dict")
    | _ => none
  | _ => none

def compL (g : Gd) (f : D → Store → R (Option D)) : List D → Store → R (List D)
  | [], S => if stays S g then .ok [] S else .bad "a walked list was changed"
  | x :: xs, S => if stays S g then
      match f x S with
      | .ok o S1 => (compL g f xs S1).bind fun ys S2 => .ok (match o with | some y => y :: ys | none => ys) S2
      | .exc _ _ _ => .bad "an error out of a comprehension"
      | .bad w => .bad w
    else .bad "a walked list was changed"
mutual
def ev (G : GX) (cur : Cur) : CE → Env → Store → R WV
  | .var i, ρ, S => match ρ[i]? with
    | some (some .exn) => .bad "a held error"
    | some (some d) => .ok (.val d) S
    | _ => .bad "an empty name"
  | .cst d, _, S => .ok (.val d) S
  | .bin o a b, ρ, S => (ev G cur a ρ S).bind fun x S => (ev G cur b ρ S).bind fun y S => .opt "bin" (binW S o x.d y.d) S
  | .neg a, ρ, S => (ev G cur a ρ S).bind fun x S => match x.d with
    | .int i => .ok (.val (.int (-i))) S
    | _ => .bad "neg"
  | .cmp o a b, ρ, S => (ev G cur a ρ S).bind fun x S => (ev G cur b ρ S).bind fun y S => .opt "cmp" ((cmpD S o x.d y.d).map fun r => .val (.bl r)) S
  | .chn o p a b c, ρ, S => (ev G cur a ρ S).bind fun x S => (ev G cur b ρ S).bind fun y S => match cmpD S o x.d y.d with
    | some true => (ev G cur c ρ S).bind fun z S => .opt "cmp" ((cmpD S p y.d z.d).map fun r => .val (.bl r)) S
    | some false => .ok (.val (.bl false)) S
    | none => .bad "cmp"
  | .and a b, ρ, S => (ev G cur a ρ S).bind fun x S => match tru S x.d with
    | some true => ev G cur b ρ S
    | some false => .ok (.val x.d) S
    | none => .bad "truth"
  | .or a b, ρ, S => (ev G cur a ρ S).bind fun x S => match tru S x.d with
    | some true => .ok (.val x.d) S
    | some false => ev G cur b ρ S
    | none => .bad "truth"
  | .not a, ρ, S => (ev G cur a ρ S).bind fun x S => match tru S x.d with
    | some k => .ok (.val (.bl (!k))) S
    | none => .bad "truth"
  | .ite c a b, ρ, S => (ev G cur c ρ S).bind fun x S => match tru S x.d with
    | some true => ev G cur a ρ S
    | some false => ev G cur b ρ S
    | none => .bad "truth"
  | .tup es, ρ, S => (evs G cur es ρ S).bind fun xs S => if xs.length ≤ LINE then .ok (.val (.tup xs)) S else .bad "size"
  | .lst es, ρ, S => (evs G cur es ρ S).bind fun xs S => if xs.length ≤ LINE then .ok (.new xs) S else .bad "size"
  | .new e, ρ, S => (ev G cur e ρ S).bind fun x S => match x with
    | .new xs => .ok (.val (.ref S.length)) (S ++ [.lst xs])
    | .val _ => .bad "no new list"
  | .dct t ks vs, ρ, S => (evs G cur ks ρ S).bind fun xs S => (evs G cur vs ρ S).bind fun ys S =>
      if xs.all (keyOk t) && decide (xs.length = ys.length) && decide (xs.length ≤ 15) then .ok (.val (.ref S.length)) (S ++ [.dct t ((xs.zip ys).foldl (fun acc kv => dput acc kv.1 kv.2) [])]) else .bad "dict"
  | .ix a i, ρ, S => (ev G cur a ρ S).bind fun x S => (ev G cur i ρ S).bind fun y S => .opt "item" ((ixD S x.d y.d).map .val) S
  | .sl a lo hi, ρ, S => (ev G cur a ρ S).bind fun x S => ((ev G cur lo ρ S).bind fun l S => .opt "slice" (partOf lo l.d) S).bind fun l S =>
      ((ev G cur hi ρ S).bind fun h S => .opt "slice" (partOf hi h.d) S).bind fun h S => .opt "slice" (slD S x.d l h) S
  | .call f es, ρ, S => (evs G cur es ρ S).bind fun xs S => (G.call f xs S).bind fun d S => .ok (.val d) S
  | .bi b es, ρ, S => (evs G cur es ρ S).bind fun xs S => .opt "built-in" (biD S b xs) S
  | .mt m o es, ρ, S => (ev G cur o ρ S).bind fun x S => if rcvOk S m x.d then (evs G cur es ρ S).bind fun xs S => .opt "method" (mtD S m x.d xs) S else .bad "method"
  | .app o e, ρ, S => (ev G cur o ρ S).bind fun x S => if (lstOf S x.d).isSome = false then .bad "append" else (ev G cur e ρ S).bind fun y S => match x.d with
    | .ref n => match S[n]? with
      | some (.lst xs) => if xs.length < LINE then .ok (.val .non) (S.set n (.lst (xs ++ [y.d]))) else .bad "size"
      | _ => .bad "append"
    | _ => .bad "append"
  | .isi a t, ρ, S => (ev G cur a ρ S).bind fun x S => .opt "isinstance" ((isiD S t x.d).map fun k => .val (.bl k)) S
  | .comp own tg k it c el, ρ, S => (evs G cur it ρ S).bind fun vs S => match itemsOf S k vs with
    | some (xs, g) => if xs.length ≤ LINE then (compL g (fun x S => match bindT tg x (wipe ρ own) with
        | some ρ' => (ev G cur c ρ' S).bind fun b S => match tru S b.d with
          | some true => (ev G cur el ρ' S).bind fun y S => .ok (some y.d) S
          | some false => .ok none S
          | none => .bad "truth"
        | none => .bad "target") xs S).bind fun ys S => .ok (.new ys) S else .bad "size"
    | none => .bad "walk"
  | .xfld i f, ρ, S => match ρ[i]?, cur with
    | some (some .exn), some (c, v) => if G.fld c = f then .ok (.val v) S else .bad "field"
    | _, _ => .bad "field"
def evs (G : GX) (cur : Cur) : CEs → Env → Store → R (List D)
  | .nil, _, S => .ok [] S
  | .cons e es, ρ, S => (ev G cur e ρ S).bind fun x S => (evs G cur es ρ S).bind fun xs S => .ok (x.d :: xs) S
end

def forL (g : Gd) (f : D → Env → Store → RS) : List D → Env → Store → RS
  | [], ρ, S => if stays S g then .nx ρ S else .bad "a walked list was changed"
  | x :: xs, ρ, S => if stays S g then
      match f x ρ S with
      | .nx ρ' S' => forL g f xs ρ' S'
      | .ct ρ' S' => forL g f xs ρ' S'
      | .bk ρ' S' => .nx ρ' S'
      | r => r
    else .bad "a walked list was changed"

def forR (n : Nat) (f : D → Env → Store → RS) : Nat → Nat → Env → Store → RS
  | 0, _, _, _ => .bad "no end"
  | m + 1, i, ρ, S => match S[n]? with
    | some (.lst xs) => match xs[i]? with
      | none => .nx ρ S
      | some x => match f x ρ S with
        | .nx ρ' S' => forR n f m (i + 1) ρ' S'
        | .ct ρ' S' => forR n f m (i + 1) ρ' S'
        | .bk ρ' S' => .nx ρ' S'
        | r => r
    | _ => .bad "no list"
def whlL (c : Env → Store → R Bool) (f : Env → Store → RS) : Nat → Env → Store → RS
  | 0, _, _ => .bad "no end"
  | m + 1, ρ, S => (c ρ S).to ρ fun b S => match b with
    | false => .nx ρ S
    | true => match f ρ S with
      | .nx ρ' S' => whlL c f m ρ' S'
      | .ct ρ' S' => whlL c f m ρ' S'
      | .bk ρ' S' => .nx ρ' S'
      | r => r

def loopR (k : IK) (vs : List D) (f : D → Env → Store → RS) (ρ : Env) (S : Store) : RS := match k, vs with
  | .seq, [.ref n] => forR n f LIM 0 ρ S
  | k, vs => match itemsOf S k vs with
    | some p => forL p.2 f p.1 ρ S
    | none => .bad "walk"
def putD (S : Store) (o i v : D) : Option Store := match o with
  | .ref n => match S[n]? with
    | some (.lst xs) => match i with
      | .int k => (L2.ixN xs.length k).map fun j => S.set n (.lst (xs.set j v))
      | _ => none
    | some (.dct t kvs) => if keyOk t i && decide (kvs.length < LINE) then some (S.set n (.dct t (dput kvs i v))) else none
    | _ => none
  | _ => none
mutual
def ex (G : GX) (cur : Cur) : CS → Env → Store → RS
  | .asg t e, ρ, S => (ev G cur e ρ S).to ρ fun x S => match bindT t x.d ρ with
    | some ρ' => .nx ρ' S
    | none => .bad "target"
  | .put o i e, ρ, S => (ev G cur e ρ S).to ρ fun v S => (ev G cur o ρ S).to ρ fun x S => (ev G cur i ρ S).to ρ fun y S => match putD S x.d y.d v.d with
    | some S => .nx ρ S
    | none => .bad "store"
  | .xpr e, ρ, S => (ev G cur e ρ S).to ρ fun _ S => .nx ρ S
  | .ret e, ρ, S => (ev G cur e ρ S).to ρ fun x S => .rt x.d S
  | .cond c a b, ρ, S => (ev G cur c ρ S).to ρ fun x S => match tru S x.d with
    | some true => exs G cur a ρ S
    | some false => exs G cur b ρ S
    | none => .bad "truth"
  | .loop t k it b, ρ, S => (evs G cur it ρ S).to ρ fun vs S => loopR k vs (fun x ρ S => match bindT t x ρ with
      | some ρ' => exs G cur b ρ' S
      | none => .bad "target") ρ S
  | .whl c b, ρ, S => whlL (fun ρ S => (ev G cur c ρ S).bind fun x S => .opt "truth" (tru S x.d) S) (fun ρ S => exs G cur b ρ S) LIM ρ S
  | .raise c e, ρ, S => (ev G cur e ρ S).to ρ fun x S => .exc c x.d ρ S
  | .raiseN c e, ρ, S => (ev G cur e ρ S).to ρ fun x S => if G.hot c then .exc c x.d ρ S else .bad "raise"
  | .tryx b hs, ρ, S => match exs G cur b ρ S with
    | .exc c v ρ' S' => exh G hs c v ρ' S'
    | r => r
  | .tryr b h s, ρ, S => match exs G cur b ρ S with
    | .exc c v ρ' S' => if G.sub c h then (if G.hot c then .bad "a hot error" else exs G (some (c, v)) s ρ' S') else (if G.hot c then .exc c v ρ' S' else .bad "an error flies through")
    | r => r
  | .pass, ρ, S => .nx ρ S
  | .brk, ρ, S => .bk ρ S
  | .cont, ρ, S => .ct ρ S
def exs (G : GX) (cur : Cur) : CSs → Env → Store → RS
  | .nil, ρ, S => .nx ρ S
  | .cons s r, ρ, S => (ex G cur s ρ S).andThen fun ρ S => exs G cur r ρ S
def exh (G : GX) : CHs → Nat → D → Env → Store → RS
  | .nil, c, v, ρ, S => .exc c v ρ S
  | .cons h n b r, c, v, ρ, S => if G.sub c h then
      (match n with
      | none => (match exs G (some (c, v)) b ρ S with
          | .exc _ _ _ _ => .bad "an error out of a suite"
          | r => r)
      | some i => if i < ρ.length then
          (match exs G (some (c, v)) b (ρ.set i (some .exn)) S with
          | .nx ρ S => .nx (ρ.set i none) S
          | .bk ρ S => .bk (ρ.set i none) S
          | .ct ρ S => .ct (ρ.set i none) S
          | .exc _ _ _ _ => .bad "an error out of a suite"
          | r => r) else .bad "a name")
    else exh G r c v ρ S
end


structure Fn where
  par : Nat
  slots : Nat
  body : CSs
mutual
def D.und (n : Nat) : D → Bool
  | .tup xs => D.unds n xs
  | .lst xs => D.unds n xs
  | .frz xs => D.unds n xs
  | .ref k => Nat.blt k n
  | .exn => false
  | _ => true
def D.unds (n : Nat) : List D → Bool
  | [] => true
  | x :: xs => D.und n x && D.unds n xs
end

def gc (S S' : Store) (d : D) : Store := if d.und S.length && decide (S'.take S.length = S) then S else S'
def fin (S : Store) : RS → R D
  | .nx _ S' => .ok .non (gc S S' .non)
  | .rt d S' => if d.und S'.length then .ok d (gc S S' d) else .bad "a held error is told"
  | .exc c v _ S' => if v.und S'.length then .exc c v (gc S S' v) else .bad "a held error is told"
  | .bad w => .bad w
  | _ => .bad "a loop is left"
def run (T : List Fn) (sub : Nat → Nat → Bool) (fld : Nat → Str) (hot : Nat → Bool) : Nat → Nat → List D → Store → R D
  | 0, _, _, _ => .bad "depth"
  | k + 1, f, vs, S => match T[f]? with
    | some fn => if vs.length = fn.par then fin S (exs ⟨run T sub fld hot k, sub, fld, hot⟩ none fn.body (vs.map some ++ List.replicate (fn.slots - fn.par) none) S) else .bad "arguments"
    | none => .bad "no def"
end DW
end

section
set_option Elab.async false
namespace DW
open PySem (Str Expr Stmt Scope Comprehension ExceptHandler Keyword Pos)

structure Cfg where
  N : List Str
  sc : Scope
  fns : List (Str × Nat × List Str)
  exc : List (Str × Nat)
  hnd : List (Str × Nat)
  cons : List (Str × D)
  muts : List Str
  tupd : List (Nat × Nat)
  calm : Bool
  xf : Bool
  top : Bool

def ck (b : Bool) : Option Unit := if b then some () else none
theorem ck_some {b : Bool} {u : Unit} (h : ck b = some u) : b = true := by
  unfold ck at h
  cases b with
  | true => rfl
  | false => cases h
def visB (sc : Scope) (x : Str) : Bool := (match sc.names.lookup x with
  | some .local => true
  | some .cell => true
  | some .free => true
  | _ => false) && !(x == ("__debug__" : Str)) && !(x == ("__classdict__" : Str))
def globB (sc : Scope) (x : Str) : Bool := (match sc.names.lookup x with
  | some .globalImplicit => true
  | _ => false) && !(x == ("__debug__" : Str))
def slotOf (c : Cfg) (x : Str) : Option Nat := (ck (visB c.sc x)).bind fun _ => c.N.findIdx? (fun y => decide (y = x))

def plainE : Expr → Bool
  | .Starred _ _ => false
  | .Slice _ _ _ _ => false
  | .Set _ _ _ => false
  | _ => true
def notIf : Expr → Bool
  | .IfExp _ _ _ _ => false
  | _ => true

def recvB : Expr → Bool
  | .Call _ [] [] _ => false
  | _ => true
def opB : PySem.Operator → Option BOp
  | .Add => some .add
  | .Sub => some .sub
  | .Mult => some .mul
  | .FloorDiv => some .fdiv
  | .Mod => some .mod
  | .Pow => some .pow
  | .BitXor => some .xor
  | .BitAnd => some .and
  | .LShift => some .shl
  | .RShift => some .shr
  | _ => none
def opC : PySem.CmpOp → COp
  | .Eq => .eq
  | .NotEq => .ne
  | .Lt => .lt
  | .LtE => .le
  | .Gt => .gt
  | .GtE => .ge
  | .Is => .is
  | .IsNot => .isnot
  | .In => .isin
  | .NotIn => .notin
def constD : PySem.Const → Option D
  | .none => some .non
  | .bool b => some (.bl b)
  | .int i => some (.int i)
  | .str x => some (.str x)
  | _ => none
def mapE (f : Expr → Option CE) : List Expr → Option CEs
  | [] => some .nil
  | e :: r => (f e).bind fun a => (mapE f r).bind fun b => some (.cons a b)
def foldE (op : CE → CE → CE) (f : Expr → Option CE) : List Expr → Option CE
  | [] => none
  | e :: r => (ck (notIf e)).bind fun _ => match r with
    | [] => f e
    | e2 :: r2 => (f e).bind fun a => (foldE op f (e2 :: r2)).bind fun b => some (op a b)
def keyC : Option Expr → Option D
  | some (.Constant (.int i) _ _) => some (.int i)
  | some (.Constant (.str x) _ _) => some (.str x)
  | _ => none
def mapO : List (Option Expr) → Option (List D)
  | [] => some []
  | e :: r => (keyC e).bind fun a => (mapO r).bind fun b => some (a :: b)
def csts : List D → CEs
  | [] => .nil
  | d :: ds => .cons (.cst d) (csts ds)

def prod : Nat → Expr → Bool
  | 0, _ => false
  | n + 1, e => match e with
    | .List _ _ => true
    | .ListComp _ _ _ _ => true
    | .Subscript _ (.Slice _ _ _ _) _ => true
    | .Call (.Name x _) _ _ _ => decide (x = ("list" : Str)) || decide (x = ("sorted" : Str))
    | .Call (.Attribute _ x _) _ _ _ => decide (x = ("split" : Str))
    | .BinOp a .Add b _ => prod n a || prod n b
    | .IfExp _ a b _ => prod n a && prod n b
    | _ => false
def biTab1 : List (Str × BI) := [("len", .len), ("abs", .abs), ("sum", .sum), ("all", .all), ("any", .any), ("int", .int), ("str", .str), ("tuple", .tuple), ("list", .list)]
def biTab2 : List (Str × BI) := [("min", .min2), ("max", .max2)]
def biOf (x : Str) (n : Nat) : Option BI := if n = 1 then biTab1.lookup x else if n = 2 then biTab2.lookup x else none
def mtTab1 : List (Str × Mt) := [("split", .split), ("join", .join), ("index", .index), ("count", .count)]
def mtTab2 : List (Str × Mt) := [("index", .index2)]
def mtOf (x : Str) (n : Nat) : Option Mt := if n = 1 then mtTab1.lookup x else if n = 2 then mtTab2.lookup x else none
mutual

def cT (l : List (Str × Nat)) : Nat → Expr → Option Tg
  | 0, _ => none
  | n + 1, e => match e with
    | .Name x _ => (l.lookup x).map .nm
    | .Tuple es _ _ => (cTs l n es).map .tp
    | _ => none
def cTs (l : List (Str × Nat)) : Nat → List Expr → Option (List Tg)
  | 0, _ => none
  | _ + 1, [] => some []
  | n + 1, e :: r => (cT l n e).bind fun a => (cTs l n r).bind fun b => some (a :: b)
end

def ownOf (N : List Str) (scope : Scope) : List (Str × Nat) := scope.names.filterMap fun y => match y.2 with
  | .local => (N.findIdx? fun z => decide (z = y.1)).map fun i => (y.1, i)
  | .cell => (N.findIdx? fun z => decide (z = y.1)).map fun i => (y.1, i)
  | _ => none

inductive WalkE where
  | seq (e : Expr)
  | rng1 (p pos : Pos) (a : Expr)
  | rng2 (p pos : Pos) (a b : Expr)
  | enum (p pos : Pos) (a : Expr)
  | zip (p pos : Pos) (a b : Expr)
def WalkE.back : WalkE → Expr
  | .seq e => e
  | .rng1 p pos a => .Call (.Name "range" p) [a] [] pos
  | .rng2 p pos a b => .Call (.Name "range" p) [a, b] [] pos
  | .enum p pos a => .Call (.Name "enumerate" p) [a] [] pos
  | .zip p pos a b => .Call (.Name "zip" p) [a, b] [] pos
def walkOf (e : Expr) : WalkE := match e with
  | .Call (.Name x p) [a] [] pos => if x = ("range" : Str) then .rng1 p pos a else if x = ("enumerate" : Str) then .enum p pos a else .seq e
  | .Call (.Name x p) [a, b] [] pos => if x = ("range" : Str) then .rng2 p pos a b else if x = ("zip" : Str) then .zip p pos a b else .seq e
  | e => .seq e
def tupTg : Expr → Bool
  | .Tuple _ _ _ => true
  | _ => false
def cWalk (c : Cfg) (f : Expr → Option CE) (tg : Expr) : WalkE → Option (IK × CEs)
  | .seq e => (f e).bind fun a => some (.seq, .cons a .nil)
  | .rng1 _ _ a => (ck (globB c.sc "range")).bind fun _ => (f a).bind fun a => some (.rng, .cons a .nil)
  | .rng2 _ _ a b => (ck (globB c.sc "range")).bind fun _ => (f a).bind fun a => (f b).bind fun b => some (.rng, .cons a (.cons b .nil))
  | .enum _ _ a => (ck (globB c.sc "enumerate" && tupTg tg)).bind fun _ => (f a).bind fun a => some (.enum, .cons a .nil)
  | .zip _ _ _ _ => none
def kwOf : List Keyword → Option (List (Str × Expr × Pos))
  | [] => some []
  | ⟨some k, e, p⟩ :: r => (kwOf r).bind fun l => some ((k, e, p) :: l)
  | ⟨none, _, _⟩ :: _ => none
def tyNames : List (Str × String) := [("int", "int"), ("bool", "bool"), ("str", "str"), ("tuple", "tuple"), ("list", "list"), ("dict", "dict")]

def cCallN (c : Cfg) (f : Expr → Option CE) (x : Str) (args : List Expr) (kws : List Keyword) : Option CE := (ck (globB c.sc x && c.calm)).bind fun _ => match c.fns.lookup x with
  | some (fi, ps) => match kws with
    | [] => (ck (!args.isEmpty && decide (args.length = ps.length))).bind fun _ => (mapE f args).map (.call fi)
    | kws => (kwOf kws).bind fun l => (ck (args.isEmpty && decide (l.map (fun (z : Str × Expr × Pos) => z.1) = ps))).bind fun _ => (mapE f (l.map fun (z : Str × Expr × Pos) => z.2.1)).map (.call fi)
  | none => match kws with
    | [] => if x = ("isinstance" : Str) then
        (match args with
        | [a, .Name t _] => (ck (globB c.sc t && !(t == ("__name__" : Str)))).bind fun _ => (tyNames.lookup t).bind fun t => (f a).map fun a => .isi a t
        | _ => none)
      else (biOf x args.length).bind fun b => (mapE f args).map (.bi b)
    | _ => none

def cCallM (f : Expr → Option CE) (o : Expr) (x : Str) (ap cp : Pos) (args : List Expr) : Option CE := (ck (recvB o && (ap.endLine == cp.line))).bind fun _ =>
  if x = ("append" : Str) then
    (match args with
    | [e] => (f o).bind fun o => (f e).bind fun e => some (.app o e)
    | _ => none)
  else (mtOf x args.length).bind fun m => (f o).bind fun o => (mapE f args).map (.mt m o)
def cE : Nat → Cfg → Expr → Option CE
  | 0, _, _ => none
  | n + 1, c, e => match e with
    | .Name x _ => match slotOf c x with
      | some i => some (.var i)
      | none => (ck (globB c.sc x)).bind fun _ => (c.cons.lookup x).map .cst
    | .Constant k _ _ => (constD k).map .cst
    | .BinOp a o b _ => (opB o).bind fun o => (cE n c a).bind fun a => (cE n c b).bind fun b => some (.bin o a b)
    | .UnaryOp .Not a _ => (ck (notIf a)).bind fun _ => (cE n c a).map .not
    | .UnaryOp .USub a _ => (cE n c a).map .neg
    | .BoolOp .And vs _ => foldE .and (cE n c) vs
    | .BoolOp .Or vs _ => foldE .or (cE n c) vs
    | .Compare a [o] [b] _ => (cE n c a).bind fun a => (cE n c b).bind fun b => some (.cmp (opC o) a b)
    | .Compare a [o, p] [b, d] _ => (cE n c a).bind fun a => (cE n c b).bind fun b => (cE n c d).bind fun d => some (.chn (opC o) (opC p) a b d)
    | .IfExp t a b _ => (ck (notIf t)).bind fun _ => (cE n c t).bind fun t => (cE n c a).bind fun a => (cE n c b).bind fun b => some (.ite t a b)
    | .Tuple es _ _ => (mapE (cE n c) es).map .tup
    | .List es _ => (mapE (cE n c) es).map .lst
    | .Dict [] [] p => some (.dct (decide ((p.line, p.col) ∈ c.tupd)) .nil .nil)
    | .Dict ks vs _ => (mapO ks).bind fun ds => (ck (decide (ks.length = vs.length) && decide (ks.length ≤ 15))).bind fun _ => (mapE (fun e => (cE n c e).map (newIf (prod 9 e))) vs).bind fun vs => some (.dct false (csts ds) vs)
    | .Subscript a (.Slice lo hi none _) _ => (cE n c a).bind fun a => (match lo with | some e => (cE n c e).bind fun l => (ck (!noPart l)).bind fun _ => some l | none => some (.cst .non)).bind fun l =>
        (match hi with | some e => (cE n c e).bind fun l => (ck (!noPart l)).bind fun _ => some l | none => some (.cst .non)).bind fun h => some (.sl a l h)
    | .Subscript a i _ => (cE n c a).bind fun a => (cE n c i).bind fun i => some (.ix a i)
    | .Attribute (.Name x _) f _ => (ck c.xf).bind fun _ => (slotOf c x).map fun i => .xfld i f
    | .Call (.Name x _) args kws _ => cCallN c (cE n c) x args kws
    | .Call (.Attribute o x ap) args [] cp => cCallM (cE n c) o x ap cp args
    | .ListComp el [⟨t, it, ifs, 0⟩] scope _ =>
      (ck (c.calm && L2.blkC c.N c.sc scope (ownOf c.N scope) && plainE it)).bind fun _ => (cWalk c (cE n c) t (walkOf it)).bind fun w => (cT (ownOf c.N scope) 9 t).bind fun (t : Tg) =>
        (match ifs with | [] => some (CE.cst (.bl true)) | [b] => (ck (notIf b)).bind fun _ => cE n { c with sc := L2.relS scope c.sc } b | _ => none).bind fun b =>
          (cE n { c with sc := L2.relS scope c.sc } el).bind fun el => some (.comp ((ownOf c.N scope).map fun (z : Str × Nat) => z.2) t w.1 w.2 b el)
    | _ => none
def cV (c : Cfg) (new : Bool) (e : Expr) : Option CE := (cE 40 c e).map (newIf (new && prod 9 e))
def isComp : Expr → Bool
  | .ListComp _ _ _ _ => true
  | .SetComp _ _ _ _ => true
  | .DictComp _ _ _ _ _ => true
  | _ => false

def swN (sc : Scope) (ts vs : List Expr) : Option (Option (List Str)) :=
  if !(ts.length == 2 || ts.length == 3) || vs.length != ts.length then some none
  else if vs.any (fun | .Starred .. => true | _ => false) then some none
  else
    let line := (ts.head?.map (·.pos.line)).getD 0
    let names := ts.filterMap fun
      | .Name id pos => if sc.names.lookup id == some PySem.NameKind.local && pos.line == line then some id else none
      | _ => none
    if names.length != ts.length || names.eraseDups.length != names.length then some none
    else if vs.all (PySem.foldedForSure 8) then some none
    else if vs.all (PySem.constantsAlone 8) then none
    else some (some names)
def cVs (c : Cfg) : List Expr → List Expr → Option CEs
  | [], [] => some .nil
  | t :: ts, e :: es => (cV c (match t with | .Name x _ => c.muts.contains x | _ => false) e).bind fun a => (cVs c ts es).bind fun b => some (.cons a b)
  | _, _ => none

def cPar (c : Cfg) (ts es : List Expr) : Option CS := (cTs (ownOf c.N c.sc) 9 ts).bind fun tg => (cVs c ts es).bind fun vs => (swN c.sc ts es).bind fun sw => (ck c.calm).bind fun _ => match sw with
  | none => some (.asg (.tp tg) (.tup vs))
  | some ns => match ts, tg, es with
    | [.Name x _, .Name y _], [.nm i, .nm j], [_, _] => (ck (i != j && decide (ns = [x, y]) && decide (c.sc.names.lookup x = some PySem.NameKind.local) && decide (c.sc.names.lookup y = some PySem.NameKind.local))).bind fun _ => some (.asg (.tp tg) (.tup vs))
    | [.Name x _, .Name y _, .Name z _], [.nm i, .nm j, .nm k], [_, _, _] => (ck (i != j && i != k && j != k && decide (ns = [x, y, z]) && decide (c.sc.names.lookup x = some PySem.NameKind.local) && decide (c.sc.names.lookup y = some PySem.NameKind.local) && decide (c.sc.names.lookup z = some PySem.NameKind.local))).bind fun _ => some (.asg (.tp tg) (.tup vs))
    | _, _, _ => none
def lcAt (y : Str) (py : Pos) : Expr → Bool
  | .ListComp _ _ scope pos => (py.line == pos.line) && !(scope.names.any fun (n, k) => n == y && (k == PySem.NameKind.local || k == PySem.NameKind.cell))
  | _ => false

def rcOf : Option Expr → Option (Str × Expr)
  | some (.Call (.Name x _) [e] [] _) => some (x, e)
  | _ => none
theorem rcOf_some {r : Option Expr} {x : Str} {e : Expr} (h : rcOf r = some (x, e)) : ∃ p q, r = some (.Call (.Name x p) [e] [] q) := by
  unfold rcOf at h
  split at h
  · cases h; exact ⟨_, _, rfl⟩
  · cases h

def rnOf : List ExceptHandler → Option (Str × Str × Expr)
  | [.ExceptHandler (some (.Name x _)) none [.Raise (some (.Call (.Name y _) [e] [] _)) (some (.Constant .none _ _)) _] _] => some (x, y, e)
  | _ => none
theorem rnOf_some {l : List ExceptHandler} {x y : Str} {e : Expr} (h : rnOf l = some (x, y, e)) : ∃ p1 p2 p3 p4 p5 p6 j, l = [.ExceptHandler (some (.Name x p1)) none [.Raise (some (.Call (.Name y p2) [e] [] p3)) (some (.Constant .none j p4)) p5] p6] := by
  unfold rnOf at h
  split at h
  · cases h; exact ⟨_, _, _, _, _, _, _, rfl⟩
  · cases h
def cTry (c : Cfg) (fb : Option CSs) (fh : Option CHs) (l : List ExceptHandler) : Option CS := match rnOf l with
  | some (x, y, e) => (ck (globB c.sc x && globB c.sc y && c.calm && c.top && plainE e)).bind fun _ => (c.hnd.lookup x).bind fun h => (c.exc.lookup y).bind fun k =>
    (cE 40 { c with calm := false, xf := false } e).bind fun e => fb.bind fun b => some (.tryr b h (.cons (.raiseN k e) .nil))
  | none => (ck c.calm).bind fun _ => fb.bind fun b => fh.bind fun hs => some (.tryx b hs)
def isDoc : Expr → Bool
  | .Constant (.str _) _ _ => true
  | _ => false
theorem isDoc_some {e : Expr} (h : isDoc e = true) : ∃ x j p, e = .Constant (.str x) j p := by
  unfold isDoc at h
  split at h
  · exact ⟨_, _, _, rfl⟩
  · cases h
mutual
def cS (c : Cfg) : Nat → Stmt → Option CS
  | 0, _ => none
  | n + 1, s => match s with
    | .Assign [.Subscript o i _] e _ => (cE 40 c o).bind fun o' => (cE 40 c i).bind fun i' => (cV c true e).bind fun e' => (ck (plainE i)).bind fun _ => some (.put o' i' e')
    | .Assign [.Tuple ts _ _] (.Tuple es _ _) _ => cPar c ts es
    | .Assign [.Tuple ts _ _] e _ => (ck c.calm).bind fun _ => (cTs (ownOf c.N c.sc) 9 ts).bind fun t => (cE 40 c e).bind fun e => some (.asg (.tp t) e)
    | .Assign [.Name x p] e _ => ((ownOf c.N c.sc).lookup x).bind fun i => (cV c (c.muts.contains x) e).bind fun e' => (ck (!isComp e || decide (c.sc.names.lookup x = some PySem.NameKind.cell) || lcAt x p e)).bind fun _ => some (.asg (.nm i) e')
    | .Expr e _ => if isDoc e then some .pass else (ck (!isComp e)).bind fun _ => (cE 40 c e).map .xpr
    | .Return (some e) _ => (cE 40 c e).map .ret
    | .Return none _ => some (.ret (.cst .non))
    | .If t a b _ => (ck (notIf t)).bind fun _ => (cE 40 c t).bind fun t => (cSs c n a).bind fun a => (cSs c n b).bind fun b => some (.cond t a b)
    | .For t it b [] _ => (ck (c.calm && plainE it)).bind fun _ => (cT (ownOf c.N c.sc) 9 t).bind fun tg => (cWalk c (cE 40 c) t (walkOf it)).bind fun w => (cSs c n b).bind fun b => some (.loop tg w.1 w.2 b)
    | .While t b [] _ => (ck (c.calm && notIf t)).bind fun _ => (cE 40 c t).bind fun t => (cSs c n b).bind fun b => some (.whl t b)
    | .Raise r none _ => (rcOf r).bind fun q => (ck (globB c.sc q.1 && c.calm && plainE q.2)).bind fun _ => (c.exc.lookup q.1).bind fun k => (cE 40 c q.2).bind fun e => some (.raise k e)
    | .Try b (h0 :: hds) [] [] _ => cTry c (cSs { c with top := false } n b) (cHs c n (h0 :: hds)) (h0 :: hds)
    | .Pass _ => some .pass
    | .Break _ => some .brk
    | .Continue _ => some .cont
    | _ => none
def cSs (c : Cfg) : Nat → List Stmt → Option CSs
  | 0, _ => none
  | _ + 1, [] => some .nil
  | n + 1, s :: r => (cS c n s).bind fun s => (cSs c n r).bind fun r => some (.cons s r)
def cHs (c : Cfg) : Nat → List ExceptHandler → Option CHs
  | 0, _ => none
  | _ + 1, [] => some .nil
  | n + 1, .ExceptHandler (some (.Name x _)) nm (b0 :: b) _ :: r => (ck (globB c.sc x)).bind fun _ => (c.hnd.lookup x).bind fun k =>
      (match nm with | none => some none | some y => (ck (decide (c.sc.names.lookup y = some PySem.NameKind.local))).bind fun _ => ((ownOf c.N c.sc).lookup y).map some).bind fun i =>
        (cSs { c with calm := false, xf := true, top := false } n (b0 :: b)).bind fun b => (cHs c n r).bind fun r => some (.cons k i b r)
  | _, _ => none
end
def cF (c : Cfg) (st : Stmt) : Option Fn := match st with
  | .FunctionDef _ a b _ _ _ sc _ _ _ => (cSs { c with sc := sc, calm := true, xf := false, top := true } 60 b).map fun b => ⟨a.args.length, c.N.length, b⟩
  | _ => none
end DW
end

section
set_option Elab.async false
set_option linter.all false
set_option maxRecDepth 100000
set_option maxHeartbeats 2000000
namespace DW
open PySem PySem.Spec PyProof.Rows L2


structure Wd where
  α : List Addr
  av : List Addr
def Wd.plus (w : Wd) (p : Addr) : Wd := ⟨w.α, p :: w.av⟩
def Wd.snoc (w : Wd) (p : Addr) : Wd := ⟨w.α ++ [p], w.av⟩


def Frz (K : PySem.W.Frag) (w : Wd) (H : Hp) (a : Addr) (vs : List V) : Prop :=
  (a ∉ w.α ∧ ∃ o, H a = some (.frz o (.lst vs))) ∨ ∀ H' : Hp, SqL K H' a vs
mutual
inductive RV (K : PySem.W.Frag) (w : Wd) (H : Hp) : V → D → Prop
  | non : RV K w H .non .non
  | bl (b : Bool) : RV K w H (.bl b) (.bl b)
  | int (i : Int) : RV K w H (.int i) (.int i)
  | str (x : Str) : RV K w H (.str x) (.str x)
  | tup {a : Addr} {vs : List V} {xs : List D} : H a = some (.tup vs) → a ∉ w.α → a ∉ w.av → RVs K w H vs xs → RV K w H (.ref a) (.tup xs)
  | lst {a : Addr} {vs : List V} {xs : List D} : H a = some (.lst vs) → a ∉ w.α → a ∉ w.av → RVs K w H vs xs → RV K w H (.ref a) (.lst xs)
  | frz {a : Addr} {vs : List V} {xs : List D} : Frz K w H a vs → RVs K w H vs xs → RV K w H (.ref a) (.frz xs)
  | ref {n : Nat} {a : Addr} : w.α[n]? = some a → RV K w H (.ref a) (.ref n)
inductive RVs (K : PySem.W.Frag) (w : Wd) (H : Hp) : List V → List D → Prop
  | nil : RVs K w H [] []
  | cons {v : V} {vs : List V} {d : D} {ds : List D} : RV K w H v d → RVs K w H vs ds → RVs K w H (v :: vs) (d :: ds)
end
def keyD : Key → D
  | .inl i => .int i
  | .inr x => .str x
def tkeyD (k : List Key) : D := .tup (k.map keyD)
def RO (K : PySem.W.Frag) (w : Wd) (H : Hp) (a : Addr) : Ob → Prop
  | .lst xs => ∃ vs, H a = some (.lst vs) ∧ RVs K w H vs xs
  | .dct false kvs => ∃ ks, H a = some (.dK ks) ∧ Paired (fun (p : Key × V) (q : D × D) => keyD p.1 = q.1 ∧ RV K w H p.2 q.2) ks kvs
  | .dct true kvs => ∃ ks, H a = some (.dT ks) ∧ Paired (fun (p : List Key × V) (q : D × D) => tkeyD p.1 = q.1 ∧ RV K w H p.2 q.2) ks kvs
  | .ins _ _ => False
structure Rel (K : PySem.W.Frag) (w : Wd) (H : Hp) (S : Store) : Prop where
  len : w.α.length = S.length
  nd : w.α.Nodup
  av : ∀ a ∈ w.av, a ∉ w.α ∧ ∃ o, H a = some o
  ob : ∀ (i : Nat) (a : Addr) (o : Ob), w.α[i]? = some a → S[i]? = some o → RO K w H a o
structure Le (w : Wd) (H : Hp) (w' : Wd) (H' : Hp) : Prop where
  pre : ∃ t, w'.α = w.α ++ t
  av : w'.av = w.av
  fresh : ∀ a ∈ w'.α, a ∈ w.α ∨ H a = none
  keep : ∀ a o, H a = some o → a ∉ w.α → H' a = some o

section
variable {K : PySem.W.Frag} {w w' w'' : Wd} {H H' H'' : Hp} {S S' : Store} {v : V} {d : D} {vs : List V} {ds : List D} {a p : Addr}
theorem Le.refl : Le w H w H := ⟨⟨[], by simp⟩, rfl, fun _ h => .inl h, fun _ _ h _ => h⟩
theorem Le.sub (l : Le w H w' H') : ∀ a ∈ w.α, a ∈ w'.α := fun a h => by
  obtain ⟨t, e⟩ := l.pre
  rw [e]; exact List.mem_append_left _ h
theorem Le.off (l : Le w H w' H') {o : HO} (e : H a = some o) (n : a ∉ w.α) : a ∉ w'.α := fun h => by
  rcases l.fresh a h with q | q
  · exact n q
  · rw [e] at q; cases q
theorem Le.trans (l : Le w H w' H') (m : Le w' H' w'' H'') : Le w H w'' H'' where
  pre := by
    obtain ⟨t, e⟩ := l.pre
    obtain ⟨u, f⟩ := m.pre
    exact ⟨t ++ u, by rw [f, e, List.append_assoc]⟩
  av := m.av.trans l.av
  fresh := fun a h => by
    by_cases ha : a ∈ w.α
    · exact .inl ha
    · right
      cases e : H a with
      | none => rfl
      | some o =>
        rcases m.fresh a h with q | q
        · exact absurd q (l.off e ha)
        · rw [l.keep a o e ha] at q; cases q
  keep := fun a o e n => m.keep a o (l.keep a o e n) (l.off e n)
theorem Le.at (l : Le w H w' H') {n : Nat} (h : w.α[n]? = some a) : w'.α[n]? = some a := by
  obtain ⟨t, e⟩ := l.pre
  rw [e]
  have hn : n < w.α.length := (List.getElem?_eq_some_iff.mp h).1
  rw [List.getElem?_append_left hn]
  exact h
theorem Frz.mono (l : Le w H w' H') (h : Frz K w H a vs) : Frz K w' H' a vs := by
  rcases h with ⟨n, o, e⟩ | h
  · exact .inl ⟨l.off e n, o, l.keep _ _ e n⟩
  · exact .inr h
mutual
theorem RV.mono (l : Le w H w' H') : ∀ {v : V} {d : D}, RV K w H v d → RV K w' H' v d
  | _, _, .non => .non
  | _, _, .bl b => .bl b
  | _, _, .int i => .int i
  | _, _, .str x => .str x
  | _, _, .tup e n m r => .tup (l.keep _ _ e n) (l.off e n) (by rw [l.av]; exact m) (RVs.mono l r)
  | _, _, .lst e n m r => .lst (l.keep _ _ e n) (l.off e n) (by rw [l.av]; exact m) (RVs.mono l r)
  | _, _, .frz e r => .frz (e.mono l) (RVs.mono l r)
  | _, _, .ref h => .ref (l.at h)
theorem RVs.mono (l : Le w H w' H') : ∀ {vs : List V} {ds : List D}, RVs K w H vs ds → RVs K w' H' vs ds
  | _, _, .nil => .nil
  | _, _, .cons h r => .cons (RV.mono l h) (RVs.mono l r)
end
mutual

theorem RV.weak : ∀ {v : V} {d : D}, RV K (w.plus p) H v d → RV K w H v d
  | _, _, .non => .non
  | _, _, .bl b => .bl b
  | _, _, .int i => .int i
  | _, _, .str x => .str x
  | _, _, .tup e n m r => .tup e n (fun h => m (List.mem_cons_of_mem _ h)) (RVs.weak r)
  | _, _, .lst e n m r => .lst e n (fun h => m (List.mem_cons_of_mem _ h)) (RVs.weak r)
  | _, _, .frz e r => .frz e (RVs.weak r)
  | _, _, .ref h => .ref h
theorem RVs.weak : ∀ {vs : List V} {ds : List D}, RVs K (w.plus p) H vs ds → RVs K w H vs ds
  | _, _, .nil => .nil
  | _, _, .cons h r => .cons (RV.weak h) (RVs.weak r)
end
mutual

theorem RV.snoc (hp : ∀ o u, H p ≠ some (.frz o u)) : ∀ {v : V} {d : D}, RV K (w.plus p) H v d → RV K (w.snoc p) H v d
  | _, _, .non => .non
  | _, _, .bl b => .bl b
  | _, _, .int i => .int i
  | _, _, .str x => .str x
  | _, _, .tup e n m r => .tup e (fun h => (List.mem_append.mp h).elim n fun q => m (by rw [List.mem_singleton.mp q]; exact List.mem_cons_self)) (fun h => m (List.mem_cons_of_mem _ h)) (RVs.snoc hp r)
  | _, _, .lst e n m r => .lst e (fun h => (List.mem_append.mp h).elim n fun q => m (by rw [List.mem_singleton.mp q]; exact List.mem_cons_self)) (fun h => m (List.mem_cons_of_mem _ h)) (RVs.snoc hp r)
  | _, _, .frz e r => .frz (by
      rcases e with ⟨n, o, e⟩ | e
      · exact .inl ⟨fun h => (List.mem_append.mp h).elim n fun q => hp o _ (by rw [← List.mem_singleton.mp q]; exact e), o, e⟩
      · exact .inr e) (RVs.snoc hp r)
  | _, _, .ref (n := n) h => .ref (by
      show (w.α ++ [p])[n]? = _
      have hn : n < w.α.length := (List.getElem?_eq_some_iff.mp h).1
      rw [List.getElem?_append_left hn]
      exact h)
theorem RVs.snoc (hp : ∀ o u, H p ≠ some (.frz o u)) : ∀ {vs : List V} {ds : List D}, RVs K (w.plus p) H vs ds → RVs K (w.snoc p) H vs ds
  | _, _, .nil => .nil
  | _, _, .cons h r => .cons (RV.snoc hp h) (RVs.snoc hp r)
end
theorem Paired.imp {α β : Type} {F G : α → β → Prop} {l₁ : List α} {l₂ : List β} (h : Paired F l₁ l₂) (f : ∀ a b, F a b → G a b) : Paired G l₁ l₂ := L2.Paired.mapP h f
theorem RO.map {o : Ob} {w₁ w₂ : Wd} {H₁ H₂ : Hp} (e : ∀ u, H₁ a = some u → H₂ a = some u) (f : ∀ v d, RV K w₁ H₁ v d → RV K w₂ H₂ v d) (g : ∀ v d, RVs K w₁ H₁ v d → RVs K w₂ H₂ v d) (h : RO K w₁ H₁ a o) : RO K w₂ H₂ a o := by
  cases o with
  | lst xs => obtain ⟨vs, h1, h2⟩ := h; exact ⟨vs, e _ h1, g _ _ h2⟩
  | dct t kvs =>
    cases t with
    | false => obtain ⟨ks, h1, h2⟩ := h; exact ⟨ks, e _ h1, Paired.imp h2 fun p q z => ⟨z.1, f _ _ z.2⟩⟩
    | true => obtain ⟨ks, h1, h2⟩ := h; exact ⟨ks, e _ h1, Paired.imp h2 fun p q z => ⟨z.1, f _ _ z.2⟩⟩
  | ins c fs => exact h.elim
theorem RVs.length : ∀ {vs : List V} {ds : List D}, RVs K w H vs ds → vs.length = ds.length
  | _, _, .nil => rfl
  | _, _, .cons _ r => by rw [List.length_cons, List.length_cons, RVs.length r]
theorem RVs.get : ∀ {vs : List V} {ds : List D} {i : Nat} {d : D}, RVs K w H vs ds → ds[i]? = some d → ∃ v, vs[i]? = some v ∧ RV K w H v d
  | _, _, i, _, .nil, h => by simp at h
  | _, _, 0, _, .cons h _, e => by simp at e; subst e; exact ⟨_, rfl, h⟩
  | _, _, i + 1, _, .cons _ r, e => by
    obtain ⟨v, h1, h2⟩ := RVs.get (i := i) r (by simpa using e)
    exact ⟨v, by simpa using h1, h2⟩
theorem RVs.getV : ∀ {vs : List V} {ds : List D} {i : Nat} {v : V}, RVs K w H vs ds → vs[i]? = some v → ∃ d, ds[i]? = some d ∧ RV K w H v d
  | _, _, i, _, .nil, h => by simp at h
  | _, _, 0, _, .cons h _, e => by simp at e; subst e; exact ⟨_, rfl, h⟩
  | _, _, i + 1, _, .cons _ r, e => by
    obtain ⟨v, h1, h2⟩ := RVs.getV (i := i) r (by simpa using e)
    exact ⟨v, by simpa using h1, h2⟩
theorem RVs.append : ∀ {vs us : List V} {ds es : List D}, RVs K w H vs ds → RVs K w H us es → RVs K w H (vs ++ us) (ds ++ es)
  | _, _, _, _, .nil, s => s
  | _, _, _, _, .cons h r, s => .cons h (RVs.append r s)
theorem RVs.take : ∀ {vs : List V} {ds : List D} (n : Nat), RVs K w H vs ds → RVs K w H (vs.take n) (ds.take n)
  | _, _, 0, _ => by simp only [List.take_zero]; exact .nil
  | _, _, _ + 1, .nil => by simp only [List.take_nil]; exact .nil
  | _, _, n + 1, .cons h r => by simp only [List.take_succ_cons]; exact .cons h (RVs.take n r)
theorem RVs.drop : ∀ {vs : List V} {ds : List D} (n : Nat), RVs K w H vs ds → RVs K w H (vs.drop n) (ds.drop n)
  | _, _, 0, r => r
  | _, _, n + 1, .nil => by simp only [List.drop_nil]; exact .nil
  | _, _, n + 1, .cons _ r => by simp only [List.drop_succ_cons]; exact RVs.drop n r
theorem RVs.set {x : V} {e : D} (r : RV K w H x e) : ∀ {vs : List V} {ds : List D} (i : Nat), RVs K w H vs ds → RVs K w H (vs.set i x) (ds.set i e)
  | _, _, _, .nil => .nil
  | _, _, 0, .cons _ t => .cons r t
  | _, _, i + 1, .cons q t => .cons q (RVs.set r i t)

theorem Rel.at (R : Rel K w H S) {n : Nat} {o : Ob} (h : w.α[n]? = some a) (e : S[n]? = some o) : RO K w H a o := R.ob n a o h e

theorem Rel.grow (R : Rel K w H S) (l : Le w H w H') (k : ∀ a ∈ w.α, ∀ o, H a = some o → H' a = some o) : Rel K w H' S :=
  ⟨R.len, R.nd, fun a h => let ⟨n, o, e⟩ := R.av a h; ⟨n, o, l.keep a o e n⟩, fun i a o h e => (R.ob i a o h e).map (k a (List.mem_of_getElem? h)) (fun _ _ => RV.mono l) fun _ _ => RVs.mono l⟩

theorem Le.new {o : HO} (e : H p = none) : Le w H w (upd H p o) := ⟨⟨[], by simp⟩, rfl, fun _ h => .inl h, fun a u h _ => by rw [upd_ne (ne_of_none h e)]; exact h⟩
theorem Rel.new (R : Rel K w H S) {o : HO} (e : H p = none) : Rel K w (upd H p o) S := R.grow (Le.new e) fun a _ u h => by rw [upd_ne (ne_of_none h e)]; exact h
theorem Rel.off (R : Rel K w H S) (e : H p = none) : p ∉ w.α := fun h => by
  obtain ⟨i, hi⟩ := List.mem_iff_getElem?.mp h
  have hl : i < S.length := by rw [← R.len]; exact (List.getElem?_eq_some_iff.mp hi).1
  have z := R.ob i p S[i] hi (List.getElem?_eq_getElem hl)
  cases q : S[i] with
  | lst xs => rw [q] at z; obtain ⟨_, z, _⟩ := z; rw [e] at z; cases z
  | dct t kvs => rw [q] at z; cases t <;> (obtain ⟨_, z, _⟩ := z; rw [e] at z; cases z)
  | ins c fs => rw [q] at z; exact z
theorem Rel.weak (R : Rel K (w.plus p) H S) : Rel K w H S := ⟨R.len, R.nd, fun a h => R.av a (List.mem_cons_of_mem _ h), fun i a o h e => (R.ob i a o h e).map (fun _ q => q) (fun _ _ => RV.weak) fun _ _ => RVs.weak⟩
mutual
theorem RV.plus (e : H p = none) : ∀ {v : V} {d : D}, RV K w H v d → RV K (w.plus p) H v d
  | _, _, .non => .non
  | _, _, .bl b => .bl b
  | _, _, .int i => .int i
  | _, _, .str x => .str x
  | _, _, .tup h n m r => .tup h n (fun q => (List.mem_cons.mp q).elim (fun z => by rw [z, e] at h; cases h) m) (RVs.plus e r)
  | _, _, .lst h n m r => .lst h n (fun q => (List.mem_cons.mp q).elim (fun z => by rw [z, e] at h; cases h) m) (RVs.plus e r)
  | _, _, .frz h r => .frz h (RVs.plus e r)
  | _, _, .ref h => .ref h
theorem RVs.plus (e : H p = none) : ∀ {vs : List V} {ds : List D}, RVs K w H vs ds → RVs K (w.plus p) H vs ds
  | _, _, .nil => .nil
  | _, _, .cons h r => .cons (RV.plus e h) (RVs.plus e r)
end
theorem Le.plus (l : Le w H w' H') : Le (w.plus p) H (w'.plus p) H' := ⟨l.pre, by show p :: w'.av = p :: w.av; rw [l.av], l.fresh, l.keep⟩
theorem Rel.plus (R : Rel K w H S) {u : HO} (e : H p = none) : Rel K (w.plus p) (upd H p u) S := by
  have l : Le w H w (upd H p u) := Le.new e
  refine ⟨R.len, R.nd, fun a h => ?_, fun i a o h q => (R.ob i a o h q).map (fun x z => by rw [upd_ne (ne_of_none z e)]; exact z) (fun _ _ r => (RV.plus e r).mono l.plus) fun _ _ r => (RVs.plus e r).mono l.plus⟩
  rcases List.mem_cons.mp h with z | z
  · rw [z]; exact ⟨R.off e, u, upd_same⟩
  · obtain ⟨n, o, q⟩ := R.av a z
    exact ⟨n, o, by rw [upd_ne (ne_of_none q e)]; exact q⟩
theorem Rel.noav (R : Rel K w H S) (e : H p = none) : p ∉ w.av := fun h => by
  obtain ⟨_, o, q⟩ := R.av p h
  rw [e] at q; cases q
theorem Rel.snoc (R : Rel K (w.plus p) H S) {xs : List D} {vs : List V} (n : p ∉ w.α) (npav : p ∉ w.av) (e : H p = some (.lst vs)) (r : RVs K (w.plus p) H vs xs) : Rel K (w.snoc p) H (S ++ [.lst xs]) := by
  have hp : ∀ o u, H p ≠ some (.frz o u) := fun o u z => by rw [e] at z; cases z
  refine ⟨by show (w.α ++ [p]).length = _; rw [List.length_append, List.length_append, show w.α.length = S.length from R.len] <;> rfl, ?_, fun b hb => ?_, fun i a o h q => ?_⟩
  · show (w.α ++ [p]).Nodup
    rw [List.nodup_append]
    exact ⟨R.nd, by simp, fun x hx y hy z => n (by rw [← List.mem_singleton.mp hy, ← z]; exact hx)⟩
  · obtain ⟨n', z⟩ := R.av b (List.mem_cons_of_mem _ hb)
    exact ⟨fun hm => (List.mem_append.mp hm).elim n' fun q => npav (by rw [← List.mem_singleton.mp q]; exact hb), z⟩
  · have hl : w.α.length = S.length := R.len
    by_cases hi : i < w.α.length
    · have h' : w.α[i]? = some a := by rw [← List.getElem?_append_left (l₂ := [p]) hi]; exact h
      have q' : S[i]? = some o := by rw [← List.getElem?_append_left (l₂ := [Ob.lst xs]) (by omega)]; exact q
      exact (R.ob i a o h' q').map (fun _ z => z) (fun _ _ => RV.snoc hp) fun _ _ => RVs.snoc hp
    · have h1 : (w.α ++ [p])[i]? = some a := h
      rw [List.getElem?_append_right (by omega)] at h1
      rw [List.getElem?_append_right (by omega)] at q
      have e1 : i - w.α.length = 0 := by
        cases hz : i - w.α.length with
        | zero => rfl
        | succ k => rw [hz] at h1; simp at h1
      have e2 : i - S.length = 0 := by omega
      rw [e1] at h1
      rw [e2] at q
      simp at h1 q
      subst h1 q
      exact ⟨vs, e, RVs.snoc hp r⟩
theorem Le.snoc (l : Le w H w' H') (e : H p = none) : Le w H (w'.snoc p) H' where
  pre := by
    obtain ⟨t, q⟩ := l.pre
    exact ⟨t ++ [p], by show w'.α ++ [p] = _; rw [q, List.append_assoc]⟩
  av := l.av
  fresh := fun a h => (List.mem_append.mp h).elim (l.fresh a) fun q => .inr (by rw [List.mem_singleton.mp q]; exact e)
  keep := l.keep
end



abbrev XC := Nat → Addr → Hp → Prop
section
variable (K : PySem.W.Frag) (fld : Nat → Str)
def PX (w : Wd) (H : Hp) (E : XC) (c : Nat) (d : D) (S : Store) : Prop :=
  ∀ (w' : Wd) (H' : Hp) (dd : Addr) (u : V), Le w H w' H' → Rel K w' H' S → H' dd = some (.xd [(fld c, u)]) → RV K w' H' u d → E c dd H'

def PG {γ : Type} (T : Wd → Hp → γ → Store → Prop) (w : Wd) (H : Hp) (E : XC) : R γ → Prop
  | .ok a S => T w H a S
  | .exc c d S => PX K fld w H E c d S
  | .bad _ => False
def TW (Q : VK) (w : Wd) (H : Hp) : WV → Store → Prop
  | .val d, S => ∀ (w' : Wd) (H' : Hp) (v : V), Le w H w' H' → Rel K w' H' S → RV K w' H' v d → Q v H'
  | .new xs, S => ∀ (w' : Wd) (H' : Hp) (p : Addr) (vs : List V), Le w H w' H' → H p = none → p ∉ w'.α → H' p = some (.lst vs) → Rel K (w'.plus p) H' S → RVs K (w'.plus p) H' vs xs → Q (.ref p) H'
def TD (Q : VK) (w : Wd) (H : Hp) (d : D) (S : Store) : Prop := ∀ (w' : Wd) (H' : Hp) (v : V), Le w H w' H' → Rel K w' H' S → RV K w' H' v d → Q v H'
def TL (Q : List V → Hp → Prop) (w : Wd) (H : Hp) (ds : List D) (S : Store) : Prop := ∀ (w' : Wd) (H' : Hp) (vs : List V), Le w H w' H' → Rel K w' H' S → RVs K w' H' vs ds → Q vs H'
def TB (Q : Bool → Hp → Prop) (w : Wd) (H : Hp) (b : Bool) (S : Store) : Prop := ∀ (w' : Wd) (H' : Hp), Le w H w' H' → Rel K w' H' S → Q b H'
def PW (w : Wd) (H : Hp) (Q : VK) (E : XC) (r : R WV) : Prop := PG K fld (TW K Q) w H E r

structure Later {γ : Type} (T : Wd → Hp → γ → Store → Prop) : Prop where
  go : ∀ (w w' : Wd) (H H' : Hp) (a : γ) (S : Store), Le w H w' H' → T w H a S → T w' H' a S
end
section
variable {K : PySem.W.Frag} {fld : Nat → Str} {w w' : Wd} {H H' : Hp} {Q Q' : VK} {E : XC}
theorem PX.base (l : Le w H w' H') {c : Nat} {d : D} {S : Store} (h : PX K fld w H E c d S) : PX K fld w' H' E c d S := fun w2 H2 dd u m => h w2 H2 dd u (l.trans m)
theorem later_W : Later (TW K Q) := ⟨fun w w' H H' x S l h => by
  cases x with
  | val d => exact fun w2 H2 v m => h w2 H2 v (l.trans m)
  | new xs => exact fun w2 H2 p vs m e n => h w2 H2 p vs (l.trans m) (by
      cases q : H p with
      | none => rfl
      | some o =>
        by_cases hp : p ∈ w.α
        · exact absurd (m.sub _ (l.sub _ hp)) n
        · rw [l.keep _ _ q hp] at e; cases e) n⟩
theorem later_D : Later (TD K Q) := ⟨fun _ _ _ _ _ _ l h w2 H2 v m => h w2 H2 v (l.trans m)⟩
theorem later_L {Q : List V → Hp → Prop} : Later (TL K Q) := ⟨fun _ _ _ _ _ _ l h w2 H2 v m => h w2 H2 v (l.trans m)⟩
theorem later_B {Q : Bool → Hp → Prop} : Later (TB K Q) := ⟨fun _ _ _ _ _ _ l h w2 H2 m => h w2 H2 (l.trans m)⟩
theorem PG.base {γ : Type} {T : Wd → Hp → γ → Store → Prop} (t : Later T) (l : Le w H w' H') : ∀ {r : R γ}, PG K fld T w H E r → PG K fld T w' H' E r
  | .ok _ _, h => t.go _ _ _ _ _ _ l h
  | .exc _ _ _, h => PX.base l h
  | .bad _, h => h

theorem PG.bindW {γ : Type} {T : Wd → Hp → γ → Store → Prop} (t : Later T) {S₀ : Store} (R₀ : Rel K w H S₀) {r : R WV} {k : WV → Store → R γ} (h : PG K fld T w H E (r.bind k))
    (hk : ∀ (w' : Wd) (H' : Hp) (v : V) (x : WV) (S : Store), Le w H w' H' → Rel K w' H' S → RV K w' H' v x.d → PG K fld T w' H' E (k x S) → Q v H') : PW K fld w H Q E r := by
  cases r with
  | ok x S =>
    cases x with
    | val d => exact fun w' H' v l R r => hk w' H' v (.val d) S l R r (PG.base t l h)
    | new xs => exact fun w' H' p vs l e n q R r => hk w' H' (.ref p) (.new xs) S l R.weak (.lst q n (by rw [l.av]; exact R₀.noav e) (RVs.weak r)) (PG.base t l h)
  | exc c d S => exact h
  | bad s => exact h

theorem PG.bindL {γ : Type} {T : Wd → Hp → γ → Store → Prop} (t : Later T) {r : R (List D)} {k : List D → Store → R γ} {Q : List V → Hp → Prop} (h : PG K fld T w H E (r.bind k))
    (hk : ∀ (w' : Wd) (H' : Hp) (vs : List V) (ds : List D) (S : Store), Le w H w' H' → Rel K w' H' S → RVs K w' H' vs ds → PG K fld T w' H' E (k ds S) → Q vs H') : PG K fld (TL K Q) w H E r := by
  cases r with
  | ok ds S => exact fun w' H' vs l R r => hk w' H' vs ds S l R r (PG.base t l h)
  | exc c d S => exact h
  | bad s => exact h

theorem PG.bindD {γ : Type} {T : Wd → Hp → γ → Store → Prop} (t : Later T) {r : R D} {k : D → Store → R γ} (h : PG K fld T w H E (r.bind k))
    (hk : ∀ (w' : Wd) (H' : Hp) (v : V) (d : D) (S : Store), Le w H w' H' → Rel K w' H' S → RV K w' H' v d → PG K fld T w' H' E (k d S) → Q v H') : PG K fld (TD K Q) w H E r := by
  cases r with
  | ok d S => exact fun w' H' v l R r => hk w' H' v d S l R r (PG.base t l h)
  | exc c d S => exact h
  | bad s => exact h
end


structure Ctx where
  G : GX
  cur : Cur
  ex : Option (Nat × Addr)
  xd : Option Addr
  W : WX
  V : WX
  cls : Nat → Addr
def Ctx.E (Γ : Ctx) (σ : L2.St) : XC := fun c dd H => Γ.W (.ref (Γ.cls c)) (some dd) σ H ∧ (Γ.G.hot c = true → Γ.V (.ref (Γ.cls c)) (some dd) σ H)
structure RE (K : PySem.W.Frag) (Γ : Ctx) (w : Wd) (H : Hp) (σ : L2.St) (ρ : Env) : Prop where
  len : ρ.length = σ.length
  val : ∀ (i : Nat) (d : D), ρ[i]? = some (some d) → d ≠ .exn → ∃ v, σ[i]? = some (some v) ∧ RV K w H v d
  ex : ∀ i : Nat, ρ[i]? = some (some .exn) → ∃ a, Γ.ex = some (i, a) ∧ σ[i]? = some (some (.ref a))
  held : ∀ (c : Nat) (d : D), Γ.cur = some (c, d) → ∃ (dd : Addr) (u : V), Γ.xd = some dd ∧ H dd = some (.xd [(Γ.G.fld c, u)]) ∧ dd ∉ w.α ∧ RV K w H u d
theorem RE.mono {K : PySem.W.Frag} {Γ : Ctx} {w w' : Wd} {H H' : Hp} {σ : L2.St} {ρ : Env} (l : Le w H w' H') (h : RE K Γ w H σ ρ) : RE K Γ w' H' σ ρ :=
  ⟨h.len, fun i d e n => let ⟨v, q, r⟩ := h.val i d e n; ⟨v, q, r.mono l⟩, h.ex, fun c d e => let ⟨dd, u, a, b, n, r⟩ := h.held c d e; ⟨dd, u, a, l.keep _ _ b n, l.off b n, r.mono l⟩⟩
section
variable (K : PySem.W.Frag) (Γ : Ctx)

def tE (c : CE) : TE := fun σ H Q => ∃ (w : Wd) (ρ : Env) (S : Store), Rel K w H S ∧ RE K Γ w H σ ρ ∧ PW K Γ.G.fld w H Q (Γ.E σ) (ev Γ.G Γ.cur c ρ S)
def tA (c : CEs) : TA := fun σ H Q => ∃ (w : Wd) (ρ : Env) (S : Store), Rel K w H S ∧ RE K Γ w H σ ρ ∧ PG K Γ.G.fld (TL K Q) w H (Γ.E σ) (evs Γ.G Γ.cur c ρ S)
def evT (G : GX) (cur : Cur) (c : CE) (ρ : Env) (S : Store) : R Bool := (ev G cur c ρ S).bind fun x S => .opt "truth" (tru S x.d) S
def tT (c : CE) : TT := fun σ H Q => ∃ (w : Wd) (ρ : Env) (S : Store), Rel K w H S ∧ RE K Γ w H σ ρ ∧ PG K Γ.G.fld (TB K Q) w H (Γ.E σ) (evT Γ.G Γ.cur c ρ S)
end
theorem PE.weak {X : Cx} {e : Expr} {t t' : TE} (h : PE X e t) (f : ∀ σ H Q, t' σ H Q → t σ H Q) : PE X e t' := ⟨fun pins s σ H Q I q => h.run pins s σ H Q I (f σ H Q q)⟩
theorem PT.weak {X : Cx} {e : Expr} {t t' : TT} (h : PT X e t) (f : ∀ σ H Q, t' σ H Q → t σ H Q) : PT X e t' := ⟨fun pins s σ H Q I q => h.run pins s σ H Q I (f σ H Q q)⟩
theorem PA.weak {X : Cx} {es : List Expr} {t t' : TA} (h : PA X es t) (f : ∀ σ H Q, t' σ H Q → t σ H Q) : PA X es t' := ⟨fun pos pins s σ H Q I q => h.run pos pins s σ H Q I (f σ H Q q)⟩
end DW
end

section
set_option Elab.async false
set_option linter.all false
set_option maxRecDepth 100000
set_option maxHeartbeats 4000000
namespace DW
open PySem PySem.Spec PyProof.Rows L2


section
variable {K : PySem.W.Frag} {fld : Nat → Str} {w : Wd} {H : Hp} {S : Store} {v : V} {d : D}
theorem rv_lst (R : Rel K w H S) (h : RV K w H v d) {xs : List D} (e : lstOf S d = some xs) : ∃ a vs, v = .ref a ∧ H a = some (.lst vs) ∧ RVs K w H vs xs := by
  cases h with
  | lst h1 h2 h3 r => cases e; exact ⟨_, _, rfl, h1, r⟩
  | ref h =>
    rename_i n a
    have e' : (match S[n]? with
      | some (.lst xs) => some xs
      | _ => none) = some xs := e
    cases q : S[n]? with
    | none => rw [q] at e'; cases e'
    | some o =>
      rw [q] at e'
      cases o with
      | lst ys =>
        cases e'
        obtain ⟨vs, h1, h2⟩ := R.at h q
        exact ⟨a, vs, rfl, h1, h2⟩
      | dct t kvs => cases e'
      | ins c fs => cases e'
  | _ => cases e
theorem rv_seq (R : Rel K w H S) (h : RV K w H v d) {xs : List D} (e : seqOf S d = some xs) : ∃ a vs, v = .ref a ∧ (SqL K H a vs ∨ H a = some (.tup vs)) ∧ RVs K w H vs xs := by
  cases h with
  | tup h1 h2 h3 r => cases e; exact ⟨_, _, rfl, .inr h1, r⟩
  | frz h r =>
    cases e
    refine ⟨_, _, rfl, .inl ?_, r⟩
    rcases h with ⟨_, o, h⟩ | h
    · exact .inl (.inr ⟨o, h⟩)
    · exact h H
  | lst h1 h2 h3 r => cases e; exact ⟨_, _, rfl, .inl (SqL.of h1), r⟩
  | ref h =>
    rename_i n a
    obtain ⟨b, vs, e1, h1, h2⟩ := rv_lst R (RV.ref h) (xs := xs) (by exact e)
    exact ⟨b, vs, e1, .inl (SqL.of h1), h2⟩
  | _ => cases e
theorem empty_iff {vs : List V} {xs : List D} (r : RVs K w H vs xs) : vs.isEmpty = xs.isEmpty := by cases r <;> rfl
theorem rv_tru (R : Rel K w H S) (h : RV K w H v d) {k : Bool} (e : tru S d = some k) : TruV K v H k := by
  cases h with
  | non => cases e; rfl
  | bl b => cases e; rfl
  | int i => cases e; rfl
  | str x =>
    have e' : (if x.length ≤ LINE then some ((x.length : Int) != 0) else none) = some k := e
    by_cases hx : x.length ≤ LINE
    · rw [if_pos hx] at e'; cases e'; exact ⟨by rw [sizeLine_eq]; exact hx, rfl⟩
    · rw [if_neg hx] at e'; cases e'
  | tup h1 h2 h3 r => cases e; exact .inr (.inl ⟨_, SqT.of h1, by rw [empty_iff r]⟩)
  | lst h1 h2 h3 r => cases e; exact .inl ⟨_, SqL.of h1, by rw [empty_iff r]⟩
  | frz h r =>
    cases e
    refine .inl ⟨_, ?_, by rw [empty_iff r]⟩
    rcases h with ⟨_, o, h⟩ | h
    · exact .inl (.inr ⟨o, h⟩)
    · exact h H
  | ref h =>
    rename_i n a
    have e' : (match S[n]? with
      | some (.lst xs) => some (!xs.isEmpty)
      | some (.dct false kvs) => some (!kvs.isEmpty)
      | _ => none) = some k := e
    cases q : S[n]? with
    | none => rw [q] at e'; cases e'
    | some o =>
      rw [q] at e'
      cases o with
      | lst ys =>
        cases e'
        obtain ⟨vs, h1, h2⟩ := R.at h q
        exact .inl ⟨vs, SqL.of h1, by rw [empty_iff h2]⟩
      | dct t kvs =>
        cases t with
        | false =>
          cases e'
          obtain ⟨ks, h1, h2⟩ := R.at h q
          exact .inr (.inr ⟨ks, h1, by cases h2 <;> rfl⟩)
        | true => cases e'
      | ins c fs => cases e'

theorem PW.val {Q : VK} {E : XC} (hP : PW K fld w H Q E (.ok (.val d) S)) {w' : Wd} {H' : Hp} (l : Le w H w' H') (R : Rel K w' H' S) (r : RV K w' H' v d) : Q v H' := hP w' H' v l R r

theorem PW.newL {Q : VK} {E : XC} {xs : List D} (R : Rel K w H S) (hP : PW K fld w H Q E (.ok (.new xs) S)) {p : Addr} {vs : List V} (e : H p = none) (r : RVs K w H vs xs) : Q (.ref p) (upd H p (.lst vs)) :=
  hP w _ p vs (Le.new e) e (R.off e) upd_same (R.plus e) ((RVs.plus e r).mono (Le.new e).plus)

theorem PW.newT {Q : VK} {E : XC} {xs : List D} (R : Rel K w H S) (hP : PW K fld w H Q E (.ok (.val (.tup xs)) S)) {p : Addr} {vs : List V} (e : H p = none) (r : RVs K w H vs xs) : Q (.ref p) (upd H p (.tup vs)) :=
  hP w _ (.ref p) (Le.new e) (R.new e) (.tup upd_same (R.off e) (R.noav e) (r.mono (Le.new e)))
end


mutual
def pyd : D → PyData
  | .non => .none
  | .bl b => .bool b
  | .int i => .int i
  | .str x => .str x
  | .tup xs => .tuple (pyds xs)
  | .lst xs => .list (pyds xs)
  | _ => .dict []
def pyds : List D → List PyData
  | [] => []
  | x :: xs => pyd x :: pyds xs
end
theorem pyds_map : ∀ xs : List D, pyds xs = xs.map pyd
  | [] => by simp [pyds]
  | x :: xs => by simp [pyds, pyds_map xs]
mutual
theorem deq_eqv : ∀ x y : D, deq x y = PyData.eqv (pyd x) (pyd y)
  | .non, y => by cases y <;> simp [deq, pyd, PyData.eqv]
  | .bl a, y => by cases y <;> simp [deq, pyd, PyData.eqv] <;> rfl
  | .int i, y => by cases y <;> simp [deq, pyd, PyData.eqv] <;> rfl
  | .str x, y => by cases y <;> simp [deq, pyd, PyData.eqv] <;> first | rfl | (rename_i z; by_cases h : x = z <;> simp [h])
  | .tup xs, y => by cases y <;> simp [deq, pyd, PyData.eqv]; exact deqs_eqv xs _
  | .lst xs, y => by cases y <;> simp [deq, pyd, PyData.eqv]; exact deqs_eqv xs _
  | .ref n, y => by cases y <;> simp [deq, pyd, PyData.eqv]
  | .frz n, y => by cases y <;> simp [deq, pyd, PyData.eqv]
  | .exn, y => by cases y <;> simp [deq, pyd, PyData.eqv]
theorem deqs_eqv : ∀ xs ys : List D, deqs xs ys = PyData.eqvAll (pyds xs) (pyds ys)
  | [], ys => by cases ys <;> simp [deqs, pyds, PyData.eqvAll]
  | x :: xs, ys => by
    cases ys with
    | nil => simp [deqs, pyds, PyData.eqvAll]
    | cons y ys => simp [deqs, pyds, PyData.eqvAll, deq_eqv x y, deqs_eqv xs ys]
end

section
variable {K : PySem.W.Frag} {w : Wd} {H : Hp} {S : Store}
theorem sizeLine_LINE : (sizeLine : Nat) = LINE := sizeLine_eq
theorem mapM_cons {α β : Type} (f : α → Option β) (x : α) (xs : List α) : (x :: xs).mapM f = (f x).bind fun y => (xs.mapM f).bind fun ys => some (y :: ys) := by
  rw [List.mapM_cons]; rfl
theorem res_all {n : Nat} (ih : ∀ (v : V) (d e : D), RV K w H v d → res S n d = some e → Dp K H v (pyd e) ∧ (pyd e).canLay0 = true ∧ (pyd e).depth ≤ n) : ∀ (xs es : List D) (vs : List V), RVs K w H vs xs → xs.mapM (res S n) = some es →
    DpAll K H vs (pyds es) ∧ PyData.canLayAll0 (pyds es) = true ∧ PyData.depthAll (pyds es) ≤ n
  | [], es, _, r, h => by
    cases r
    rw [List.mapM_nil] at h
    cases h
    exact ⟨.nil, by simp [pyds, PyData.canLayAll0], by simp [pyds, PyData.depthAll]⟩
  | x :: xs, es, _, r, h => by
    cases r with
    | cons h1 h2 =>
      rw [mapM_cons] at h
      obtain ⟨y, hy, h⟩ := Option.bind_eq_some_iff.mp h
      obtain ⟨ys, hys, h⟩ := Option.bind_eq_some_iff.mp h
      cases h
      obtain ⟨a1, a2, a3⟩ := ih _ _ _ h1 hy
      obtain ⟨b1, b2, b3⟩ := res_all ih xs ys _ h2 hys
      exact ⟨.cons a1 b1, by simp [pyds, PyData.canLayAll0, a2, b2], by simp only [pyds, PyData.depthAll]; omega⟩
theorem res_dp (R : Rel K w H S) : ∀ (n : Nat) (v : V) (d e : D), RV K w H v d → res S n d = some e → Dp K H v (pyd e) ∧ (pyd e).canLay0 = true ∧ (pyd e).depth ≤ n
  | 0, _, _, _, _, h => by cases h
  | n + 1, v, d, e, r, h => by
    have ih := res_dp R n
    have lists : ∀ {a : Addr} {vs : List V} {xs : List D}, SqL K H a vs → RVs K w H vs xs → (xs.mapM (res S n)).map D.lst = some e → Dp K H (.ref a) (pyd e) ∧ (pyd e).canLay0 = true ∧ (pyd e).depth ≤ n + 1 := fun {a vs xs} h1 h2 h3 => by
      obtain ⟨es, q, rfl⟩ := Option.map_eq_some_iff.mp h3
      obtain ⟨b1, b2, b3⟩ := res_all ih xs es vs h2 q
      exact ⟨.lst h1 b1, by simpa [pyd, PyData.canLay0] using b2, by simp only [pyd, PyData.depth]; omega⟩
    cases r with
    | non => cases h; exact ⟨.non, by simp [pyd, PyData.canLay0], by simp [pyd, PyData.depth]⟩
    | bl b => cases h; exact ⟨.bl b, by simp [pyd, PyData.canLay0], by simp [pyd, PyData.depth]⟩
    | int i => cases h; exact ⟨.int i, by simp [pyd, PyData.canLay0], by simp [pyd, PyData.depth]⟩
    | str x =>
      have h' : (if PySem.PyData.strOk x = true then some (D.str x) else none) = some e := h
      by_cases hx : PySem.PyData.strOk x = true
      · rw [if_pos hx] at h'; cases h'
        exact ⟨.str x, by simpa [pyd, PyData.canLay0] using hx, by simp [pyd, PyData.depth]⟩
      · rw [if_neg hx] at h'; cases h'
    | tup h1 h2 h3 r =>
      rename_i a vs xs
      have h' : (xs.mapM (res S n)).map D.tup = some e := h
      obtain ⟨es, q, rfl⟩ := Option.map_eq_some_iff.mp h'
      obtain ⟨b1, b2, b3⟩ := res_all ih xs es vs r q
      exact ⟨.tup (SqT.of h1) b1, by simpa [pyd, PyData.canLay0] using b2, by simp only [pyd, PyData.depth]; omega⟩
    | lst h1 h2 h3 r => exact lists (SqL.of h1) r h
    | frz h1 r => cases h
    | ref hr =>
      rename_i k a
      have h' : (match S[k]? with
        | some (.lst xs) => (xs.mapM (res S n)).map D.lst
        | _ => none) = some e := h
      cases q : S[k]? with
      | none => rw [q] at h'; cases h'
      | some o =>
        rw [q] at h'
        cases o with
        | lst ys =>
          obtain ⟨vs, h1, h2⟩ := R.at hr q
          exact lists (SqL.of h1) h2 h'
        | dct t kvs => cases h'
        | ins c fs => cases h'
theorem res_shaped (R : Rel K w H S) {v : V} {d e : D} (r : RV K w H v d) (h : res S DEPTH d = some e) : Dp K H v (pyd e) ∧ SeqAt.shaped (pyd e) = true := by
  obtain ⟨h1, h2, h3⟩ := res_dp R DEPTH v d e r h
  refine ⟨h1, ?_⟩
  have z : DEPTH = 60 := rfl
  unfold SeqAt.shaped
  rw [h2, Bool.true_and, decide_eq_true_iff]
  omega
theorem flat_rv {v : V} {d : D} (r : RV K w H v d) (f : flatD d = true) : flatV v = true := by cases r <;> first | rfl | cases f
theorem flats_rv : ∀ {vs : List V} {ds : List D}, RVs K w H vs ds → ds.all flatD = true → vs.all flatV = true
  | _, _, .nil, _ => rfl
  | _, _, .cons h r, f => by
    rw [List.all_cons, Bool.and_eq_true] at f
    rw [List.all_cons, flat_rv h f.1, flats_rv r f.2]; rfl
theorem deq_rv {v u : V} {d e : D} (r : RV K w H v d) (q : RV K w H u e) (f : flatD d = true) (g : flatD e = true) : eqV v u = deq d e := by
  cases r <;> cases q <;> first | (cases f; done) | (cases g; done) | (simp [eqV, deq] <;> first | rfl | (rename_i a b; by_cases z : a = b <;> simp [z]))
theorem any_rv {u : V} {e : D} (q : RV K w H u e) (g : flatD e = true) : ∀ {vs : List V} {ds : List D}, RVs K w H vs ds → ds.all flatD = true → inV u vs = ds.any fun z => deq z e
  | _, _, .nil, _ => rfl
  | _, _, .cons h r, f => by
    rw [List.all_cons, Bool.and_eq_true] at f
    show (eqV _ u || inV u _) = (deq _ e || _)
    rw [deq_rv h q f.1 g, any_rv q g r f.2]
end


section
variable {X : Cx} {fld : Nat → Str}

def rOp (K : PySem.W.Frag) (fld : Nat → Str) (f : Store → D → D → Option WV) : R2 := fun x y H Q =>
  ∃ (w : Wd) (S : Store) (d e : D) (z : WV), Rel K w H S ∧ RV K w H x d ∧ RV K w H y e ∧ f S d e = some z ∧ PW K fld w H Q (fun _ _ _ => False) (.ok z S)
def opOf : BOp → PySem.Operator
  | .add => .Add
  | .sub => .Sub
  | .mul => .Mult
  | .fdiv => .FloorDiv
  | .mod => .Mod
  | .pow => .Pow
  | .xor => .BitXor
  | .and => .BitAnd
  | .shl => .LShift
  | .shr => .RShift
theorem bin_int (o : BOp) {i j : Int} {d : D} (h : binD o (.int i) (.int j) = some d) {pins : List (Addr × Obj)} {s : Shared} {σ : L2.St} {H : Hp} {v u : Value} {Q : VK} (I : Inv X pins σ H s) (rx : RelV (.int i) v) (ry : RelV (.int j) u)
    (q : ∀ k : Int, d = .int k → Q (.int k) H) : wpAny (model X.prog X.w) X.A (binaryOp (opOf o) v u) (EP X pins σ Q) X.xe s := by
  cases o with
  | add => cases h; exact op_add pins s σ H _ _ v u Q I rx ry ⟨i, j, rfl, rfl, q _ rfl⟩
  | sub => cases h; exact op_sub pins s σ H _ _ v u Q I rx ry ⟨i, j, rfl, rfl, q _ rfl⟩
  | mul =>
    have h' : (if mulOk i j = true then some (D.int (i * j)) else none) = some d := h
    by_cases hc : mulOk i j = true
    · rw [if_pos hc] at h'; cases h'
      refine op_mul pins s σ H _ _ v u Q I rx ry ⟨i, j, rfl, rfl, ?_, q _ rfl⟩
      unfold mulOk at hc
      rw [Bool.or_eq_true, decide_eq_true_iff, decide_eq_true_iff] at hc
      exact hc
    · rw [if_neg hc] at h'; cases h'
  | fdiv =>
    have h' : (if 0 < j ∧ j < 1073741824 then some (D.int (i / j)) else none) = some d := h
    by_cases hc : 0 < j ∧ j < 1073741824
    · rw [if_pos hc] at h'; cases h'
      exact op_fdiv pins s σ H _ _ v u Q I rx ry ⟨i, j, rfl, rfl, hc, q _ rfl⟩
    · rw [if_neg hc] at h'; cases h'
  | mod =>
    have h' : (if 0 < j then some (D.int (i % j)) else none) = some d := h
    by_cases hc : 0 < j
    · rw [if_pos hc] at h'; cases h'
      exact op_mod pins s σ H _ _ v u Q I rx ry ⟨i, j, rfl, rfl, hc, q _ rfl⟩
    · rw [if_neg hc] at h'; cases h'
  | pow =>
    have h' : (if 0 ≤ j ∧ j ≤ 1000000 ∧ i.natAbs < 2 ^ 64 then some (D.int (i ^ j.toNat)) else none) = some d := h
    by_cases hc : 0 ≤ j ∧ j ≤ 1000000 ∧ i.natAbs < 2 ^ 64
    · rw [if_pos hc] at h'; cases h'
      exact op_pow pins s σ H _ _ v u Q I rx ry ⟨i, j, rfl, rfl, hc, q _ rfl⟩
    · rw [if_neg hc] at h'; cases h'
  | xor => cases h; exact op_xor pins s σ H _ _ v u Q I rx ry ⟨i, j, rfl, rfl, q _ rfl⟩
  | and => cases h; exact op_and pins s σ H _ _ v u Q I rx ry ⟨i, j, rfl, rfl, q _ rfl⟩
  | shl =>
    have h' : (if 0 ≤ j ∧ j ≤ 1000000 ∧ i.natAbs < 2 ^ 64 then some (D.int (i * 2 ^ j.toNat)) else none) = some d := h
    by_cases hc : 0 ≤ j ∧ j ≤ 1000000 ∧ i.natAbs < 2 ^ 64
    · rw [if_pos hc] at h'; cases h'
      exact op_shl pins s σ H _ _ v u Q I rx ry ⟨i, j, rfl, rfl, hc, q _ rfl⟩
    · rw [if_neg hc] at h'; cases h'
  | shr =>
    have h' : (if 0 ≤ j then some (D.int (i / 2 ^ j.toNat)) else none) = some d := h
    by_cases hc : 0 ≤ j
    · rw [if_pos hc] at h'; cases h'
      exact op_shr pins s σ H _ _ v u Q I rx ry ⟨i, j, rfl, rfl, hc, q _ rfl⟩
    · rw [if_neg hc] at h'; cases h'
theorem rep_size (a : Array Nat) : ∀ (k : Nat) (b : Array Nat), ((List.replicate k a).foldl (· ++ ·) b).size = b.size + a.size * k
  | 0, b => by simp
  | k + 1, b => by
    rw [List.replicate_succ, List.foldl_cons, rep_size a k, Array.size_append, Nat.mul_succ]
    omega
theorem op_bin (o : BOp) : OpR X (binaryOp (opOf o)) (rOp X.K fld fun S d e => binW S o d e) := by
  intro pins s σ H x y v u Q I rx ry h
  obtain ⟨w, S, d, e, z, R, h1, h2, hb, hP⟩ := h
  cases q : binD o d e with
  | some r =>
    have hb' : some (WV.val r) = some z := by
      have := hb
      simp only [binW, q] at this
      exact this
    cases hb'
    cases h1 with
    | int i =>
      cases h2 with
      | int j => exact bin_int o q I rx ry fun k ek => by subst ek; exact hP w H (.int k) Le.refl R (.int k)
      | _ => cases q
    | str x =>
      cases h2 with
      | str y =>
        cases o with
        | add =>
          have q' : (if x.length + y.length ≤ LINE then some (D.str (x ++ y)) else none) = some r := q
          by_cases hc : x.length + y.length ≤ LINE
          · rw [if_pos hc] at q'; cases q'
            exact op_add_str pins s σ H _ _ v u Q I rx ry ⟨x, y, rfl, rfl, by rw [sizeLine_LINE]; exact hc, hP w H (.str _) Le.refl R (.str _)⟩
          · rw [if_neg hc] at q'; cases q'
        | _ => cases q
      | int n =>
        cases o with
        | mul =>
          have q' : (if 2 ≤ n ∧ n ≤ 10000 ∧ x.length * n.toNat ≤ LINE then some (D.str (if x.length = 0 then x else ⟨(List.replicate n.toNat x.cps).foldl (· ++ ·) #[]⟩)) else none) = some r := q
          by_cases hc : 2 ≤ n ∧ n ≤ 10000 ∧ x.length * n.toNat ≤ LINE
          · rw [if_pos hc] at q'; cases q'
            obtain ⟨c1, c2, c3⟩ := hc
            obtain ⟨t, rfl⟩ := rx
            obtain ⟨t', rfl⟩ := ry
            have hn1 : ¬ n < 1 := by omega
            have hq := hP w H (.str (if x.length = 0 then x else ⟨(List.replicate n.toNat x.cps).foldl (· ++ ·) #[]⟩)) Le.refl R (.str _)
            refine P.mul_str ?_ (fun _ h => ?_) (fun _ h => ?_) ?_
            · rw [Bool.or_eq_false_iff]
              exact ⟨decide_eq_false (by omega), decide_eq_false (by omega)⟩
            · intro hgt
              have hx : (x.length : Int) ≤ 16777216 := by
                have : x.length * 1 ≤ x.length * n.toNat := Nat.mul_le_mul_left _ (by omega)
                have c3' : x.length * n.toNat ≤ 16777216 := c3
                omega
              have : (16777216 : Int) ≤ (2 ^ 63 - 1) / n := by
                rw [Int.le_ediv_iff_mul_le (by omega)]
                omega
              omega
            · show decide (x.length * n.toNat > sizeLine) = false
              rw [decide_eq_false_iff_not, sizeLine_LINE]
              omega
            · rw [if_neg hn1]
              by_cases hx : x.length = 0
              · rw [if_pos (show (n == 1 || x.length == 0) = true by rw [hx]; simp)]
                rw [if_pos hx] at hq
                exact ⟨.str x, H, I, ⟨t, rfl⟩, hq⟩
              · rw [if_neg (show ¬ (n == 1 || x.length == 0) = true by simp only [Bool.or_eq_true, beq_iff_eq]; omega)]
                rw [if_neg hx] at hq
                refine ⟨?_, .str _, H, I.tok _, ⟨_, rfl⟩, hq⟩
                show ((List.replicate n.toNat x.cps).foldl (· ++ ·) #[]).size ≤ sizeLine
                rw [rep_size, sizeLine_LINE]
                have c3' : x.cps.size * n.toNat ≤ LINE := c3
                simpa using c3'
          · rw [if_neg hc] at q'; cases q'
        | _ => cases q
      | _ => cases q
    | tup a1 a2 a3 ra =>
      cases h2 with
      | tup b1 b2 b3 rb =>
        cases o with
        | add =>
          rename_i a vs xs b us ys
          have q' : (if xs.length + ys.length ≤ LINE then some (D.tup (xs ++ ys)) else none) = some r := q
          by_cases hc : xs.length + ys.length ≤ LINE
          · rw [if_pos hc] at q'; cases q'
            refine op_catA pins s σ H _ _ v u Q I rx ry ⟨a, b, vs, us, rfl, rfl, SqT.of a1, SqT.of b1, by rw [ra.length, rb.length, sizeLine_LINE]; exact hc, fun z => ?_, fun _ z => ?_, fun _ _ p hp => ?_⟩
            · subst z
              cases ra
              exact hP w H (.ref b) Le.refl R (.tup b1 b2 b3 rb)
            · subst z
              cases rb
              exact hP w H (.ref a) Le.refl R (.tup a1 a2 a3 (by rw [List.append_nil]; exact ra))
            · exact PW.newT R hP hp (ra.append rb)
          · rw [if_neg hc] at q'; cases q'
        | _ => cases q
      | _ => cases q
    | _ => cases q
  | none =>
    have hb' := hb
    simp only [binW, q] at hb'
    cases o with
    | add =>
      have hb2 : (catL S d e).map WV.new = some z := hb'
      obtain ⟨zs, hz, ez⟩ := Option.map_eq_some_iff.mp hb2
      subst ez
      unfold catL at hz
      cases q1 : lstOf S d with
      | none => rw [q1] at hz; cases hz
      | some xs =>
        cases q2 : lstOf S e with
        | none => rw [q1, q2] at hz; cases hz
        | some ys =>
          rw [q1, q2] at hz
          have hz' : (if xs.length + ys.length ≤ LINE then some (xs ++ ys) else none) = some zs := hz
          by_cases hc : xs.length + ys.length ≤ LINE
          · rw [if_pos hc] at hz'; cases hz'
            obtain ⟨a, vs, rfl, e1, r1⟩ := rv_lst R h1 q1
            obtain ⟨b, us, rfl, e2, r2⟩ := rv_lst R h2 q2
            exact op_cat pins s σ H _ _ v u Q I rx ry ⟨a, b, vs, us, rfl, rfl, e1, e2, by rw [r1.length, r2.length, sizeLine_LINE]; exact hc, fun p hp => PW.newL R hP hp (r1.append r2)⟩
          · rw [if_neg hc] at hz'; cases hz'
    | _ => cases hb'


theorem op_eqS (hu : X.A.units + 65 < cLine) : OpR X (compareOp .Eq) (rOp X.K fld fun S d e => (eqD S d e).map fun r => .val (.bl r)) := by
  intro pins s σ H x y v u Q I rx ry h
  obtain ⟨w, S, d, e, z, R, h1, h2, hb0, hP⟩ := h
  obtain ⟨b, hb, ez⟩ := Option.map_eq_some_iff.mp hb0
  subst ez
  clear hb0
  have fin : Q (.bl b) H := hP w H (.bl b) Le.refl R (.bl b)
  have deep : ∀ {d' e' : D}, res S DEPTH d = some d' → res S DEPTH e = some e' → deq d' e' = b → wpAny (model X.prog X.w) X.A (compareOp .Eq v u) (EP X pins σ Q) X.xe s := fun {d' e'} q1 q2 q3 => by
    obtain ⟨a1, a2⟩ := res_shaped R h1 q1
    obtain ⟨b1, b2⟩ := res_shaped R h2 q2
    exact op_eqD (by omega) pins s σ H x y v u Q I rx ry ⟨_, _, a1, b1, a2, b2, by rw [← deq_eqv, q3]; exact fin⟩
  unfold eqD at hb
  by_cases hf : (flatD d && flatD e) = true
  · rw [if_pos hf, Option.some.injEq] at hb
    have sc : scal x y = true → decide (x = y) = b → wpAny (model X.prog X.w) X.A (compareOp .Eq v u) (EP X pins σ Q) X.xe s := fun q1 q2 => op_eq pins s σ H x y v u Q I rx ry ⟨q1, by rw [q2]; exact fin⟩
    cases h1 <;> cases h2 <;> first
      | (exfalso; simp [flatD] at hf; done)
      | (exact deep rfl rfl hb)
      | (refine sc rfl ?_; rw [← hb]; simp [deq]; done)
      | (refine sc rfl ?_; rw [← hb]; rename_i p q; cases p <;> cases q <;> rfl)
  · rw [if_neg hf] at hb
    cases q1 : res S DEPTH d with
    | none => rw [q1] at hb; cases hb
    | some d' =>
      cases q2 : res S DEPTH e with
      | none => rw [q1, q2] at hb; cases hb
      | some e' =>
        rw [q1, q2] at hb
        exact deep q1 q2 (Option.some.inj hb)
theorem op_neS (hu : X.A.units + 65 < cLine) : OpR X (compareOp .NotEq) (rOp X.K fld fun S d e => ((eqD S d e).map (!·)).map fun r => .val (.bl r)) := by
  intro pins s σ H x y v u Q I rx ry h
  obtain ⟨w, S, d, e, z, R, h1, h2, hb0, hP⟩ := h
  obtain ⟨b1, hb1, ez⟩ := Option.map_eq_some_iff.mp hb0
  obtain ⟨b, hb, eb⟩ := Option.map_eq_some_iff.mp hb1
  subst ez
  subst eb
  clear hb0 hb1
  have fin : Q (.bl (!b)) H := hP w H (.bl (!b)) Le.refl R (.bl (!b))
  have deep : ∀ {d' e' : D}, res S DEPTH d = some d' → res S DEPTH e = some e' → deq d' e' = b → wpAny (model X.prog X.w) X.A (compareOp .NotEq v u) (EP X pins σ Q) X.xe s := fun {d' e'} q1 q2 q3 => by
    obtain ⟨a1, a2⟩ := res_shaped R h1 q1
    obtain ⟨b1, b2⟩ := res_shaped R h2 q2
    exact op_neD (by omega) pins s σ H x y v u Q I rx ry ⟨_, _, a1, b1, a2, b2, by rw [← deq_eqv, q3]; exact fin⟩
  unfold eqD at hb
  by_cases hf : (flatD d && flatD e) = true
  · rw [if_pos hf, Option.some.injEq] at hb
    have sc : scal x y = true → decide (x = y) = b → wpAny (model X.prog X.w) X.A (compareOp .NotEq v u) (EP X pins σ Q) X.xe s := fun q1 q2 => op_ne pins s σ H x y v u Q I rx ry ⟨q1, by rw [q2]; exact fin⟩
    cases h1 <;> cases h2 <;> first
      | (exfalso; simp [flatD] at hf; done)
      | (exact deep rfl rfl hb)
      | (refine sc rfl ?_; rw [← hb]; simp [deq]; done)
      | (refine sc rfl ?_; rw [← hb]; rename_i p q; cases p <;> cases q <;> rfl)
  · rw [if_neg hf] at hb
    cases q1 : res S DEPTH d with
    | none => rw [q1] at hb; cases hb
    | some d' =>
      cases q2 : res S DEPTH e with
      | none => rw [q1, q2] at hb; cases hb
      | some e' =>
        rw [q1, q2] at hb
        exact deep q1 q2 (Option.some.inj hb)
end


section
variable {K : PySem.W.Frag} {w : Wd} {H : Hp} {S : Store} {a : Addr} {y x : V} {k d : D}
theorem keyD_inj : ∀ {p q : Key}, keyD p = keyD q → p = q
  | .inl i, .inl j, h => by cases h; rfl
  | .inr x, .inr y, h => by cases h; rfl
  | .inl _, .inr _, h => by cases h
  | .inr _, .inl _, h => by cases h
theorem map_keyD_inj : ∀ {p q : List Key}, p.map keyD = q.map keyD → p = q
  | [], [], _ => rfl
  | [], _ :: _, h => by simp at h
  | _ :: _, [], h => by simp at h
  | a :: p, b :: q, h => by
    simp only [List.map_cons, List.cons.injEq] at h
    rw [keyD_inj h.1, map_keyD_inj h.2]
theorem tkeyD_inj {p q : List Key} (h : tkeyD p = tkeyD q) : p = q := map_keyD_inj (D.tup.inj h)
def OR (K : PySem.W.Frag) (w : Wd) (H : Hp) : Option V → Option D → Prop
  | some v, some d => RV K w H v d
  | none, none => True
  | _, _ => False
theorem find_rv {κ : Type} [DecidableEq κ] {f : κ → D} (inj : ∀ {p q : κ}, f p = f q → p = q) {ks : List (κ × V)} {kvs : List (D × D)} (h : Paired (fun (p : κ × V) (q : D × D) => f p.1 = q.1 ∧ RV K w H p.2 q.2) ks kvs) (k : κ) : OR K w H (valV ks k) (dget kvs (f k)) := by
  induction h with
  | nil => trivial
  | @cons p q ps qs r _ ih =>
    obtain ⟨r1, r2⟩ := r
    by_cases e : p.1 = k
    · rw [valV_pos e]
      have e2 : q.1 = f k := by rw [← r1, e]
      unfold dget
      rw [List.find?_cons_of_pos (by simpa using e2)]
      exact r2
    · rw [valV_neg e]
      have e2 : ¬ q.1 = f k := by rw [← r1]; exact fun z => e (inj z)
      unfold dget at ih ⊢
      rw [List.find?_cons_of_neg (by simpa using e2)]
      exact ih
theorem any_rv' {κ : Type} [DecidableEq κ] {f : κ → D} (inj : ∀ {p q : κ}, f p = f q → p = q) {ks : List (κ × V)} {kvs : List (D × D)} (h : Paired (fun (p : κ × V) (q : D × D) => f p.1 = q.1 ∧ RV K w H p.2 q.2) ks kvs) (k : κ) :
    (ks.any fun kv => decide (kv.1 = k)) = kvs.any fun p => decide (p.1 = f k) := by
  induction h with
  | nil => rfl
  | @cons p q ps qs r _ ih =>
    rw [List.any_cons, List.any_cons, ih]
    congr 1
    rw [← r.1]
    by_cases e : p.1 = k
    · rw [decide_eq_true e, decide_eq_true (by rw [e])]
    · rw [decide_eq_false e, decide_eq_false fun z => e (inj z)]
theorem put_rv {κ : Type} [DecidableEq κ] {f : κ → D} (inj : ∀ {p q : κ}, f p = f q → p = q) {ks : List (κ × V)} {kvs : List (D × D)} (h : Paired (fun (p : κ × V) (q : D × D) => f p.1 = q.1 ∧ RV K w H p.2 q.2) ks kvs) (k : κ) (r : RV K w H x d) :
    Paired (fun (p : κ × V) (q : D × D) => f p.1 = q.1 ∧ RV K w H p.2 q.2) (putK ks k x) (dput kvs (f k) d) := by
  unfold putK dput
  rw [any_rv' inj h k]
  split
  · induction h with
    | nil => exact .nil
    | @cons p q ps qs h1 h2 ih =>
      rename_i hany
      have tl : Paired (fun (p : κ × V) (q : D × D) => f p.1 = q.1 ∧ RV K w H p.2 q.2) (ps.map fun kv => if kv.1 = k then (kv.1, x) else kv) (qs.map fun p => if p.1 = f k then (p.1, d) else p) := by
        clear ih hany
        induction h2 with
        | nil => exact .nil
        | @cons p q ps qs h1 h2 ih =>
          refine .cons ?_ ih
          dsimp only
          by_cases e : p.1 = k
          · rw [if_pos e, if_pos (by rw [← h1.1, e])]; exact ⟨h1.1, r⟩
          · rw [if_neg e, if_neg (by rw [← h1.1]; exact fun z => e (inj z))]; exact h1
      refine .cons ?_ tl
      dsimp only
      by_cases e : p.1 = k
      · rw [if_pos e, if_pos (by rw [← h1.1, e])]; exact ⟨h1.1, r⟩
      · rw [if_neg e, if_neg (by rw [← h1.1]; exact fun z => e (inj z))]; exact h1
  · induction h with
    | nil => exact .cons ⟨rfl, r⟩ .nil
    | @cons p q ps qs h1 h2 ih =>
      refine .cons h1 (ih ?_)
      rename_i hany
      rw [List.any_cons] at hany
      intro z
      exact hany (by rw [z, Bool.or_true])

theorem key1 (h : keyOk false k = true) (r : RV K w H y k) : ∃ q : Key, y = kV q ∧ k = keyD q := by
  cases r with
  | int i => exact ⟨.inl i, rfl, rfl⟩
  | str z => exact ⟨.inr z, rfl, rfl⟩
  | _ => simp [keyOk, flatKey] at h
theorem keys2 : ∀ {vs : List V} {xs : List D}, RVs K w H vs xs → xs.all flatKey = true → ∃ q : List Key, vs = q.map kV ∧ xs = q.map keyD
  | _, _, .nil, _ => ⟨[], rfl, rfl⟩
  | _, _, .cons h r, f => by
    rw [List.all_cons, Bool.and_eq_true] at f
    obtain ⟨q, rfl, rfl⟩ := keys2 r f.2
    cases h with
    | int i => exact ⟨.inl i :: q, rfl, rfl⟩
    | str z => exact ⟨.inr z :: q, rfl, rfl⟩
    | _ => exact absurd f.1 (by simp [flatKey])

theorem key2 (h : keyOk true k = true) (r : RV K w H y k) : ∃ (b : Addr) (q : List Key), y = .ref b ∧ H b = some (.tup (q.map kV)) ∧ k = tkeyD q := by
  cases r with
  | tup h1 h2 h3 r =>
    obtain ⟨q, rfl, rfl⟩ := keys2 r (by simpa [keyOk] using h)
    exact ⟨_, q, rfl, h1, rfl⟩
  | _ => simp [keyOk] at h
theorem dget_rv {t : Bool} {kvs : List (D × D)} (o : RO K w H a (.dct t kvs)) (h : keyOk t k = true) (r : RV K w H y k) : ∃ z, DGet H a y z ∧ OR K w H z (dget kvs k) := by
  cases t with
  | false =>
    obtain ⟨ks, h1, h2⟩ := o
    obtain ⟨q, rfl, rfl⟩ := key1 h r
    exact ⟨_, DGet.k h1, find_rv keyD_inj h2 q⟩
  | true =>
    obtain ⟨ks, h1, h2⟩ := o
    obtain ⟨b, q, rfl, hb, rfl⟩ := key2 h r
    exact ⟨_, DGet.t h1 hb, find_rv tkeyD_inj h2 q⟩
end

section
variable {X : Cx} {fld : Nat → Str}

theorem in_items (hu : X.A.units + 65 < cLine) {pins : List (Addr × Obj)} {s : Shared} {σ : L2.St} {H : Hp} {w : Wd} {S : Store} {x : V} {v : Value} {d : D} {p : Addr} {vs : List V} {xs : List D} {b : Bool} {Q : VK} (neg : Bool) (I : Inv X pins σ H s) (rx : RelV x v)
    (R : Rel X.K w H S) (h1 : RV X.K w H x d) (hq : SqL X.K H p vs ∨ SqT X.K H p vs) (r : RVs X.K w H vs xs) (hb : inL S d xs = some b) (fin : Q (.bl (if neg then !b else b)) H) :
    wpAny (model X.prog X.w) X.A (compareOp (if neg then .NotIn else .In) v (.ref p)) (EP X pins σ Q) X.xe s := by
  unfold inL at hb
  by_cases hf : (flatD d && xs.all flatD) = true
  · rw [if_pos hf, Option.some.injEq] at hb
    rw [Bool.and_eq_true] at hf
    have e := any_rv h1 hf.1 r hf.2
    cases neg with
    | false => exact op_in_seq pins s σ H x (.ref p) v _ Q I rx rfl ⟨p, vs, rfl, hq, flat_rv h1 hf.1, flats_rv r hf.2, by rw [e, hb]; exact fin⟩
    | true => exact op_notIn_seq pins s σ H x (.ref p) v _ Q I rx rfl ⟨p, vs, rfl, hq, flat_rv h1 hf.1, flats_rv r hf.2, by rw [e, hb]; exact fin⟩
  · rw [if_neg hf] at hb
    cases q1 : res S DEPTH d with
    | none => rw [q1] at hb; cases hb
    | some d' =>
      cases q2 : xs.mapM (res S DEPTH) with
      | none => rw [q1, q2] at hb; cases hb
      | some es =>
        rw [q1, q2] at hb
        have hb := Option.some.inj hb
        obtain ⟨a1, a2⟩ := res_shaped R h1 q1
        obtain ⟨b1, b2, b3⟩ := res_all (res_dp R DEPTH) xs es vs r q2
        obtain ⟨as, r1⟩ := Dp.reads I _ x v a1 rx
        have eb : (pyds es).any (fun y => PyData.eqv y (pyd d')) = b := by
          rw [← hb, pyds_map, List.any_map]
          congr 1
          funext z
          exact (deq_eqv z d').symm
        rcases hq with hq | hq
        · obtain ⟨bs, r2⟩ := Dp.reads I (.list (pyds es)) (.ref p) (.ref p) (.lst hq b1) rfl
          cases neg with
          | false => exact SeqAt.in_list_reads r2 r1 b2 (SeqAt.canLay_of_shaped a2) (room_in_shaped a2 hu) (by rw [eb]; exact ⟨.bl _, H, I, rfl, fin⟩)
          | true => exact SeqAt.notIn_list_reads r2 r1 b2 (SeqAt.canLay_of_shaped a2) (room_in_shaped a2 hu) (by rw [eb]; exact ⟨.bl _, H, I, rfl, fin⟩)
        · obtain ⟨bs, r2⟩ := Dp.reads I (.tuple (pyds es)) (.ref p) (.ref p) (.tup hq b1) rfl
          cases neg with
          | false => exact SeqAt.in_tuple_reads r2 r1 b2 (SeqAt.canLay_of_shaped a2) (room_in_shaped a2 hu) (by rw [eb]; exact ⟨.bl _, H, I, rfl, fin⟩)
          | true => exact SeqAt.notIn_tuple_reads r2 r1 b2 (SeqAt.canLay_of_shaped a2) (room_in_shaped a2 hu) (by rw [eb]; exact ⟨.bl _, H, I, rfl, fin⟩)
theorem op_inS (neg : Bool) (hu : X.A.units + 65 < cLine) : OpR X (compareOp (if neg then .NotIn else .In)) (rOp X.K fld fun S d e => (inD S d e).map fun r => .val (.bl (if neg then !r else r))) := by
  intro pins s σ H x y v u Q I rx ry h
  obtain ⟨w, S, d, e, z, R, h1, h2, hb0, hP⟩ := h
  obtain ⟨b, hb, ez⟩ := Option.map_eq_some_iff.mp hb0
  subst ez
  clear hb0
  have fin : Q (.bl (if neg then !b else b)) H := hP w H (.bl _) Le.refl R (.bl _)
  cases h2 with
  | str z =>
    cases h1 with
    | str x =>
      cases neg with
      | false => exact op_in_str pins s σ H _ _ v u Q I rx ry ⟨x, z, rfl, rfl, by rw [Option.some.inj hb]; exact fin⟩
      | true => exact op_notin_str pins s σ H _ _ v u Q I rx ry ⟨x, z, rfl, rfl, by rw [Option.some.inj hb]; exact fin⟩
    | _ => cases hb
  | tup b1 b2 b3 rb => cases ry; exact in_items hu neg I rx R h1 (.inr (SqT.of b1)) rb hb fin
  | lst b1 b2 b3 rb => cases ry; exact in_items hu neg I rx R h1 (.inl (SqL.of b1)) rb hb fin
  | ref hr =>
    rename_i n a
    have hb' : (match S[n]? with
      | some (.dct t kvs) => if keyOk t d then some ((dget kvs d).isSome) else none
      | some (.lst xs) => inL S d xs
      | _ => none) = some b := hb
    cases q : S[n]? with
    | none => rw [q] at hb'; cases hb'
    | some o =>
      rw [q] at hb'
      cases o with
      | lst ys =>
        obtain ⟨vs, e1, r1⟩ := R.at hr q
        cases ry
        exact in_items hu neg I rx R h1 (.inl (SqL.of e1)) r1 hb' fin
      | dct t kvs =>
        have hb2 : (if keyOk t d then some ((dget kvs d).isSome) else none) = some b := hb'
        by_cases hk : keyOk t d = true
        · rw [if_pos hk, Option.some.injEq] at hb2
          obtain ⟨o, g, ro⟩ := dget_rv (R.at hr q) hk h1
          have eo : o.isSome = b := by
            rw [← hb2]
            cases o <;> cases e2 : dget kvs d <;> rw [e2] at ro <;> first | rfl | exact ro.elim
          cases ry
          cases neg with
          | false => exact d_in (by omega) I g rx fun s' I' => ⟨.bl o.isSome, H, I', rfl, by rw [eo]; exact fin⟩
          | true => exact d_notIn (by omega) I g rx fun s' I' => ⟨.bl (!o.isSome), H, I', rfl, by rw [eo]; exact fin⟩
        · rw [if_neg hk] at hb2; cases hb2
      | ins c fs => cases hb'
  | _ => cases hb
theorem op_ordI (o : COp) (f : Int → Int → Bool) (op : CmpOp) (hop : OpR X (compareOp op) (rI0 fun i j => .bl (f i j))) (hs : ∀ S d e b, cmpD S o d e = some b → ∃ i j, d = .int i ∧ e = .int j ∧ b = f i j) :
    OpR X (compareOp op) (rOp X.K fld fun S d e => (cmpD S o d e).map fun r => .val (.bl r)) := by
  intro pins s σ H x y v u Q I rx ry h
  obtain ⟨w, S, d, e, z, R, h1, h2, hb0, hP⟩ := h
  obtain ⟨b, hb, ez⟩ := Option.map_eq_some_iff.mp hb0
  subst ez
  obtain ⟨i, j, rfl, rfl, rfl⟩ := hs S d e b hb
  cases h1
  cases h2
  exact hop pins s σ H _ _ v u Q I rx ry ⟨i, j, rfl, rfl, hP w H (.bl _) Le.refl R (.bl _)⟩
theorem isN (R : RV X.K w H x d) : decide (x = V.non) = decide (d = D.non) := by
  cases R <;> simp

def copOf : COp → CmpOp
  | .eq => .Eq
  | .ne => .NotEq
  | .lt => .Lt
  | .le => .LtE
  | .gt => .Gt
  | .ge => .GtE
  | .is => .Is
  | .isnot => .IsNot
  | .isin => .In
  | .notin => .NotIn
theorem op_cmp (o : COp) (hu : X.A.units + 65 < cLine) : OpR X (compareOp (copOf o)) (rOp X.K fld fun S d e => (cmpD S o d e).map fun r => .val (.bl r)) := by
  cases o with
  | eq => exact op_eqS hu
  | ne => exact op_neS hu
  | lt => exact op_ordI .lt (fun i j => decide (i < j)) .Lt op_lt fun S d e b h => by cases d <;> cases e <;> first | (cases h; done) | exact ⟨_, _, rfl, rfl, (Option.some.inj h).symm⟩
  | le => exact op_ordI .le (fun i j => decide (i ≤ j)) .LtE op_le fun S d e b h => by cases d <;> cases e <;> first | (cases h; done) | exact ⟨_, _, rfl, rfl, (Option.some.inj h).symm⟩
  | gt => exact op_ordI .gt (fun i j => decide (j < i)) .Gt op_gt fun S d e b h => by cases d <;> cases e <;> first | (cases h; done) | exact ⟨_, _, rfl, rfl, (Option.some.inj h).symm⟩
  | ge => exact op_ordI .ge (fun i j => decide (j ≤ i)) .GtE op_ge fun S d e b h => by cases d <;> cases e <;> first | (cases h; done) | exact ⟨_, _, rfl, rfl, (Option.some.inj h).symm⟩
  | is =>
    intro pins s σ H x y v u Q I rx ry h
    obtain ⟨w, S, d, e, z, R, h1, h2, hb0, hP⟩ := h
    obtain ⟨b, hb, ez⟩ := Option.map_eq_some_iff.mp hb0
    subst ez
    have he : e = .non ∧ b = decide (d = .non) := by
      cases e <;> first | (cases d <;> first | (cases hb; done) | exact ⟨rfl, (Option.some.inj hb).symm⟩) | (cases hb; done)
    obtain ⟨rfl, rfl⟩ := he
    cases h2
    exact op_isN pins s σ H _ _ v u Q I rx ry ⟨rfl, by rw [isN h1]; exact hP w H (.bl _) Le.refl R (.bl _)⟩
  | isnot =>
    intro pins s σ H x y v u Q I rx ry h
    obtain ⟨w, S, d, e, z, R, h1, h2, hb0, hP⟩ := h
    obtain ⟨b, hb, ez⟩ := Option.map_eq_some_iff.mp hb0
    subst ez
    have he : e = .non ∧ b = !decide (d = .non) := by
      cases e <;> first | (cases d <;> first | (cases hb; done) | exact ⟨rfl, (Option.some.inj hb).symm⟩) | (cases hb; done)
    obtain ⟨rfl, rfl⟩ := he
    cases h2
    exact op_notN pins s σ H _ _ v u Q I rx ry ⟨rfl, by rw [isN h1]; exact hP w H (.bl _) Le.refl R (.bl _)⟩
  | isin => exact op_inS false hu
  | notin =>
    intro pins s σ H x y v u Q I rx ry h
    obtain ⟨w, S, d, e, z, R, h1, h2, hb0, hP⟩ := h
    refine op_inS true hu pins s σ H x y v u Q I rx ry ⟨w, S, d, e, z, R, h1, h2, ?_, hP⟩
    have hb1 : ((inD S d e).map (!·)).map (fun r => WV.val (.bl r)) = some z := hb0
    rw [Option.map_map] at hb1
    exact hb1
end

section
variable {X : Cx} {fld : Nat → Str}

theorem at_rv {K : PySem.W.Frag} {w : Wd} {H : Hp} {vs : List V} {xs : List D} (r : RVs K w H vs xs) {i : Int} {d : D} (h : atI xs i = some d) : ∃ v, atI vs i = some v ∧ RV K w H v d := by
  unfold atI at h ⊢
  obtain ⟨j, hj, h⟩ := Option.bind_eq_some_iff.mp h
  obtain ⟨v, hv, rv⟩ := r.get h
  exact ⟨v, by rw [r.length, hj]; exact hv, rv⟩
theorem ix_S (hu : X.A.units + 65 < cLine) : IxR X (rOp X.K fld fun S d e => (ixD S d e).map .val) := by
  intro value slice pins s σ H x y v u Q I rx ry h hs
  obtain ⟨w, S, d, e, z, R, h1, h2, hb0, hP⟩ := h
  obtain ⟨r, hb, ez⟩ := Option.map_eq_some_iff.mp hb0
  subst ez
  clear hb0
  have lists : ∀ {p : Addr} {vs : List V} {xs : List D}, x = .ref p → SqL X.K H p vs → RVs X.K w H vs xs → ixL xs e = some r → wpAny (model X.prog X.w) X.A (subscriptTail value slice v u) (EP X pins σ Q) X.xe s := fun {p vs xs} ex hq rr hb => by
    subst ex
    cases h2 with
    | int k =>
      obtain ⟨b, hb, rb⟩ := at_rv rr hb
      exact ix_list value slice pins s σ H _ _ v u Q I rx ry ⟨p, vs, k, b, rfl, rfl, hq, hb, hP w H b Le.refl R rb⟩ hs
    | _ => cases hb
  cases h1 with
  | tup a1 a2 a3 ra =>
    cases h2 with
    | int k =>
      obtain ⟨b, hb, rb⟩ := at_rv ra (show atI _ k = some r from hb)
      exact ix_tup value slice pins s σ H _ _ v u Q I rx ry ⟨_, _, k, b, rfl, rfl, SqT.of a1, hb, hP w H b Le.refl R rb⟩ hs
    | _ => cases hb
  | lst a1 a2 a3 ra => exact lists rfl (SqL.of a1) ra hb
  | str z =>
    cases h2 with
    | int k =>
      have hb' : (if z.length ≤ LINE then (atI z.cps.toList k).map fun c => D.str ⟨#[c]⟩ else none) = some r := hb
      by_cases hz : z.length ≤ LINE
      · rw [if_pos hz] at hb'
        obtain ⟨c, hc, er⟩ := Option.map_eq_some_iff.mp hb'
        subst er
        exact ix_str value slice pins s σ H _ _ v u Q I rx ry ⟨z, k, c, rfl, rfl, by rw [sizeLine_LINE]; exact hz, hc, hP w H (.str _) Le.refl R (.str _)⟩ hs
      · rw [if_neg hz] at hb'; cases hb'
    | _ => cases hb
  | ref hr =>
    rename_i n a
    have hb' : (match S[n]? with
      | some (.lst xs) => ixL xs e
      | some (.dct t kvs) => if keyOk t e then dget kvs e else none
      | _ => none) = some r := hb
    cases q : S[n]? with
    | none => rw [q] at hb'; cases hb'
    | some o =>
      rw [q] at hb'
      cases o with
      | lst ys =>
        obtain ⟨vs, e1, r1⟩ := R.at hr q
        exact lists rfl (SqL.of e1) r1 hb'
      | dct t kvs =>
        have hb2 : (if keyOk t e then dget kvs e else none) = some r := hb'
        by_cases hk : keyOk t e = true
        · rw [if_pos hk] at hb2
          obtain ⟨o, g, ro⟩ := dget_rv (R.at hr q) hk h2
          rw [hb2] at ro
          cases o with
          | none => exact ro.elim
          | some b =>
            cases rx
            refine tail_any (dict_typeIs I g) PySem.F.slot_dict_getitem.lookup (d_getItem (by omega) I g ry fun w' s3 I3 rw' => ⟨b, H, I3, rw', hP w H b Le.refl R ro⟩) hs
        · rw [if_neg hk] at hb2; cases hb2
      | ins c fs => cases hb'
  | _ => cases hb
theorem cut_rv {K : PySem.W.Frag} {w : Wd} {H : Hp} {vs : List V} {xs : List D} (r : RVs K w H vs xs) (lo hi : Option Int) : RVs K w H (cutV vs lo hi) (cutL xs lo hi) := by
  unfold cutV cutL
  rw [r.length]
  exact (r.drop _).take _

def rSl (K : PySem.W.Frag) (fld : Nat → Str) : V → Option Int → Option Int → Hp → VK → Prop := fun x lo hi H Q =>
  ∃ (w : Wd) (S : Store) (d : D) (z : WV), Rel K w H S ∧ RV K w H x d ∧ slD S d lo hi = some z ∧ PW K fld w H Q (fun _ _ _ => False) (.ok z S)
theorem sl_S : SlR X (rSl X.K fld) := by
  intro pins s σ H x v vl vu lo hi sl Q I rx hs pl pu h
  obtain ⟨w, S, d, z, R, h1, hb, hP⟩ := h
  cases h1 with
  | tup a1 a2 a3 ra =>
    rename_i a vs xs
    cases hb
    refine sl_tupA pins s σ H _ v vl vu lo hi sl Q I rx hs pl pu ⟨a, vs, rfl, SqT.of a1, fun hw => ?_, fun _ p hp => PW.newT R hP hp (cut_rv ra lo hi)⟩
    have e : cutL xs lo hi = xs := by
      unfold cutL
      rw [← ra.length, hw.1, hw.2, List.drop_zero, Nat.sub_zero, ra.length, List.take_length]
    rw [e] at hP
    exact hP w H (.ref a) Le.refl R (.tup a1 a2 a3 ra)
  | lst a1 a2 a3 ra =>
    cases hb
    exact sl_list pins s σ H _ v vl vu lo hi sl Q I rx hs pl pu ⟨_, _, rfl, SqL.of a1, fun p hp => PW.newL R hP hp (cut_rv ra lo hi)⟩
  | str t =>
    have hb' : (if t.length ≤ LINE then some (WV.val (.str (cutS t lo hi))) else none) = some z := hb
    by_cases hz : t.length ≤ LINE
    · rw [if_pos hz] at hb'
      cases hb'
      exact sl_str pins s σ H _ v vl vu lo hi sl Q I rx hs pl pu ⟨t, rfl, by rw [sizeLine_LINE]; exact hz, hP w H (.str _) Le.refl R (.str _)⟩
    · rw [if_neg hz] at hb'; cases hb'
  | ref hr =>
    rename_i n a
    have hb' : (match S[n]? with
      | some (.lst xs) => some (WV.new (cutL xs lo hi))
      | _ => none) = some z := hb
    cases q : S[n]? with
    | none => rw [q] at hb'; cases hb'
    | some o =>
      rw [q] at hb'
      cases o with
      | lst ys =>
        cases hb'
        obtain ⟨vs, e1, r1⟩ := R.at hr q
        exact sl_list pins s σ H _ v vl vu lo hi sl Q I rx hs pl pu ⟨a, vs, rfl, SqL.of e1, fun p hp => PW.newL R hP hp (cut_rv r1 lo hi)⟩
      | dct t kvs => cases hb'
      | ins c fs => cases hb'
  | _ => cases hb

theorem RVs.one {K : PySem.W.Frag} {w : Wd} {H : Hp} {vs : List V} {d : D} (r : RVs K w H vs [d]) : ∃ v, vs = [v] ∧ RV K w H v d := by
  cases r with
  | cons h t => cases t; exact ⟨_, rfl, h⟩
theorem RVs.two {K : PySem.W.Frag} {w : Wd} {H : Hp} {vs : List V} {d e : D} (r : RVs K w H vs [d, e]) : ∃ v u, vs = [v, u] ∧ RV K w H v d ∧ RV K w H u e := by
  cases r with
  | cons h t =>
    obtain ⟨u, rfl, h2⟩ := t.one
    exact ⟨_, u, rfl, h, h2⟩
theorem RVs.intsV {K : PySem.W.Frag} {w : Wd} {H : Hp} : ∀ {vs : List V} {ds : List D} {ns : List Int}, RVs K w H vs ds → intsOf ds = some ns → vs = ns.map V.int
  | _, _, _, .nil, h => by cases h; rfl
  | _, d :: ds, ns, .cons h r, e => by
    cases h with
    | int i =>
      have e' : (intsOf ds).map (i :: ·) = some ns := e
      obtain ⟨ms, hm, rfl⟩ := Option.map_eq_some_iff.mp e'
      rw [RVs.intsV r hm]; rfl
    | _ => cases e
theorem RVs.boolsV {K : PySem.W.Frag} {w : Wd} {H : Hp} : ∀ {vs : List V} {ds : List D} {ns : List Bool}, RVs K w H vs ds → boolsOf ds = some ns → vs = ns.map V.bl
  | _, _, _, .nil, h => by cases h; rfl
  | _, d :: ds, ns, .cons h r, e => by
    cases h with
    | bl i =>
      have e' : (boolsOf ds).map (i :: ·) = some ns := e
      obtain ⟨ms, hm, rfl⟩ := Option.map_eq_some_iff.mp e'
      rw [RVs.boolsV r hm]; rfl
    | _ => cases e
theorem RVs.strsV {K : PySem.W.Frag} {w : Wd} {H : Hp} : ∀ {vs : List V} {ds : List D} {ns : List Str}, RVs K w H vs ds → strsOf ds = some ns → vs = ns.map V.str
  | _, _, _, .nil, h => by cases h; rfl
  | _, d :: ds, ns, .cons h r, e => by
    cases h with
    | str i =>
      have e' : (strsOf ds).map (i :: ·) = some ns := e
      obtain ⟨ms, hm, rfl⟩ := Option.map_eq_some_iff.mp e'
      rw [RVs.strsV r hm]; rfl
    | _ => cases e
theorem rvs_strs {K : PySem.W.Frag} {w : Wd} {H : Hp} : ∀ ys : List Str, RVs K w H (ys.map V.str) (ys.map D.str)
  | [] => .nil
  | y :: ys => .cons (.str y) (rvs_strs ys)

def rBi (K : PySem.W.Frag) (fld : Nat → Str) (f : Store → List D → Option WV) : List V → Hp → VK → Prop := fun vs H Q =>
  ∃ (w : Wd) (S : Store) (ds : List D) (z : WV), Rel K w H S ∧ RVs K w H vs ds ∧ f S ds = some z ∧ PW K fld w H Q (fun _ _ _ => False) (.ok z S)
def biId : BI → Value
  | .len => .builtin "len"
  | .abs => .builtin "abs"
  | .min2 => .builtin "min"
  | .max2 => .builtin "max"
  | .sum => .builtin "sum"
  | .all => .builtin "all"
  | .any => .builtin "any"
  | .int => .type "int"
  | .str => .type "str"
  | .tuple => .type "tuple"
  | .list => .type "list"
theorem call_bi (b : BI) (hc : X.calm = true) : CallR X (biId b) (rBi X.K fld fun S ds => biD S b ds) := by
  intro pins s σ H xs us Q I rs h
  obtain ⟨w, S, ds, z, R, r, hb, hP⟩ := h
  cases b with
  | len =>
    match ds, r, hb with
    | [d], r, hb =>
      obtain ⟨v, rfl, rv⟩ := r.one
      obtain ⟨n, hn, ez⟩ := Option.map_eq_some_iff.mp (show (lenD S d).map (fun (n : Nat) => WV.val (.int n)) = some z from hb)
      subst ez
      have fin : Q (.int n) H := hP w H (.int n) Le.refl R (.int n)
      have seq : ∀ {a : Addr} {vs : List V}, v = .ref a → (SqL X.K H a vs ∨ H a = some (.tup vs)) → vs.length = n → wpAny (model X.prog X.w) X.A (call (biId .len) us) (EP X pins σ Q) X.xe s := fun {a vs} ev hq hl => by
        subst ev
        refine call_len_seq pins s σ H _ us Q I rs ⟨a, vs, rfl, hq.imp id SqT.of, ?_⟩
        rw [hl]; exact fin
      cases rv with
      | str t =>
        have hn' : (if t.length ≤ LINE then some t.length else none) = some n := hn
        by_cases ht : t.length ≤ LINE
        · rw [if_pos ht] at hn'; cases hn'
          exact call_len_str pins s σ H _ us Q I rs ⟨t, rfl, by rw [sizeLine_LINE]; exact ht, fin⟩
        · rw [if_neg ht] at hn'; cases hn'
      | tup a1 a2 a3 ra => cases hn; exact seq rfl (.inr a1) ra.length
      | lst a1 a2 a3 ra => cases hn; exact seq rfl (.inl (SqL.of a1)) ra.length
      | frz hf ra =>
        cases hn
        obtain ⟨a, vs, e1, e2, e3⟩ := rv_seq R (RV.frz hf ra) (xs := _) rfl
        exact seq e1 e2 e3.length
      | @ref k a hr =>
        have hn' : (match S[k]? with
          | some (.lst xs) => some xs.length
          | some (.dct _ kvs) => some kvs.length
          | _ => none) = some n := hn
        cases q : S[k]? with
        | none => rw [q] at hn'; cases hn'
        | some o =>
          rw [q] at hn'
          cases o with
          | lst ys =>
            cases hn'
            obtain ⟨vs, e1, r1⟩ := R.at hr q
            exact seq rfl (.inl (SqL.of e1)) r1.length
          | dct t kvs =>
            cases hn'
            cases t with
            | false =>
              obtain ⟨ks, e1, r1⟩ := R.at hr q
              exact call_lenD pins s σ H _ us Q I rs ⟨a, ks, rfl, e1, by rw [Paired.length r1]; exact fin⟩
            | true =>
              obtain ⟨ks, e1, r1⟩ := R.at hr q
              exact call_len_dT pins s σ H _ us Q I rs ⟨a, ks, rfl, e1, by rw [Paired.length r1]; exact fin⟩
          | ins c fs => cases hn'
      | _ => cases hn
  | abs =>
    match ds, r, hb with
    | [.int i], r, hb =>
      cases hb
      obtain ⟨v, rfl, rv⟩ := r.one
      cases rv
      exact call_abs pins s σ H _ us Q I rs ⟨i, rfl, hP w H (.int _) Le.refl R (.int _)⟩
  | min2 =>
    match ds, r, hb with
    | [.int i, .int j], r, hb =>
      cases hb
      obtain ⟨v, u, rfl, rv, ru⟩ := r.two
      cases rv
      cases ru
      exact call_min2 hc pins s σ H _ us Q I rs ⟨i, j, rfl, hP w H (.int _) Le.refl R (.int _)⟩
  | max2 =>
    match ds, r, hb with
    | [.int i, .int j], r, hb =>
      cases hb
      obtain ⟨v, u, rfl, rv, ru⟩ := r.two
      cases rv
      cases ru
      exact call_max2 hc pins s σ H _ us Q I rs ⟨i, j, rfl, hP w H (.int _) Le.refl R (.int _)⟩
  | sum =>
    match ds, r, hb with
    | [d], r, hb =>
      obtain ⟨v, rfl, rv⟩ := r.one
      obtain ⟨is, hi, ez⟩ := Option.map_eq_some_iff.mp (show ((lstOf S d).bind intsOf).map (fun is => WV.val (.int is.sum)) = some z from hb)
      subst ez
      obtain ⟨ys, hy, hi⟩ := Option.bind_eq_some_iff.mp hi
      obtain ⟨a, vs, rfl, e1, r1⟩ := rv_lst R rv hy
      have e := r1.intsV hi
      subst e
      exact cr_sum hc pins s σ H _ us Q I rs ⟨a, is, rfl, SqL.of e1, hP w H (.int _) Le.refl R (.int _)⟩
  | all =>
    match ds, r, hb with
    | [d], r, hb =>
      obtain ⟨v, rfl, rv⟩ := r.one
      obtain ⟨is, hi, ez⟩ := Option.map_eq_some_iff.mp (show ((lstOf S d).bind boolsOf).map (fun is => WV.val (.bl (is.all id))) = some z from hb)
      subst ez
      obtain ⟨ys, hy, hi⟩ := Option.bind_eq_some_iff.mp hi
      obtain ⟨a, vs, rfl, e1, r1⟩ := rv_lst R rv hy
      have e := r1.boolsV hi
      subst e
      exact cr_all hc pins s σ H _ us Q I rs ⟨a, is, rfl, SqL.of e1, hP w H (.bl _) Le.refl R (.bl _)⟩
  | any =>
    match ds, r, hb with
    | [d], r, hb =>
      obtain ⟨v, rfl, rv⟩ := r.one
      obtain ⟨is, hi, ez⟩ := Option.map_eq_some_iff.mp (show ((lstOf S d).bind boolsOf).map (fun is => WV.val (.bl (is.any id))) = some z from hb)
      subst ez
      obtain ⟨ys, hy, hi⟩ := Option.bind_eq_some_iff.mp hi
      obtain ⟨a, vs, rfl, e1, r1⟩ := rv_lst R rv hy
      have e := r1.boolsV hi
      subst e
      exact cr_any hc pins s σ H _ us Q I rs ⟨a, is, rfl, SqL.of e1, hP w H (.bl _) Le.refl R (.bl _)⟩
  | int =>
    match ds, r, hb with
    | [.int i], r, hb =>
      cases hb
      obtain ⟨v, rfl, rv⟩ := r.one
      cases rv
      exact call_int1 pins s σ H _ us Q I rs (.inl ⟨i, rfl, hP w H (.int _) Le.refl R (.int _)⟩)
    | [.bl k], r, hb =>
      cases hb
      obtain ⟨v, rfl, rv⟩ := r.one
      cases rv
      exact call_int1 pins s σ H _ us Q I rs (.inr ⟨k, rfl, hP w H (.int _) Le.refl R (.int _)⟩)
    | [.str t], r, hb =>
      have hb' : (if t.length ≤ 640 then (PySem.intText? t).map fun n => WV.val (.int n) else none) = some z := hb
      by_cases ht : t.length ≤ 640
      · rw [if_pos ht] at hb'
        obtain ⟨n, hn, ez⟩ := Option.map_eq_some_iff.mp hb'
        subst ez
        obtain ⟨v, rfl, rv⟩ := r.one
        cases rv
        exact call_int_str pins s σ H _ us Q I rs ⟨t, n, rfl, hn, ht, hP w H (.int _) Le.refl R (.int _)⟩
      · rw [if_neg ht] at hb'; cases hb'
  | str =>
    match ds, r, hb with
    | [.int i], r, hb =>
      have hb' : (if i.natAbs.log2 < 1920 then some (WV.val (.str (toString i))) else none) = some z := hb
      by_cases ht : i.natAbs.log2 < 1920
      · rw [if_pos ht] at hb'
        cases hb'
        obtain ⟨v, rfl, rv⟩ := r.one
        cases rv
        exact call_str_int pins s σ H _ us Q I rs ⟨i, rfl, ht, hP w H (.str _) Le.refl R (.str _)⟩
      · rw [if_neg ht] at hb'; cases hb'
  | tuple =>
    match ds, r, hb with
    | [d], r, hb =>
      obtain ⟨v, rfl, rv⟩ := r.one
      have lists : (lstOf S d).map (fun xs => WV.val (.tup xs)) = some z → wpAny (model X.prog X.w) X.A (call (biId .tuple) us) (EP X pins σ Q) X.xe s := fun hb => by
        obtain ⟨ys, hy, ez⟩ := Option.map_eq_some_iff.mp hb
        subst ez
        obtain ⟨a, vs, rfl, e1, r1⟩ := rv_lst R rv hy
        exact call_tuple_of pins s σ H _ us Q I rs ⟨a, vs, rfl, .inl ⟨SqL.of e1, fun p hp => PW.newT R hP hp r1⟩⟩
      cases d with
      | tup xs =>
        cases hb
        cases rv with
        | tup a1 a2 a3 ra => exact call_tuple_of pins s σ H _ us Q I rs ⟨_, _, rfl, .inr ⟨SqT.of a1, hP w H (.ref _) Le.refl R (.tup a1 a2 a3 ra)⟩⟩
      | _ => exact lists hb
  | list =>
    match ds, r, hb with
    | [d], r, hb =>
      obtain ⟨v, rfl, rv⟩ := r.one
      obtain ⟨ys, hy, ez⟩ := Option.map_eq_some_iff.mp (show (seqOf S d).map WV.new = some z from hb)
      subst ez
      obtain ⟨a, vs, rfl, e1, r1⟩ := rv_seq R rv hy
      exact call_list_of pins s σ H _ us Q I rs ⟨a, vs, rfl, e1.imp id SqT.of, fun p hp => PW.newL R hP hp r1⟩

def tyL : List String := ["int", "bool", "str", "tuple", "list", "dict"]
theorem kit_all (K : PySem.W.Frag) : ∀ a ∈ ("NoneType" :: tyL), ∀ t ∈ tyL, PySem.W.kitOne K (.type a) (.type t) = some (a == t || (a == "bool" && t == "int")) := by
  intro a ha t ht
  simp only [tyL, List.mem_cons, List.not_mem_nil, or_false] at ha ht
  rcases ha with rfl | rfl | rfl | rfl | rfl | rfl | rfl <;> rcases ht with rfl | rfl | rfl | rfl | rfl | rfl <;> kernel_rfl
theorem call_isiS (t : String) (ht : t ∈ tyL) : CallR X (.builtin "isinstance") (fun vs H Q => ∃ (v : V) (w : Wd) (S : Store) (d : D) (k : Bool), vs = [v, .ty t] ∧ Rel X.K w H S ∧ RV X.K w H v d ∧ isiD S t d = some k ∧ Q (.bl k) H) := by
  intro pins s σ H xs us Q I rs h
  obtain ⟨v, w, S, d, k, rfl, R, r, hb, q⟩ := h
  have go : ∀ a, a ∈ ("NoneType" :: tyL) → TyOf X.K H v (.type a) → (a == t || (a == "bool" && t == "int")) = k → wpAny (model X.prog X.w) X.A (call (.builtin "isinstance") us) (EP X pins σ Q) X.xe s := fun a ha ty e =>
    call_isi pins s σ H _ us Q I rs ⟨v, .ty t, .type a, .type t, k, rfl, .ty t, .base ty, by rw [kit_all X.K a ha t ht, e], q⟩
  simp only [tyL, List.mem_cons, List.not_mem_nil, or_false] at ht
  cases r with
  | non => exact go "NoneType" (by decide) .non (by rw [← Option.some.inj hb]; rcases ht with rfl | rfl | rfl | rfl | rfl | rfl <;> decide)
  | bl b => exact go "bool" (by decide) (.bl b) (by rw [← Option.some.inj hb]; rcases ht with rfl | rfl | rfl | rfl | rfl | rfl <;> decide)
  | int i => exact go "int" (by decide) (.int i) (by rw [← Option.some.inj hb]; rcases ht with rfl | rfl | rfl | rfl | rfl | rfl <;> decide)
  | str x => exact go "str" (by decide) (.str x) (by rw [← Option.some.inj hb]; rcases ht with rfl | rfl | rfl | rfl | rfl | rfl <;> decide)
  | tup a1 a2 a3 ra => exact go "tuple" (by decide) (.tup a1) (by rw [← Option.some.inj hb]; rcases ht with rfl | rfl | rfl | rfl | rfl | rfl <;> decide)
  | lst a1 a2 a3 ra => exact go "list" (by decide) (.lst a1) (by rw [← Option.some.inj hb]; rcases ht with rfl | rfl | rfl | rfl | rfl | rfl <;> decide)
  | frz _ _ => cases hb
  | ref hr =>
    rename_i n a
    have hb' : (match S[n]? with
      | some (.lst _) => some (t == "list")
      | some (.dct _ _) => some (t == "dict")
      | _ => none) = some k := hb
    cases q1 : S[n]? with
    | none => rw [q1] at hb'; cases hb'
    | some o =>
      rw [q1] at hb'
      cases o with
      | lst ys =>
        obtain ⟨vs, e1, r1⟩ := R.at hr q1
        exact go "list" (by decide) (.lst e1) (by rw [← Option.some.inj hb']; rcases ht with rfl | rfl | rfl | rfl | rfl | rfl <;> decide)
      | dct b kvs =>
        have hd : TyOf X.K H (.ref a) (.type "dict") := by
          cases b with
          | false => obtain ⟨ks, e1, r1⟩ := R.at hr q1; exact .dK e1
          | true => obtain ⟨ks, e1, r1⟩ := R.at hr q1; exact .dT e1
        exact go "dict" (by decide) hd (by rw [← Option.some.inj hb']; rcases ht with rfl | rfl | rfl | rfl | rfl | rfl <;> decide)
      | ins c fs => cases hb'



def rMt (K : PySem.W.Frag) (fld : Nat → Str) (f : Store → D → List D → Option WV) : V → List V → Hp → VK → Prop := fun x vs H Q =>
  ∃ (w : Wd) (S : Store) (d : D) (ds : List D) (z : WV), Rel K w H S ∧ RV K w H x d ∧ RVs K w H vs ds ∧ f S d ds = some z ∧ PW K fld w H Q (fun _ _ _ => False) (.ok z S)
theorem mt_splitS : MtR X "str.split" (rMt X.K fld fun S d ds => mtD S .split d ds) := by
  intro pins s σ H x xs v us Q I rx rs h
  obtain ⟨w, S, d, ds, z, R, r, rr, hb, hP⟩ := h
  match d, ds, r, rr, hb with
  | .str a, [.str b], r, rr, hb =>
    have hb' : (if b.length ≠ 0 ∧ a.length + 2 ≤ LINE then some (WV.new ((PySem.Txt.split a b).map .str)) else none) = some z := hb
    by_cases hc : b.length ≠ 0 ∧ a.length + 2 ≤ LINE
    · rw [if_pos hc] at hb'
      cases hb'
      obtain ⟨u, rfl, ru⟩ := rr.one
      cases r
      cases ru
      exact mt_split pins s σ H _ _ v us Q I rx rs ⟨a, b, rfl, rfl, by simpa using hc.1, by rw [sizeLine_LINE]; exact hc.2, fun p hp => PW.newL R hP hp (rvs_strs _)⟩
    · rw [if_neg hc] at hb'; cases hb'
theorem mt_joinS : MtR X "str.join" (rMt X.K fld fun S d ds => mtD S .join d ds) := by
  intro pins s σ H x xs v us Q I rx rs h
  obtain ⟨w, S, d, ds, z, R, r, rr, hb, hP⟩ := h
  match d, ds, r, rr, hb with
  | .str a, [d], r, rr, hb =>
    obtain ⟨u, rfl, ru⟩ := rr.one
    cases r
    have hb' : (match seqOf S d with
      | some xs => (match strsOf xs with
        | some ys => if (ys.map (·.length)).sum + ys.length * a.length ≤ LINE then some (WV.val (.str (PySem.Txt.join a ys))) else none
        | none => none)
      | none => none) = some z := hb
    cases q1 : seqOf S d with
    | none => rw [q1] at hb'; cases hb'
    | some xs =>
      rw [q1] at hb'
      cases q2 : strsOf xs with
      | none => simp only [q2] at hb'; cases hb'
      | some ys =>
        simp only [q2] at hb'
        by_cases hc : (ys.map (·.length)).sum + ys.length * a.length ≤ LINE
        · rw [if_pos hc] at hb'
          cases hb'
          obtain ⟨p, vs, rfl, e1, r1⟩ := rv_seq R ru q1
          have e := r1.strsV q2
          subst e
          exact mt_join pins s σ H _ _ v us Q I rx rs ⟨a, p, ys, rfl, rfl, e1.imp id SqT.of, hc, hP w H (.str _) Le.refl R (.str _)⟩
        · rw [if_neg hc] at hb'; cases hb'
theorem findD_some : ∀ {xs : List D} {x : D} {i j : Nat}, findD xs x i = some j → ∃ k z, j = i + k ∧ xs[k]? = some z ∧ deq z x = true ∧ ∀ (m : Nat) (z' : D), m < k → xs[m]? = some z' → deq z' x = false
  | [], _, _, _, h => by cases h
  | y :: ys, x, i, j, h => by
    have h' : (if deq y x = true then some i else findD ys x (i + 1)) = some j := h
    by_cases e : deq y x = true
    · rw [if_pos e] at h'
      exact ⟨0, y, (Option.some.inj h').symm, rfl, e, fun m _ hm => absurd hm (Nat.not_lt_zero m)⟩
    · rw [if_neg e] at h'
      obtain ⟨k, z, e1, e2, e3, e4⟩ := findD_some h'
      refine ⟨k + 1, z, by omega, by simpa using e2, e3, fun m z' hm hz => ?_⟩
      cases m with
      | zero => simp at hz; subst hz; simpa using e
      | succ m => exact e4 m z' (by omega) (by simpa using hz)
theorem RVs.at {K : PySem.W.Frag} {w : Wd} {H : Hp} {vs : List V} {xs : List D} (r : RVs K w H vs xs) {i : Nat} {v : V} {d : D} (h1 : vs[i]? = some v) (h2 : xs[i]? = some d) : RV K w H v d := by
  obtain ⟨u, e, ru⟩ := r.get h2
  rw [h1] at e
  cases e
  exact ru
theorem flat_mem {xs : List D} (f : xs.all flatD = true) {i : Nat} {d : D} (h : xs[i]? = some d) : flatD d = true := List.all_eq_true.mp f d (List.mem_of_getElem? h)
theorem mt_indexS : MtR X "list.index" (rMt X.K fld fun S d ds => mtD S .index d ds) := by
  intro pins s σ H x xs v us Q I rx rs h
  obtain ⟨w, S, d, ds, z, R, r, rr, hb, hP⟩ := h
  match ds, rr, hb with
  | [e], rr, hb =>
    obtain ⟨u, rfl, ru⟩ := rr.one
    have hb' : (match lstOf S d with
      | some xs => if flatD e && xs.all flatD then (findD xs e 0).map fun (i : Nat) => WV.val (.int i) else none
      | none => none) = some z := by cases d <;> exact hb
    cases q1 : lstOf S d with
    | none => rw [q1] at hb'; cases hb'
    | some ys =>
      rw [q1] at hb'
      by_cases hf : (flatD e && ys.all flatD) = true
      · simp only [hf, if_true] at hb'
        rw [Bool.and_eq_true] at hf
        obtain ⟨j, hj, ez⟩ := Option.map_eq_some_iff.mp hb'
        subst ez
        obtain ⟨p, vs, rfl, e1, r1⟩ := rv_lst R r q1
        obtain ⟨k, y, ek, hy, e3, e4⟩ := findD_some hj
        have ek' : j = k := by omega
        subst ek'
        obtain ⟨a, ha, ra⟩ := r1.get hy
        refine mt_index pins s σ H _ _ v us Q I rx rs ⟨p, vs, u, j, a, rfl, rfl, SqL.of e1, flat_rv ru hf.1, flats_rv r1 hf.2, ha, by rw [deq_rv ra ru (flat_mem hf.2 hy) hf.1]; exact e3, fun m z' hm hz => ?_, hP w H (.int _) Le.refl R (.int _)⟩
        obtain ⟨d', hd', rd'⟩ := r1.getV hz
        rw [deq_rv rd' ru (flat_mem hf.2 hd') hf.1]
        exact e4 m d' hm hd'
      · simp only [if_neg hf] at hb'; cases hb'
theorem mt_index2S : MtR X "list.index" (rMt X.K fld fun S d ds => mtD S .index2 d ds) := by
  intro pins s σ H x xs v us Q I rx rs h
  obtain ⟨w, S, d, ds, z, R, r, rr, hb, hP⟩ := h
  match ds, rr, hb with
  | [e, .int i], rr, hb =>
    obtain ⟨u, ui, rfl, ru, rui⟩ := rr.two
    cases rui
    have hb' : (match lstOf S d with
      | some xs => if flatD e && xs.all flatD && decide (0 ≤ i ∧ i ≤ LINE) then (findD (xs.drop i.toNat) e i.toNat).map fun (i : Nat) => WV.val (.int i) else none
      | none => none) = some z := by cases d <;> exact hb
    cases q1 : lstOf S d with
    | none => rw [q1] at hb'; cases hb'
    | some ys =>
      rw [q1] at hb'
      by_cases hf : (flatD e && ys.all flatD && decide (0 ≤ i ∧ i ≤ LINE)) = true
      · simp only [hf, if_true] at hb'
        rw [Bool.and_eq_true, Bool.and_eq_true, decide_eq_true_iff] at hf
        obtain ⟨⟨f1, f2⟩, i0, i1⟩ := hf
        obtain ⟨j, hj, ez⟩ := Option.map_eq_some_iff.mp hb'
        subst ez
        obtain ⟨p, vs, rfl, e1, r1⟩ := rv_lst R r q1
        obtain ⟨k, y, ek, hy, e3, e4⟩ := findD_some hj
        rw [List.getElem?_drop] at hy
        rw [← ek] at hy
        cases rx
        cases rs with
        | cons ry rt =>
          rename_i uy ut
          cases rt with
          | cons ri rt =>
            rename_i ui ut
            cases rt
            obtain ⟨t, rfl⟩ := ri
            obtain ⟨its, rv, ⟨⟨cls, dd, data, sl⟩, n, ho, hc, hdn, hd⟩, hlen⟩ := I.list (SqL.of e1)
            simp only at hc hd
            subst hc hd
            have hl1 := r1.length
            have hl2 := rv.length
            have hjl : j < ys.length := (List.getElem?_eq_some_iff.mp hy).1
            have hsl := sizeLine_eq
            have at_ : ∀ (m : Nat) (hm : m < its.toArray.size) (d' : D), ys[m]? = some d' → RelV (vs[m]'(by simp at hm; omega)) its.toArray[m] ∧ RV X.K w H (vs[m]'(by simp at hm; omega)) d' := fun m hm d' hd' => by
              have hml : m < vs.length := by simp at hm; omega
              obtain ⟨u2, hu2, ru2⟩ := rv.get (List.getElem?_eq_getElem hml)
              obtain ⟨_, hme⟩ := List.getElem?_eq_some_iff.mp hu2
              refine ⟨by rw [show its.toArray[m] = u2 by simpa using hme]; exact ru2, r1.at (List.getElem?_eq_getElem hml) hd'⟩
            have sf : SeqAt.searchFrom i its.toArray.size ≤ j := by
              rw [SeqAt.searchFrom_nonneg i0]
              omega
            have sf2 : ∀ m : Nat, SeqAt.searchFrom i its.toArray.size ≤ m → m < its.toArray.size → i.toNat ≤ m := fun m h1 h2 => by
              rw [SeqAt.searchFrom_nonneg i0] at h1
              exact h1
            have hjs : j < its.toArray.size := by simp; omega
            refine call_meets PySem.F.slot_list_index ⟨_, ho, rfl⟩ PySem.F.entry_list_index (PySem.F.args_list_index_3 _ _ _)
              (SeqAt.list_index3_found p its.toArray n dd sl uy (fun m => eqU u (its.toArray.getD m .none)) i t j hjs sf (by omega) ?_ ?_) ⟨ho, fun m hm => ?_, ?_⟩
            · obtain ⟨a1, a2⟩ := at_ j hjs y hy
              have eg : its.toArray.getD j .none = its.toArray[j] := by unfold Array.getD; rw [dif_pos hjs]; rfl
              show eqU u (its.toArray.getD j .none) = true
              rw [eg, eqU_of a1 (flat_rv a2 (flat_mem f2 hy)), deq_rv a2 ru (flat_mem f2 hy) f1]
              exact e3
            · intro m hm h1 h2
              have hm' : m < ys.length := by simp at hm; omega
              have hy' : ys[m]? = some ys[m] := List.getElem?_eq_getElem hm'
              obtain ⟨a1, a2⟩ := at_ m hm _ hy'
              have eg : its.toArray.getD m .none = its.toArray[m] := by unfold Array.getD; rw [dif_pos hm]; rfl
              show eqU u (its.toArray.getD m .none) = false
              rw [eg, eqU_of a1 (flat_rv a2 (flat_mem f2 hy')), deq_rv a2 ru (flat_mem f2 hy') f1]
              have im := sf2 m h1 hm
              refine e4 (m - i.toNat) _ (by omega) ?_
              rw [List.getElem?_drop, show i.toNat + (m - i.toNat) = m by omega]
              exact hy'
            · have hm' : m < ys.length := by simp at hm; omega
              have hy' : ys[m]? = some ys[m] := List.getElem?_eq_getElem hm'
              obtain ⟨a1, a2⟩ := at_ m hm _ hy'
              have eg : its.toArray.getD m .none = its.toArray[m] := by unfold Array.getD; rw [dif_pos hm]; rfl
              rw [eg, eqU_of a1 (flat_rv a2 (flat_mem f2 hy'))]
              exact eqAt_V a1 ry (flat_rv a2 (flat_mem f2 hy')) (flat_rv ru f1)
            · exact ⟨.int (j : Nat), H, I.tok _, ⟨_, rfl⟩, hP w H (.int _) Le.refl R (.int _)⟩
      · simp only [if_neg hf] at hb'; cases hb'
theorem count_rv {K : PySem.W.Frag} {w : Wd} {H : Hp} {u : V} {e : D} (ru : RV K w H u e) (f1 : flatD e = true) : ∀ {vs : List V} {ds : List D} {us : List Value}, RVs K w H vs ds → ds.all flatD = true → Vals vs us → us.countP (eqU u) = ds.countP fun z => deq z e
  | _, _, _, .nil, _, .nil => rfl
  | _, _, _, .cons h r, f, .cons h2 r2 => by
    rw [List.all_cons, Bool.and_eq_true] at f
    rw [List.countP_cons, List.countP_cons, count_rv ru f1 r f.2 r2, eqU_of h2 (flat_rv h f.1), deq_rv h ru f.1 f1]
theorem mt_countS : MtR X "list.count" (rMt X.K fld fun S d ds => mtD S .count d ds) := by
  intro pins s σ H x xs v us Q I rx rs h
  obtain ⟨w, S, d, ds, z, R, r, rr, hb, hP⟩ := h
  match ds, rr, hb with
  | [e], rr, hb =>
    obtain ⟨u, rfl, ru⟩ := rr.one
    have hb' : (match lstOf S d with
      | some xs => if flatD e && xs.all flatD then some (WV.val (.int (xs.countP fun z => deq z e))) else none
      | none => none) = some z := by cases d <;> exact hb
    cases q1 : lstOf S d with
    | none => rw [q1] at hb'; cases hb'
    | some ys =>
      rw [q1] at hb'
      by_cases hf : (flatD e && ys.all flatD) = true
      · simp only [hf, if_true] at hb'
        cases hb'
        rw [Bool.and_eq_true] at hf
        obtain ⟨p, vs, rfl, e1, r1⟩ := rv_lst R r q1
        cases rx
        cases rs with
        | cons ry rt =>
          rename_i uy ut
          cases rt
          obtain ⟨its, rv, ⟨⟨cls, dd, data, sl⟩, n, ho, hc, hdn, hd⟩, hlen⟩ := I.list (SqL.of e1)
          simp only at hc hd
          subst hc hd
          refine call_meets PySem.F.slot_list_count ⟨_, ho, rfl⟩ PySem.F.entry_list_count (PySem.F.args_list_count_2 _ _)
            (SeqAt.list_countAt p its.toArray n dd sl uy (eqU u)) ⟨ho, fun u' hu' => mem_eqAt ry (flat_rv ru hf.1) rv (flats_rv r1 hf.2) u' (by simpa using hu'), ?_⟩
          refine ⟨.int _, H, I.tok _, ⟨_, rfl⟩, ?_⟩
          have ec : its.toArray.toList.countP (eqU u) = ys.countP fun z => deq z e := by simpa using count_rv ru hf.1 r1 hf.2 rv
          rw [ec]
          exact hP w H (.int _) Le.refl R (.int _)
      · simp only [if_neg hf] at hb'; cases hb'
end
end DW
end

section
set_option Elab.async false
set_option linter.all false
set_option maxRecDepth 100000
set_option maxHeartbeats 4000000
namespace DW
open PySem PySem.Spec PyProof.Rows L2

section
variable {X : Cx} {Γ : Ctx}
theorem sim_var {i : Nat} {x : Str} {pos : Pos} (hN : X.N[i]? = some x) (hv : Vis X.env.scope x) (hd : (x == ("__debug__" : Str)) = false) (hcd : (x == ("__classdict__" : Str)) = false) : PE X (.Name x pos) (tE X.K Γ (.var i)) := by
  refine PE.weak (pe_var hN hv hd hcd) fun σ H Q h => ?_
  obtain ⟨w, ρ, S, R, E, h⟩ := h
  have h' : PG X.K Γ.G.fld (TW X.K Q) w H (Γ.E σ) (match ρ[i]? with
    | some (some .exn) => .bad "a held error"
    | some (some d) => .ok (.val d) S
    | _ => .bad "an empty name") := h
  cases q : ρ[i]? with
  | none => rw [q] at h'; exact h'.elim
  | some o =>
    cases o with
    | none => rw [q] at h'; exact h'.elim
    | some d =>
      by_cases hx : d = .exn
      · subst hx; rw [q] at h'; exact h'.elim
      · obtain ⟨v, e, r⟩ := E.val i d q hx
        refine ⟨v, e, ?_⟩
        have h2 : PG X.K Γ.G.fld (TW X.K Q) w H (Γ.E σ) (.ok (.val d) S) := by
          rw [q] at h'
          cases d <;> first | exact h' | exact absurd rfl hx
        exact h2 w H v Le.refl R r

theorem sim_cst {e : Expr} {v : V} {d : D} (h : PE X e (tC v)) (r : ∀ w H, RV X.K w H v d) : PE X e (tE X.K Γ (.cst d)) :=
  PE.weak h fun σ H Q ⟨w, ρ, S, R, E, q⟩ => q w H v Le.refl R (r w H)
theorem sim_bin {a b : Expr} {ca cb : CE} {pos : Pos} (o : BOp) (ha : PE X a (tE X.K Γ ca)) (hb : PE X b (tE X.K Γ cb)) : PE X (.BinOp a (opOf o) b pos) (tE X.K Γ (.bin o ca cb)) := by
  refine PE.weak (pe_op (op_bin (fld := Γ.G.fld) o) ha hb) fun σ H Q h => ?_
  obtain ⟨w, ρ, S, R, E, h⟩ := h
  refine ⟨w, ρ, S, R, E, PG.bindW later_W R h fun w1 H1 v x S1 l R1 r h1 => ⟨w1, ρ, S1, R1, E.mono l, PG.bindW later_W R1 h1 fun w2 H2 u y S2 m R2 q h2 => ?_⟩⟩
  cases z : binW S2 o x.d y.d with
  | none => rw [z] at h2; exact h2.elim
  | some k => rw [z] at h2; exact ⟨w2, S2, x.d, y.d, k, R2, r.mono m, q, z, h2⟩
theorem sim_neg {a : Expr} {ca : CE} {pos : Pos} (ha : PE X a (tE X.K Γ ca)) : PE X (.UnaryOp .USub a pos) (tE X.K Γ (.neg ca)) := by
  refine PE.weak (pe_un un_neg ha) fun σ H Q h => ?_
  obtain ⟨w, ρ, S, R, E, h⟩ := h
  refine ⟨w, ρ, S, R, E, PG.bindW later_W R h fun w1 H1 v x S1 l R1 r h1 => ?_⟩
  cases e : x.d with
  | int i =>
    rw [e] at r h1
    cases r
    exact ⟨i, rfl, h1 w1 H1 _ Le.refl R1 (.int _)⟩
  | _ => rw [e] at h1; exact h1.elim
theorem sim_cmp {a b : Expr} {ca cb : CE} {pos : Pos} (o : COp) (hu : X.A.units + 65 < cLine) (ha : PE X a (tE X.K Γ ca)) (hb : PE X b (tE X.K Γ cb)) (hm : behindInMarks (copOf o) b = false) : PE X (.Compare a [copOf o] [b] pos) (tE X.K Γ (.cmp o ca cb)) := by
  refine PE.weak (pe_cmpR (op_cmp (fld := Γ.G.fld) o hu) ha hb hm) fun σ H Q h => ?_
  obtain ⟨w, ρ, S, R, E, h⟩ := h
  refine ⟨w, ρ, S, R, E, PG.bindW later_W R h fun w1 H1 v x S1 l R1 r h1 => ⟨w1, ρ, S1, R1, E.mono l, PG.bindW later_W R1 h1 fun w2 H2 u y S2 m R2 q h2 => ?_⟩⟩
  cases z : (cmpD S2 o x.d y.d).map fun r => WV.val (.bl r) with
  | none => rw [z] at h2; exact h2.elim
  | some k => rw [z] at h2; exact ⟨w2, S2, x.d, y.d, k, R2, r.mono m, q, z, h2⟩
theorem bind_assoc {α β γ : Type} (r : DW.R α) (k : α → Store → DW.R β) (l : β → Store → DW.R γ) : (r.bind k).bind l = r.bind fun x S => (k x S).bind l := by cases r <;> rfl
theorem simT_cmp {a b : Expr} {ca cb : CE} {pos : Pos} (o : COp) (hu : X.A.units + 65 < cLine) (ha : PE X a (tE X.K Γ ca)) (hb : PE X b (tE X.K Γ cb)) (hm : behindInMarks (copOf o) b = false) : PT X (.Compare a [copOf o] [b] pos) (tT X.K Γ (.cmp o ca cb)) := by
  refine PT.weak (pt_cmpR (op_cmp (fld := Γ.G.fld) o hu) ha hb hm) fun σ H Q h => ?_
  obtain ⟨w, ρ, S, R, E, h⟩ := h
  unfold evT at h
  simp only [ev, bind_assoc] at h
  refine ⟨w, ρ, S, R, E, PG.bindW later_B R h fun w1 H1 v x S1 l R1 r h1 => ⟨w1, ρ, S1, R1, E.mono l, PG.bindW later_B R1 h1 fun w2 H2 u y S2 m R2 q h2 => ?_⟩⟩
  cases z : cmpD S2 o x.d y.d with
  | none => rw [z] at h2; exact h2.elim
  | some k =>
    rw [z] at h2
    exact ⟨w2, S2, x.d, y.d, .val (.bl k), R2, r.mono m, q, by dsimp only; rw [z]; rfl, fun w3 H3 v3 l3 R3 r3 => by cases r3; exact ⟨k, rfl, h2 w3 H3 l3 R3⟩⟩

theorem sim_chn {a b c : Expr} {ca cb cc : CE} {pos : Pos} (o p : COp) (hu : X.A.units + 65 < cLine) (ha : PE X a (tE X.K Γ ca)) (hb : PE X b (tE X.K Γ cb)) (hc : PE X c (tE X.K Γ cc)) (hm : lastMarks [copOf o, copOf p] [b, c] = false) :
    PE X (.Compare a [copOf o, copOf p] [b, c] pos) (tE X.K Γ (.chn o p ca cb cc)) := by
  refine PE.weak (pe_chain (op_cmp (fld := Γ.G.fld) o hu) (op_cmp (fld := Γ.G.fld) p hu) ha hb hc hm) fun σ H Q h => ?_
  obtain ⟨w, ρ, S, R, E, h⟩ := h
  refine ⟨w, ρ, S, R, E, PG.bindW later_W R h fun w1 H1 v x S1 l R1 r h1 => ⟨w1, ρ, S1, R1, E.mono l, PG.bindW later_W R1 h1 fun w2 H2 u y S2 m R2 q h2 => ?_⟩⟩
  cases z : cmpD S2 o x.d y.d with
  | none => simp only [z] at h2; exact h2.elim
  | some k =>
    simp only [z] at h2
    refine ⟨w2, S2, x.d, y.d, .val (.bl k), R2, r.mono m, q, by dsimp only; rw [z]; rfl, fun w3 H3 v3 l3 R3 r3 => ?_⟩
    cases r3
    refine ⟨k, rfl, ?_⟩
    cases k with
    | false => rw [if_neg Bool.false_ne_true]; exact h2 w3 H3 _ l3 R3 (.bl _)
    | true =>
      rw [if_pos rfl]
      refine ⟨w3, ρ, S2, R3, E.mono (l.trans (m.trans l3)), PG.bindW later_W R3 (PG.base later_W l3 h2) fun w4 H4 v4 y4 S4 l4 R4 r4 h4 => ?_⟩
      cases z2 : (cmpD S4 p y.d y4.d).map fun r => WV.val (.bl r) with
      | none => rw [z2] at h4; exact h4.elim
      | some k2 => rw [z2] at h4; exact ⟨w4, S4, y.d, y4.d, k2, R4, (q.mono l3).mono l4, r4, z2, h4⟩
theorem simT_chn {a b c : Expr} {ca cb cc : CE} {pos : Pos} (o p : COp) (hu : X.A.units + 65 < cLine) (ha : PE X a (tE X.K Γ ca)) (hb : PE X b (tE X.K Γ cb)) (hc : PE X c (tE X.K Γ cc)) (hm : lastMarks [copOf o, copOf p] [b, c] = false) :
    PT X (.Compare a [copOf o, copOf p] [b, c] pos) (tT X.K Γ (.chn o p ca cb cc)) := by
  refine PT.weak (pt_chain (op_cmp (fld := Γ.G.fld) o hu) (op_cmp (fld := Γ.G.fld) p hu) ha hb hc hm) fun σ H Q h => ?_
  obtain ⟨w, ρ, S, R, E, h⟩ := h
  unfold evT at h
  simp only [ev, bind_assoc] at h
  refine ⟨w, ρ, S, R, E, PG.bindW later_B R h fun w1 H1 v x S1 l R1 r h1 => ⟨w1, ρ, S1, R1, E.mono l, PG.bindW later_B R1 h1 fun w2 H2 u y S2 m R2 q h2 => ?_⟩⟩
  cases z : cmpD S2 o x.d y.d with
  | none => simp only [z] at h2; exact h2.elim
  | some k =>
    simp only [z] at h2
    refine ⟨w2, S2, x.d, y.d, .val (.bl k), R2, r.mono m, q, by dsimp only; rw [z]; rfl, fun w3 H3 v3 l3 R3 r3 => ?_⟩
    cases r3
    refine ⟨k, rfl, ?_⟩
    cases k with
    | false => rw [if_neg Bool.false_ne_true]; exact ⟨false, rfl, h2 w3 H3 l3 R3⟩
    | true =>
      rw [if_pos rfl]
      simp only [bind_assoc] at h2
      refine ⟨w3, ρ, S2, R3, E.mono (l.trans (m.trans l3)), PG.bindW later_B R3 (PG.base later_B l3 h2) fun w4 H4 v4 y4 S4 l4 R4 r4 h4 => ?_⟩
      cases z2 : cmpD S4 p y.d y4.d with
      | none => rw [z2] at h4; exact h4.elim
      | some k2 =>
        rw [z2] at h4
        exact ⟨w4, S4, y.d, y4.d, .val (.bl k2), R4, (q.mono l3).mono l4, r4, by dsimp only; rw [z2]; rfl, fun w5 H5 v5 l5 R5 r5 => by cases r5; exact ⟨k2, rfl, h4 w5 H5 l5 R5⟩⟩

theorem simT_val {e : Expr} {c : CE} (h : PE X e (tE X.K Γ c)) (he : ∀ whole, isTrue e X.env whole = (do let v ← whole; standAt e.pos; holding [v] (truthy v))) : PT X e (tT X.K Γ c) := by
  refine PT.weak (pt_truth h he) fun σ H Q h => ?_
  obtain ⟨w, ρ, S, R, E, h⟩ := h
  refine ⟨w, ρ, S, R, E, PG.bindW later_B R h fun w1 H1 v x S1 l R1 r h1 => ?_⟩
  cases z : tru S1 x.d with
  | none => rw [z] at h1; exact h1.elim
  | some k => rw [z] at h1; exact ⟨k, rv_tru R1 r z, h1 w1 H1 Le.refl R1⟩
theorem sim_and {a b : Expr} {rest : List Expr} {ca cb : CE} {pos : Pos} (ha : PE X a (tE X.K Γ ca)) (hb : PE X (.BoolOp .And (b :: rest) pos) (tE X.K Γ cb)) : PE X (.BoolOp .And (a :: b :: rest) pos) (tE X.K Γ (.and ca cb)) := by
  refine PE.weak (pe_andT ha hb) fun σ H Q h => ?_
  obtain ⟨w, ρ, S, R, E, h⟩ := h
  refine ⟨w, ρ, S, R, E, PG.bindW later_W R h fun w1 H1 v x S1 l R1 r h1 => ?_⟩
  cases z : tru S1 x.d with
  | none => simp only [z] at h1; exact h1.elim
  | some k =>
    simp only [z] at h1
    refine ⟨k, rv_tru R1 r z, ?_⟩
    cases k with
    | true => rw [if_pos rfl]; exact ⟨w1, ρ, S1, R1, E.mono l, h1⟩
    | false => rw [if_neg Bool.false_ne_true]; exact h1 w1 H1 v Le.refl R1 r
theorem sim_or {a b : Expr} {rest : List Expr} {ca cb : CE} {pos : Pos} (ha : PE X a (tE X.K Γ ca)) (hb : PE X (.BoolOp .Or (b :: rest) pos) (tE X.K Γ cb)) : PE X (.BoolOp .Or (a :: b :: rest) pos) (tE X.K Γ (.or ca cb)) := by
  refine PE.weak (pe_orT ha hb) fun σ H Q h => ?_
  obtain ⟨w, ρ, S, R, E, h⟩ := h
  refine ⟨w, ρ, S, R, E, PG.bindW later_W R h fun w1 H1 v x S1 l R1 r h1 => ?_⟩
  cases z : tru S1 x.d with
  | none => simp only [z] at h1; exact h1.elim
  | some k =>
    simp only [z] at h1
    refine ⟨k, rv_tru R1 r z, ?_⟩
    cases k with
    | false => rw [if_neg Bool.false_ne_true]; exact ⟨w1, ρ, S1, R1, E.mono l, h1⟩
    | true => rw [if_pos rfl]; exact h1 w1 H1 v Le.refl R1 r
theorem evT_and {G : GX} {cur : Cur} {a b : CE} {ρ : Env} {S : Store} : evT G cur (.and a b) ρ S = (evT G cur a ρ S).bind fun k S => if k then evT G cur b ρ S else .ok false S := by
  unfold evT
  simp only [ev, bind_assoc]
  cases ev G cur a ρ S with
  | ok x S1 =>
    show _ = (R.opt "truth" (tru S1 x.d) S1).bind _
    show (match tru S1 x.d with
      | some true => ev G cur b ρ S1
      | some false => DW.R.ok (.val x.d) S1
      | none => DW.R.bad "truth").bind _ = _
    cases z : tru S1 x.d with
    | none => rfl
    | some k =>
      cases k with
      | true => rfl
      | false =>
        show R.opt "truth" (tru S1 x.d) S1 = _
        rw [z]; rfl
  | exc c d S1 => rfl
  | bad z => rfl
theorem evT_or {G : GX} {cur : Cur} {a b : CE} {ρ : Env} {S : Store} : evT G cur (.or a b) ρ S = (evT G cur a ρ S).bind fun k S => if k then .ok true S else evT G cur b ρ S := by
  unfold evT
  simp only [ev, bind_assoc]
  cases ev G cur a ρ S with
  | ok x S1 =>
    show _ = (R.opt "truth" (tru S1 x.d) S1).bind _
    show (match tru S1 x.d with
      | some true => DW.R.ok (WV.val x.d) S1
      | some false => ev G cur b ρ S1
      | none => DW.R.bad "truth").bind _ = _
    cases z : tru S1 x.d with
    | none => rfl
    | some k =>
      cases k with
      | false => rfl
      | true =>
        show R.opt "truth" (tru S1 x.d) S1 = _
        rw [z]; rfl
  | exc c d S1 => rfl
  | bad z => rfl
theorem evT_not {G : GX} {cur : Cur} {a : CE} {ρ : Env} {S : Store} : evT G cur (.not a) ρ S = (evT G cur a ρ S).bind fun k S => .ok (!k) S := by
  unfold evT
  simp only [ev, bind_assoc]
  cases ev G cur a ρ S with
  | ok x S1 =>
    show (match tru S1 x.d with
      | some k => DW.R.ok (WV.val (.bl (!k))) S1
      | none => DW.R.bad "truth").bind _ = (R.opt "truth" (tru S1 x.d) S1).bind _
    cases z : tru S1 x.d with
    | none => rfl
    | some k => rfl
  | exc c d S1 => rfl
  | bad z => rfl
theorem PG.bindB {γ : Type} {K : PySem.W.Frag} {fld : Nat → Str} {w : Wd} {H : Hp} {E : XC} {T : Wd → Hp → γ → Store → Prop} (t : Later T) {r : DW.R Bool} {k : Bool → Store → DW.R γ} {Q : Bool → Hp → Prop} (h : PG K fld T w H E (r.bind k))
    (hk : ∀ (w' : Wd) (H' : Hp) (b : Bool) (S : Store), Le w H w' H' → Rel K w' H' S → PG K fld T w' H' E (k b S) → Q b H') : PG K fld (TB K Q) w H E r := by
  cases r with
  | ok d S => exact fun w' H' l R => hk w' H' d S l R (PG.base t l h)
  | exc c d S => exact h
  | bad s => exact h
theorem simW_and1 {a : Expr} {ca : CE} {pos : Pos} (ha : PT X a (tT X.K Γ ca)) : L2.PW X (.BoolOp .And [a] pos) (tT X.K Γ ca) := pw_and1 ha
theorem simW_and {a b : Expr} {rest : List Expr} {ca cb : CE} {pos : Pos} (ha : PT X a (tT X.K Γ ca)) (hb : L2.PW X (.BoolOp .And (b :: rest) pos) (tT X.K Γ cb)) : L2.PW X (.BoolOp .And (a :: b :: rest) pos) (tT X.K Γ (.and ca cb)) := by
  refine ⟨fun wh pins s σ H Q I h => (pw_and ha hb).run wh pins s σ H Q I ?_⟩
  obtain ⟨w, ρ, S, R, E, h⟩ := h
  rw [evT_and] at h
  refine ⟨w, ρ, S, R, E, PG.bindB later_B h fun w1 H1 k S1 l R1 h1 => ?_⟩
  cases k with
  | true => rw [if_pos rfl]; exact ⟨w1, ρ, S1, R1, E.mono l, h1⟩
  | false => rw [if_neg Bool.false_ne_true]; exact h1 w1 H1 Le.refl R1
theorem simW_or {a b : Expr} {rest : List Expr} {ca cb : CE} {pos : Pos} (ha : PT X a (tT X.K Γ ca)) (hb : L2.PW X (.BoolOp .Or (b :: rest) pos) (tT X.K Γ cb)) : L2.PW X (.BoolOp .Or (a :: b :: rest) pos) (tT X.K Γ (.or ca cb)) := by
  refine ⟨fun wh pins s σ H Q I h => (pw_or ha hb).run wh pins s σ H Q I ?_⟩
  obtain ⟨w, ρ, S, R, E, h⟩ := h
  rw [evT_or] at h
  refine ⟨w, ρ, S, R, E, PG.bindB later_B h fun w1 H1 k S1 l R1 h1 => ?_⟩
  cases k with
  | false => rw [if_neg Bool.false_ne_true]; exact ⟨w1, ρ, S1, R1, E.mono l, h1⟩
  | true => rw [if_pos rfl]; exact h1 w1 H1 Le.refl R1
theorem simT_not {a : Expr} {ca : CE} {pos : Pos} (ha : PT X a (tT X.K Γ ca)) : PT X (.UnaryOp .Not a pos) (tT X.K Γ (.not ca)) := by
  refine PT.weak (pt_not ha) fun σ H Q h => ?_
  obtain ⟨w, ρ, S, R, E, h⟩ := h
  rw [evT_not] at h
  exact ⟨w, ρ, S, R, E, PG.bindB later_B h fun w1 H1 k S1 l R1 h1 => h1 w1 H1 Le.refl R1⟩
theorem sim_not {a : Expr} {ca : CE} {pos : Pos} (ha : PE X a (tE X.K Γ ca)) : PE X (.UnaryOp .Not a pos) (tE X.K Γ (.not ca)) := by
  refine PE.weak (pe_notT ha) fun σ H Q h => ?_
  obtain ⟨w, ρ, S, R, E, h⟩ := h
  refine ⟨w, ρ, S, R, E, PG.bindW later_W R h fun w1 H1 v x S1 l R1 r h1 => ?_⟩
  cases z : tru S1 x.d with
  | none => simp only [z] at h1; exact h1.elim
  | some k => simp only [z] at h1; exact ⟨k, rv_tru R1 r z, h1 w1 H1 _ Le.refl R1 (.bl _)⟩
theorem ev_ite {G : GX} {cur : Cur} {c a b : CE} {ρ : Env} {S : Store} : ev G cur (.ite c a b) ρ S = (evT G cur c ρ S).bind fun k S => if k then ev G cur a ρ S else ev G cur b ρ S := by
  unfold evT
  simp only [ev, bind_assoc]
  cases ev G cur c ρ S with
  | ok x S1 =>
    show (match tru S1 x.d with
      | some true => ev G cur a ρ S1
      | some false => ev G cur b ρ S1
      | none => DW.R.bad "truth") = (R.opt "truth" (tru S1 x.d) S1).bind _
    cases z : tru S1 x.d with
    | none => rfl
    | some k => cases k <;> rfl
  | exc c d S1 => rfl
  | bad z => rfl
theorem sim_ite {c a b : Expr} {cc ca cb : CE} {pos : Pos} (hc : PT X c (tT X.K Γ cc)) (ha : PE X a (tE X.K Γ ca)) (hb : PE X b (tE X.K Γ cb)) : PE X (.IfExp c a b pos) (tE X.K Γ (.ite cc ca cb)) := by
  refine PE.weak (pe_ifExp hc ha hb) fun σ H Q h => ?_
  obtain ⟨w, ρ, S, R, E, h⟩ := h
  rw [ev_ite] at h
  refine ⟨w, ρ, S, R, E, PG.bindB later_W h fun w1 H1 k S1 l R1 h1 => ?_⟩
  cases k with
  | true => rw [if_pos rfl]; exact ⟨w1, ρ, S1, R1, E.mono l, h1⟩
  | false => rw [if_neg Bool.false_ne_true]; exact ⟨w1, ρ, S1, R1, E.mono l, h1⟩
end
end DW
end

section
set_option Elab.async false
set_option linter.all false
set_option maxRecDepth 100000
set_option maxHeartbeats 4000000
namespace DW
open PySem PySem.Spec PyProof.Rows L2

section
variable {K : PySem.W.Frag} {w w' : Wd} {H H' : Hp} {S : Store} {a p : Addr}

theorem Le.chg (h : a ∈ w.α) {u : HO} : Le w H w (upd H a u) := ⟨⟨[], by simp⟩, rfl, fun _ h => .inl h, fun b o e n => by rw [upd_ne (fun z => n (by rw [z]; exact h))]; exact e⟩
theorem nodup_at {l : List Addr} (nd : l.Nodup) {i j : Nat} (hi : l[i]? = some a) (hj : l[j]? = some a) : i = j :=
  (List.getElem?_inj (List.getElem?_eq_some_iff.mp hi).1 nd).mp (hi.trans hj.symm)
theorem Rel.chg (R : Rel K w H S) {n : Nat} {o : Ob} {u : HO} (hn : w.α[n]? = some a) (ro : RO K w (upd H a u) a o) : Rel K w (upd H a u) (S.set n o) := by
  have hm : a ∈ w.α := List.mem_of_getElem? hn
  refine ⟨by rw [List.length_set]; exact R.len, R.nd, fun b hb => ?_, fun i b o' h q => ?_⟩
  · obtain ⟨nb, o', e⟩ := R.av b hb
    exact ⟨nb, o', by rw [upd_ne (fun z => nb (by rw [z]; exact hm))]; exact e⟩
  · by_cases hi : n = i
    · subst hi
      have e : a = b := Option.some.inj (hn.symm.trans h)
      subst e
      have hl : n < S.length := by rw [← R.len]; exact (List.getElem?_eq_some_iff.mp hn).1
      rw [List.getElem?_set_self hl] at q
      cases q
      exact ro
    · rw [List.getElem?_set_ne hi] at q
      have nb : b ≠ a := fun z => hi (nodup_at R.nd hn (by rw [← z]; exact h))
      exact (R.ob i b o' h q).map (fun x e => by rw [upd_ne nb]; exact e) (fun _ _ => RV.mono (Le.chg hm)) fun _ _ => RVs.mono (Le.chg hm)

theorem Frz.upd (h : Frz K w H a vs) (nf : ∀ o u, H p ≠ some (.frz o u)) {u : HO} : Frz K w (upd H p u) a vs := by
  rcases h with ⟨n, o, e⟩ | h
  · exact .inl ⟨n, o, by rw [upd_ne (fun z => nf o _ (by rw [← z]; exact e))]; exact e⟩
  · exact .inr h
mutual
theorem RV.updA (nf : ∀ o u, H p ≠ some (.frz o u)) {u : HO} : ∀ {v : V} {d : D}, RV K (w.plus p) H v d → RV K (w.plus p) (upd H p u) v d
  | _, _, .non => .non
  | _, _, .bl b => .bl b
  | _, _, .int i => .int i
  | _, _, .str x => .str x
  | _, _, .tup h n m r => .tup (by rw [upd_ne (fun z => m (by rw [z]; exact List.mem_cons_self))]; exact h) n m (RVs.updA nf r)
  | _, _, .lst h n m r => .lst (by rw [upd_ne (fun z => m (by rw [z]; exact List.mem_cons_self))]; exact h) n m (RVs.updA nf r)
  | _, _, .frz h r => .frz (Frz.upd (w := w.plus p) h nf) (RVs.updA nf r)
  | _, _, .ref h => .ref h
theorem RVs.updA (nf : ∀ o u, H p ≠ some (.frz o u)) {u : HO} : ∀ {vs : List V} {ds : List D}, RVs K (w.plus p) H vs ds → RVs K (w.plus p) (upd H p u) vs ds
  | _, _, .nil => .nil
  | _, _, .cons h r => .cons (RV.updA nf h) (RVs.updA nf r)
end
theorem Rel.updA (R : Rel K (w.plus p) H S) (nf : ∀ o u, H p ≠ some (.frz o u)) {u : HO} : Rel K (w.plus p) (upd H p u) S := by
  have np : p ∉ w.α := (R.av p List.mem_cons_self).1
  refine ⟨R.len, R.nd, fun b hb => ?_, fun i b o h q => ?_⟩
  · obtain ⟨nb, o, e⟩ := R.av b hb
    by_cases z : b = p
    · subst z; exact ⟨nb, u, upd_same⟩
    · exact ⟨nb, o, by rw [upd_ne z]; exact e⟩
  · have nb : b ≠ p := fun z => np (by rw [← z]; exact List.mem_of_getElem? h)
    exact (R.ob i b o h q).map (fun x e => by rw [upd_ne nb]; exact e) (fun _ _ => RV.updA nf) fun _ _ => RVs.updA nf

theorem Le.unplus (l : Le (w.plus p) (upd H p u) w' H') (e : H p = none) : ∃ w'', w' = w''.plus p ∧ Le w H w'' H' := by
  refine ⟨⟨w'.α, w.av⟩, ?_, l.pre, rfl, fun a h => ?_, fun a o h n => l.keep a o (by rw [upd_ne (ne_of_none h e)]; exact h) n⟩
  · have := l.av
    cases w'; cases this; rfl
  · rcases l.fresh a h with q | q
    · exact .inl q
    · by_cases z : a = p
      · subst z; exact .inr e
      · rw [upd_ne z] at q; exact .inr q
end

section
variable {X : Cx} {Γ : Ctx}

def starOk : Expr → Bool
  | .Starred _ _ => false
  | _ => true
theorem star_each {e : Expr} (h : starOk e = true) (es : List Expr) (env : PySem.Env) : starEach (e :: es) env = (false, eval e env) :: starEach es env := by
  cases e <;> first | rfl | cases h
theorem simA_nil : PA X [] (tA X.K Γ .nil) := PA.weak pa_nil fun σ H Q ⟨w, ρ, S, R, E, q⟩ => q w H [] Le.refl R .nil
theorem simA_cons {e : Expr} {es : List Expr} {c : CE} {cs : CEs} (ha : PE X e (tE X.K Γ c)) (hr : PA X es (tA X.K Γ cs)) (hs : starOk e = true) : PA X (e :: es) (tA X.K Γ (.cons c cs)) :=
  PA.weak (pa_cons ha hr (star_each hs _ _)) fun σ H Q ⟨w, ρ, S, R, E, q⟩ => ⟨w, ρ, S, R, E, PG.bindW later_L R q fun w1 H1 v x S1 l R1 r h1 =>
    ⟨w1, ρ, S1, R1, E.mono l, PG.bindL later_L h1 fun w2 H2 vs ds S2 m R2 rs h2 => h2 w2 H2 (v :: vs) Le.refl R2 (.cons (r.mono m) rs)⟩⟩
theorem sim_tup {es : List Expr} {cs : CEs} {x1} {pos : Pos} (h : PA X es (tA X.K Γ cs)) : PE X (.Tuple es x1 pos) (tE X.K Γ (.tup cs)) := by
  refine PE.weak (pe_tup h) fun σ H Q h => ?_
  obtain ⟨w, ρ, S, R, E, h⟩ := h
  refine ⟨w, ρ, S, R, E, PG.bindL later_W h fun w1 H1 vs ds S1 l R1 rs h1 => ?_⟩
  by_cases hz : ds.length ≤ LINE
  · rw [if_pos hz] at h1
    exact ⟨by rw [rs.length, sizeLine_LINE]; exact hz, fun p e => PW.newT R1 h1 e rs⟩
  · rw [if_neg hz] at h1; exact h1.elim
theorem sim_lst {es : List Expr} {cs : CEs} {pos : Pos} (h : PA X es (tA X.K Γ cs)) : PE X (.List es pos) (tE X.K Γ (.lst cs)) := by
  refine PE.weak (pe_lst h) fun σ H Q h => ?_
  obtain ⟨w, ρ, S, R, E, h⟩ := h
  refine ⟨w, ρ, S, R, E, PG.bindL later_W h fun w1 H1 vs ds S1 l R1 rs h1 => ?_⟩
  by_cases hz : ds.length ≤ LINE
  · rw [if_pos hz] at h1
    exact ⟨by rw [rs.length, sizeLine_LINE]; exact hz, fun p e => PW.newL R1 h1 e rs⟩
  · rw [if_neg hz] at h1; exact h1.elim

theorem PW.toRef {K : PySem.W.Frag} {fld : Nat → Str} {w : Wd} {H : Hp} {Q : VK} {E : XC} {S₀ : Store} (R₀ : Rel K w H S₀) {xs : List D} {S : Store} (h : PW K fld w H Q E (.ok (.val (.ref S.length)) (S ++ [.lst xs]))) : PW K fld w H Q E (.ok (.new xs) S) := by
  intro w' H' p vs l e n q R r
  have na : p ∉ w'.av := by rw [l.av]; exact R₀.noav e
  refine h (w'.snoc p) H' (.ref p) (l.snoc e) (R.snoc n na q r) (.ref ?_)
  show (w'.α ++ [p])[S.length]? = some p
  have hl : w'.α.length = S.length := R.len
  rw [List.getElem?_append_right (by omega), ← hl, Nat.sub_self]
  rfl
theorem sim_new {e : Expr} {c : CE} (h : PE X e (tE X.K Γ c)) : PE X e (tE X.K Γ (.new c)) := by
  refine PE.weak h fun σ H Q h => ?_
  obtain ⟨w, ρ, S, R, E, h⟩ := h
  refine ⟨w, ρ, S, R, E, ?_⟩
  unfold ev at h
  cases q : ev Γ.G Γ.cur c ρ S with
  | ok x S1 =>
    rw [q] at h
    cases x with
    | val d => exact h.elim
    | new xs => exact PW.toRef R h
  | exc c d S1 => rw [q] at h; exact h
  | bad z => rw [q] at h; exact h

theorem sim_ix {a b : Expr} {ca cb : CE} {pos : Pos} (hu : X.A.units + 65 < cLine) (ha : PE X a (tE X.K Γ ca)) (hb : PE X b (tE X.K Γ cb)) (hs : PlainIx b) : PE X (.Subscript a b pos) (tE X.K Γ (.ix ca cb)) := by
  refine PE.weak (pe_ix (ix_S (fld := Γ.G.fld) hu) ha hb hs) fun σ H Q h => ?_
  obtain ⟨w, ρ, S, R, E, h⟩ := h
  refine ⟨w, ρ, S, R, E, PG.bindW later_W R h fun w1 H1 v x S1 l R1 r h1 => ⟨w1, ρ, S1, R1, E.mono l, PG.bindW later_W R1 h1 fun w2 H2 u y S2 m R2 q h2 => ?_⟩⟩
  cases z : (ixD S2 x.d y.d).map WV.val with
  | none => rw [z] at h2; exact h2.elim
  | some k => rw [z] at h2; exact ⟨w2, S2, x.d, y.d, k, R2, r.mono m, q, z, h2⟩

theorem simO_none {K : PySem.W.Frag} {G : GX} {cur : Cur} {ρ : DW.Env} {S : Store} : ev G cur (.cst .non) ρ S = .ok (.val .non) S := rfl
def tO (K : PySem.W.Frag) (Γ : Ctx) (c : CE) : TO := fun σ H Q => ∃ (w : Wd) (ρ : DW.Env) (S : Store), Rel K w H S ∧ RE K Γ w H σ ρ ∧
  PG K Γ.G.fld (fun w H (o : Option Int) S => ∀ (w' : Wd) (H' : Hp), Le w H w' H' → Rel K w' H' S → Q o H') w H (Γ.E σ) ((ev Γ.G Γ.cur c ρ S).bind fun x S => .opt "slice" (partOf c x.d) S)
theorem PO.weak {e : Option Expr} {t t' : TO} (h : PO X e t) (f : ∀ σ H Q, t' σ H Q → t σ H Q) : PO X e t' := ⟨fun pins s σ H Q I q => h.run pins s σ H Q I (f σ H Q q)⟩
theorem simO_non : PO X none (tO X.K Γ (.cst .non)) := PO.weak po_none fun σ H Q ⟨w, ρ, S, R, E, h⟩ => h w H Le.refl R
theorem later_O {K : PySem.W.Frag} {Q : Option Int → Hp → Prop} : Later (fun w H (o : Option Int) S => ∀ (w' : Wd) (H' : Hp), Le w H w' H' → Rel K w' H' S → Q o H') := ⟨fun _ _ _ _ _ _ l h w2 H2 m => h w2 H2 (l.trans m)⟩
theorem simO_some {e : Expr} {c : CE} (h : PE X e (tE X.K Γ c)) (hc : noPart c = false) : PO X (some e) (tO X.K Γ c) := by
  refine PO.weak (po_some h) fun σ H Q h => ?_
  obtain ⟨w, ρ, S, R, E, h⟩ := h
  refine ⟨w, ρ, S, R, E, PG.bindW later_O R h fun w1 H1 v x S1 l R1 r h1 => ?_⟩
  unfold partOf at h1
  rw [if_neg (by rw [hc]; exact Bool.false_ne_true)] at h1
  cases e : x.d with
  | int i =>
    rw [e] at r h1
    cases r
    exact ⟨i, rfl, h1 w1 H1 Le.refl R1⟩
  | _ => rw [e] at h1; exact h1.elim
theorem PG.bindO {K : PySem.W.Frag} {fld : Nat → Str} {w : Wd} {H : Hp} {E : XC} {γ : Type} {T : Wd → Hp → γ → Store → Prop} (t : Later T) {r : DW.R (Option Int)} {k : Option Int → Store → DW.R γ} {Q : Option Int → Hp → Prop} (h : PG K fld T w H E (r.bind k))
    (hk : ∀ (w' : Wd) (H' : Hp) (b : Option Int) (S : Store), Le w H w' H' → Rel K w' H' S → PG K fld T w' H' E (k b S) → Q b H') : PG K fld (fun w H (o : Option Int) S => ∀ (w' : Wd) (H' : Hp), Le w H w' H' → Rel K w' H' S → Q o H') w H E r := by
  cases r with
  | ok d S => exact fun w' H' l R => hk w' H' d S l R (PG.base t l h)
  | exc c d S => exact h
  | bad s => exact h
theorem ev_sl {G : GX} {cur : Cur} {a lo hi : CE} {ρ : DW.Env} {S : Store} : ev G cur (.sl a lo hi) ρ S = (ev G cur a ρ S).bind fun x S => ((ev G cur lo ρ S).bind fun l S => .opt "slice" (partOf lo l.d) S).bind fun l S =>
    ((ev G cur hi ρ S).bind fun h S => .opt "slice" (partOf hi h.d) S).bind fun h S => .opt "slice" (slD S x.d l h) S := by
  rw [ev]
theorem sim_sl {e : Expr} {lo hi : Option Expr} {ca cl ch : CE} {p2 pos : Pos} (ha : PE X e (tE X.K Γ ca)) (hl : PO X lo (tO X.K Γ cl)) (hh : PO X hi (tO X.K Γ ch)) : PE X (.Subscript e (.Slice lo hi none p2) pos) (tE X.K Γ (.sl ca cl ch)) := by
  refine PE.weak (pe_slice (sl_S (fld := Γ.G.fld)) ha hl hh) fun σ H Q h => ?_
  obtain ⟨w, ρ, S, R, E, h⟩ := h
  rw [ev_sl] at h
  refine ⟨w, ρ, S, R, E, PG.bindW later_W R h fun w1 H1 v x S1 l R1 r h1 => ⟨w1, ρ, S1, R1, E.mono l, PG.bindO later_W h1 fun w2 H2 lo S2 m R2 h2 => ⟨w2, ρ, S2, R2, E.mono (l.trans m), PG.bindO later_W h2 fun w3 H3 hi S3 n R3 h3 => ?_⟩⟩⟩
  cases z : slD S3 x.d lo hi with
  | none => rw [z] at h3; exact h3.elim
  | some k => rw [z] at h3; exact ⟨w3, S3, x.d, k, R3, (r.mono m).mono n, z, h3⟩
end
end DW
end

section
set_option Elab.async false
set_option linter.all false
set_option maxRecDepth 100000
set_option maxHeartbeats 4000000
namespace DW
open PySem PySem.Spec PyProof.Rows L2

section
variable {K : PySem.W.Frag} {w w' : Wd} {H H' : Hp} {S : Store} {a p : Addr}
theorem Rel.snocO (R : Rel K (w.plus p) H S) {o : Ob} (n : p ∉ w.α) (npav : p ∉ w.av) (hp : ∀ o u, H p ≠ some (.frz o u)) (ro : RO K (w.snoc p) H p o) : Rel K (w.snoc p) H (S ++ [o]) := by
  refine ⟨by show (w.α ++ [p]).length = _; rw [List.length_append, List.length_append, show w.α.length = S.length from R.len] <;> rfl, ?_, fun b hb => ?_, fun i a o' h q => ?_⟩
  · show (w.α ++ [p]).Nodup
    rw [List.nodup_append]
    exact ⟨R.nd, by simp, fun x hx y hy z => n (by rw [← List.mem_singleton.mp hy, ← z]; exact hx)⟩
  · obtain ⟨n', z⟩ := R.av b (List.mem_cons_of_mem _ hb)
    exact ⟨fun hm => (List.mem_append.mp hm).elim n' fun q => npav (by rw [← List.mem_singleton.mp q]; exact hb), z⟩
  · have hl : w.α.length = S.length := R.len
    by_cases hi : i < w.α.length
    · have h' : w.α[i]? = some a := by rw [← List.getElem?_append_left (l₂ := [p]) hi]; exact h
      have q' : S[i]? = some o' := by rw [← List.getElem?_append_left (l₂ := [o]) (by omega)]; exact q
      exact (R.ob i a o' h' q').map (fun _ z => z) (fun _ _ => RV.snoc hp) fun _ _ => RVs.snoc hp
    · have h1 : (w.α ++ [p])[i]? = some a := h
      rw [List.getElem?_append_right (by omega)] at h1
      rw [List.getElem?_append_right (by omega)] at q
      have e1 : i - w.α.length = 0 := by
        cases hz : i - w.α.length with
        | zero => rfl
        | succ k => rw [hz] at h1; simp at h1
      have e2 : i - S.length = 0 := by omega
      rw [e1] at h1
      rw [e2] at q
      simp at h1 q
      subst h1 q
      exact ro
theorem snoc_at (R : Rel K (w.plus p) H S) : (w.snoc p).α[S.length]? = some p := by
  show (w.α ++ [p])[S.length]? = some p
  have hl : w.α.length = S.length := R.len
  rw [List.getElem?_append_right (by omega), ← hl, Nat.sub_self]
  rfl

theorem RE.plus {Γ : Ctx} {σ : L2.St} {ρ : DW.Env} (E : RE K Γ w H σ ρ) (e : H p = none) {u : HO} : RE K Γ (w.plus p) (upd H p u) σ ρ :=
  ⟨E.len, fun i d h n => let ⟨v, q, r⟩ := E.val i d h n; ⟨v, q, (RV.plus e r).mono (Le.new e).plus⟩, E.ex, fun c d h => let ⟨dd, x, a, b, n, r⟩ := E.held c d h; ⟨dd, x, a, by rw [upd_ne (ne_of_none b e)]; exact b, n, (RV.plus e r).mono (Le.new e).plus⟩⟩

theorem PG.unplus {γ : Type} {fld : Nat → Str} {E : XC} {T T' : Wd → Hp → γ → Store → Prop} {r : DW.R γ} (e : H p = none) {u : HO} (h : PG K fld T w H E r) (hT : ∀ a S, T w H a S → T' (w.plus p) (upd H p u) a S) : PG K fld T' (w.plus p) (upd H p u) E r := by
  cases r with
  | ok a S => exact hT a S h
  | exc c d S => intro w' H' dd x l R' hd ru; obtain ⟨w'', rfl, l'⟩ := l.unplus e; exact h w'' H' dd x l' R'.weak hd ru.weak
  | bad s => exact h
end

section
variable {X : Cx} {Γ : Ctx}

def cstsOf : List D → CEs
  | [] => .nil
  | d :: ds => .cons (.cst d) (cstsOf ds)
theorem evs_csts {G : GX} {cur : Cur} {ρ : DW.Env} {S : Store} : ∀ ks : List D, evs G cur (cstsOf ks) ρ S = .ok ks S
  | [] => rfl
  | d :: ds => by
    show (DW.R.ok (WV.val d) S).bind _ = _
    show ((evs G cur (cstsOf ds) ρ S).bind _) = _
    rw [evs_csts ds]; rfl

inductive DP (X : Cx) (Γ : Ctx) : List (Option Expr) → List Expr → List Key → CEs → List (TE × TE) → Prop
  | nil : DP X Γ [] [] [] .nil []
  | cons {k v : Expr} {q : Key} {c : CE} {ks : List (Option Expr)} {vs : List Expr} {qs : List Key} {cs : CEs} {trs : List (TE × TE)} : PE X k (tC (kV q)) → PE X v (tE X.K Γ c) → DP X Γ ks vs qs cs trs → DP X Γ (some k :: ks) (v :: vs) (q :: qs) (.cons c cs) ((tC (kV q), tE X.K Γ c) :: trs)
theorem DP.pps {pos : Pos} {ks : List (Option Expr)} {vs : List Expr} {qs : List Key} {cs : CEs} {trs : List (TE × TE)} (h : DP X Γ ks vs qs cs trs) : PPs X pos ks vs trs := by
  induction h with
  | nil => exact pps_nil
  | cons hk hv _ ih => exact pps_cons hk hv ih
theorem DP.shape {ks : List (Option Expr)} {vs : List Expr} {qs : List Key} {cs : CEs} {trs : List (TE × TE)} (h : DP X Γ ks vs qs cs trs) : ks.all (·.isSome) = true ∧ ks.length = vs.length ∧ ks.length = qs.length := by
  induction h with
  | nil => exact ⟨rfl, rfl, rfl⟩
  | cons hk hv _ ih => exact ⟨by rw [List.all_cons, ih.1]; rfl, by rw [List.length_cons, List.length_cons, ih.2.1], by rw [List.length_cons, List.length_cons, ih.2.2]⟩
theorem DP.run {ks : List (Option Expr)} {vs : List Expr} {qs : List Key} {cs : CEs} {trs : List (TE × TE)} (h : DP X Γ ks vs qs cs trs) : ∀ {σ : L2.St} {H : Hp} {Q : List (V × V) → Hp → Prop} {w : Wd} {ρ : DW.Env} {S : Store}, Rel X.K w H S → RE X.K Γ w H σ ρ →
    PG X.K Γ.G.fld (TL X.K (fun vs H => Q ((qs.map kV).zip vs) H)) w H (Γ.E σ) (evs Γ.G Γ.cur cs ρ S) → tPairs trs σ H Q := by
  induction h with
  | nil => intro σ H Q w ρ S R E h; exact h w H [] Le.refl R .nil
  | cons hk hv _ ih =>
    intro σ H Q w ρ S R E h
    refine ⟨w, ρ, S, R, E, PG.bindW later_L R h fun w1 H1 v x S1 l R1 r h1 => ih R1 (E.mono l) (PG.bindL later_L h1 fun w2 H2 vs ds S2 m R2 rs h2 => h2 w2 H2 (v :: vs) Le.refl R2 (.cons (r.mono m) rs))⟩
theorem length_zipKV {qs : List Key} {vs : List V} (h : qs.length = vs.length) : (qs.map kV).zip vs = (qs.zip vs).map fun kv => (kV kv.1, kv.2) := by
  induction qs generalizing vs with
  | nil => rfl
  | cons q qs ih =>
    cases vs with
    | nil => rfl
    | cons v vs => simp only [List.map_cons, List.zip_cons_cons]; rw [ih (by simpa using h)]
theorem merge_rv {K : PySem.W.Frag} {w : Wd} {H : Hp} : ∀ {qs : List Key} {vs : List V} {ds : List D} {acc : List (Key × V)} {acd : List (D × D)}, RVs K w H vs ds → Paired (fun (p : Key × V) (q : D × D) => keyD p.1 = q.1 ∧ RV K w H p.2 q.2) acc acd →
    Paired (fun (p : Key × V) (q : D × D) => keyD p.1 = q.1 ∧ RV K w H p.2 q.2) (mergeK acc (qs.zip vs)) (((qs.map keyD).zip ds).foldl (fun acc kv => dput acc kv.1 kv.2) acd)
  | [], vs, ds, acc, acd, r, h => by cases r <;> exact h
  | q :: qs, _, _, acc, acd, .nil, h => h
  | q :: qs, _, _, acc, acd, .cons r rs, h => merge_rv (qs := qs) rs (put_rv keyD_inj h q r)
theorem sim_dct {pos : Pos} {ks : List (Option Expr)} {vs : List Expr} {qs : List Key} {cs : CEs} {trs : List (TE × TE)} (h : DP X Γ ks vs qs cs trs) (h0 : ks ≠ []) (h15 : ks.length ≤ 15) : PE X (.Dict ks vs pos) (tE X.K Γ (.dct false (cstsOf (qs.map keyD)) cs)) := by
  obtain ⟨s1, s2, s3⟩ := h.shape
  refine PE.weak (pe_disp (h.pps (pos := pos)) s1 s2 h0 h15) fun σ H Q hh => ?_
  obtain ⟨w, ρ, S, R, E, hh⟩ := hh
  intro p e
  refine h.run (R.plus e) (E.plus e) ?_
  have hh' : PG X.K Γ.G.fld (TW X.K Q) w H (Γ.E σ) ((evs Γ.G Γ.cur cs ρ S).bind fun ys S => if (qs.map keyD).all (keyOk false) && decide ((qs.map keyD).length = ys.length) && decide ((qs.map keyD).length ≤ 15) then .ok (.val (.ref S.length)) (S ++ [.dct false (((qs.map keyD).zip ys).foldl (fun acc kv => dput acc kv.1 kv.2) [])]) else .bad "dict") := by
    have := hh
    unfold PW at this
    rw [ev, evs_csts] at this
    exact this
  have h2 : PG X.K Γ.G.fld (TL X.K fun vs H2 => H2 p = some (.dK []) ∧ ∃ kvs : List (Key × V), (qs.map kV).zip vs = kvs.map (fun kv => (kV kv.1, kv.2)) ∧ kvs.length ≤ 15 ∧ Q (.ref p) (upd H2 p (.dK (mergeK [] kvs)))) (w.plus p) (upd H p (.dK [])) (Γ.E σ) (evs Γ.G Γ.cur cs ρ S) := by
    cases q : evs Γ.G Γ.cur cs ρ S with
    | ok ys S1 =>
      rw [q] at hh'
      intro w' H' us l R' rs
      obtain ⟨w'', rfl, l'⟩ := l.unplus e
      have hk : H' p = some (.dK []) := l.keep p _ upd_same (R.off e)
      have nf : ∀ o u, H' p ≠ some (.frz o u) := fun o u z => by rw [hk] at z; cases z
      change PG X.K Γ.G.fld (TW X.K Q) w H (Γ.E σ) (if _ then _ else _) at hh'
      split at hh'
      · rename_i hc
        simp only [Bool.and_eq_true, decide_eq_true_eq, List.length_map] at hc
        have hl : qs.length = us.length := by rw [rs.length]; exact hc.1.2
        have hz : (qs.zip us).length ≤ 15 := by rw [List.length_zip]; omega
        refine ⟨hk, qs.zip us, length_zipKV hl, hz, ?_⟩
        have n1 : p ∉ w''.α := (R'.av p List.mem_cons_self).1
        have n2 : p ∉ w''.av := by rw [l'.av]; exact R.noav e
        have lc : Le w H w'' (upd H' p (.dK (mergeK [] (qs.zip us)))) := ⟨l'.pre, l'.av, l'.fresh, fun b o hb nb => by rw [upd_ne (ne_of_none hb e)]; exact l'.keep b o hb nb⟩
        have R2 := R'.updA nf (u := .dK (mergeK [] (qs.zip us)))
        have hp : ∀ o u, upd H' p (.dK (mergeK [] (qs.zip us))) p ≠ some (.frz o u) := fun o u z => by rw [upd_same] at z; cases z
        refine hh' (w''.snoc p) _ (.ref p) (lc.snoc e) (R2.snocO n1 n2 hp ⟨_, upd_same, ?_⟩) (.ref (snoc_at R2))
        exact merge_rv (RVs.snoc hp (RVs.updA nf rs)) .nil
      · exact hh'.elim
    | exc c d S1 => rw [q] at hh'; exact PG.unplus (T := fun _ _ _ _ => False) (r := .exc c d S1) e hh' (fun _ _ z => z.elim)
    | bad z => rw [q] at hh'; exact hh'
  exact h2
theorem sim_dct0 {pos : Pos} {t : Bool} : PE X (.Dict [] [] pos) (tE X.K Γ (.dct t .nil .nil)) := by
  cases t with
  | false =>
    refine PE.weak pe_dnewK fun σ H Q h p e => ?_
    obtain ⟨w, ρ, S, R, E, h⟩ := h
    have R2 := R.plus (u := .dK []) e
    have hp : ∀ o u, upd H p (.dK []) p ≠ some (.frz o u) := fun o u z => by rw [upd_same] at z; cases z
    exact h (w.snoc p) _ (.ref p) ((Le.new e).snoc e) (R2.snocO (R.off e) (R.noav e) hp ⟨[], upd_same, .nil⟩) (.ref (snoc_at R2))
  | true =>
    refine PE.weak pe_dnewT fun σ H Q h p e => ?_
    obtain ⟨w, ρ, S, R, E, h⟩ := h
    have R2 := R.plus (u := .dT []) e
    have hp : ∀ o u, upd H p (.dT []) p ≠ some (.frz o u) := fun o u z => by rw [upd_same] at z; cases z
    exact h (w.snoc p) _ (.ref p) ((Le.new e).snoc e) (R2.snocO (R.off e) (R.noav e) hp ⟨[], upd_same, .nil⟩) (.ref (snoc_at R2))


theorem plain_back {e : Expr} {pos : Pos} : ∀ (es : List Expr) (env : PySem.Env), es.all starOk = true → (backTo pos (starEach es env)).any (·.1) = false
  | [], env, _ => rfl
  | e :: es, env, h => by
    rw [List.all_cons, Bool.and_eq_true] at h
    rw [star_each h.1]
    show (false || (backTo pos (starEach es env)).any (·.1)) = false
    rw [plain_back (e := e) es env h.2]; rfl
theorem bind_biW {K : PySem.W.Frag} {fld : Nat → Str} {w : Wd} {H : Hp} {Q : VK} {E E' : XC} {o : Option WV} {s : String} {S : Store} (h : PW K fld w H Q E (R.opt s o S)) : ∃ z, o = some z ∧ PW K fld w H Q E' (.ok z S) := by
  cases o with
  | none => exact h.elim
  | some z => exact ⟨z, rfl, h⟩
theorem sim_bi {x : Str} {b : BI} {e : Expr} {es : List Expr} {cs : CEs} {p pos : Pos} (hc : X.calm = true) (hg : Gl X x) (hm : X.mg x = none) (hv : bootBuiltins x = some (biId b)) (hn : x ≠ "__name__") (hdb : (x == ("__debug__" : Str)) = false)
    (ha : PA X (e :: es) (tA X.K Γ cs)) (hs : (e :: es).all starOk = true) : PE X (.Call (.Name x p) (e :: es) [] pos) (tE X.K Γ (.bi b cs)) := by
  have key : PE X (.Call (.Name x p) (e :: es) [] pos) (tCB (rBi X.K Γ.G.fld fun S ds => biD S b ds) (tA X.K Γ cs)) := by
    have h1 : starOk e = true := by rw [List.all_cons, Bool.and_eq_true] at hs; exact hs.1
    have h2 : es.all starOk = true := by rw [List.all_cons, Bool.and_eq_true] at hs; exact hs.2
    have cb := call_bi (fld := Γ.G.fld) b hc
    have hv' := hv
    cases b <;> first
      | exact pe_callB cb hg hm hv' ha hn hdb (star_each h1 es X.env) (plain_back (e := e) es X.env h2)
      | exact pe_callTy cb hg hm hv' ha hn hdb (star_each h1 es X.env) (plain_back (e := e) es X.env h2)
  refine PE.weak key fun σ H Q h => ?_
  obtain ⟨w, ρ, S, R, E, h⟩ := h
  refine ⟨w, ρ, S, R, E, PG.bindL later_W h fun w1 H1 vs ds S1 l R1 rs h1 => ?_⟩
  obtain ⟨z, hz, hq⟩ := bind_biW (E' := fun _ _ _ => False) h1
  exact ⟨w1, S1, ds, z, R1, rs, hz, hq⟩
theorem sim_isi {t : Str} {T : String} {a : Expr} {ca : CE} {p p2 pos : Pos} (hT : T ∈ tyL) (hg : Gl X "isinstance") (hm : X.mg "isinstance" = none) (hgt : Gl X t) (hmt : X.mg t = none) (hv : bootBuiltins t = some (.type T)) (hn : t ≠ "__name__") (hdb : (t == ("__debug__" : Str)) = false)
    (ha : PE X a (tE X.K Γ ca)) (hs : starOk a = true) : PE X (.Call (.Name "isinstance" p) [a, .Name t p2] [] pos) (tE X.K Γ (.isi ca T)) := by
  have pa : PA X [a, .Name t p2] (tCons (tE X.K Γ ca) (tCons (tC (.ty T)) tNil)) := pa_cons ha (pa_cons (pe_bltn hgt hmt hv rfl hn hdb) pa_nil (star_each rfl _ _)) (star_each hs _ _)
  refine PE.weak (pe_callB (call_isiS T hT) hg hm rfl pa (by decide) (by decide) (star_each hs _ _) (plain_back (e := a) _ _ rfl)) fun σ H Q h => ?_
  obtain ⟨w, ρ, S, R, E, h⟩ := h
  refine ⟨w, ρ, S, R, E, PG.bindW later_W R h fun w1 H1 v x S1 l R1 r h1 => ?_⟩
  obtain ⟨z, hz, hq⟩ := bind_biW (E' := fun _ _ _ => False) h1
  obtain ⟨k, hk, rfl⟩ := Option.map_eq_some_iff.mp hz
  exact ⟨v, w1, S1, x.d, k, rfl, R1, r, hk, hq w1 H1 _ Le.refl R1 (.bl _)⟩

inductive MtAt : Mt → Str → String → String → Prop
  | split : MtAt .split "split" "str" "str.split"
  | join : MtAt .join "join" "str" "str.join"
  | index : MtAt .index "index" "list" "list.index"
  | index2 : MtAt .index2 "index" "list" "list.index"
  | count : MtAt .count "count" "list" "list.count"
theorem few_back {e : Expr} {es : List Expr} {env : PySem.Env} {pos : Pos} (h : (e :: es).all starOk = true) (hl : es.length < 20) : ((backTo pos (starEach (e :: es) env)).all (fun x => !x.1) && (backToKw pos (keywordEach [] env)).all (fun x => x.1.isSome)
      && decide ((e :: es).length + ([] : List Keyword).length + (if ([] : List Keyword).isEmpty then 0 else 1) < 30)) = true := by
  have h1 : (backTo pos (starEach (e :: es) env)).all (fun x => !x.1) = true := by
    have := plain_back (e := e) (pos := pos) (e :: es) env h
    rw [← Bool.not_eq_true, List.any_eq_true] at this
    rw [List.all_eq_true]
    intro x hx
    cases q : x.1 with
    | false => rfl
    | true => exact absurd ⟨x, hx, q⟩ this
  rw [h1]
  show (true && true && decide _) = true
  simp only [Bool.true_and, decide_eq_true_eq, List.length_cons, List.length_nil, List.isEmpty_nil, if_true]
  omega
theorem tyV_lst {K : PySem.W.Frag} {w : Wd} {H : Hp} {S : Store} {v : V} {d : D} (R : Rel K w H S) (r : RV K w H v d) (h : (lstOf S d).isSome = true) : tyV K "list" v H := by
  obtain ⟨xs, hx⟩ := Option.isSome_iff_exists.mp h
  obtain ⟨a, vs, rfl, hh, _⟩ := rv_lst R r hx
  exact .inl ⟨rfl, vs, .inl (.inl hh)⟩
theorem rcv_ty {K : PySem.W.Frag} {w : Wd} {H : Hp} {S : Store} {v : V} {d : D} {m : Mt} {name : Str} {T id : String} (hm : MtAt m name T id) (R : Rel K w H S) (r : RV K w H v d) (h : rcvOk S m d = true) : tyV K T v H := by
  cases hm with
  | split => cases r <;> first | rfl | cases h
  | join => cases r <;> first | rfl | cases h
  | index => exact tyV_lst R r h
  | index2 => exact tyV_lst R r h
  | count => exact tyV_lst R r h
theorem sim_mt {m : Mt} {name : Str} {T id : String} {o e : Expr} {es : List Expr} {co : CE} {cs : CEs} {apos cpos : Pos} (hm : MtAt m name T id) (ho : PE X o (tE X.K Γ co)) (ha : PA X (e :: es) (tA X.K Γ cs)) (hs : (e :: es).all starOk = true) (hl : es.length < 20)
    (hbase : attributeBase o name X.env (eval o X.env) = eval o X.env) (hline : (apos.endLine == cpos.line) = true) : PE X (.Call (.Attribute o name apos) (e :: es) [] cpos) (tE X.K Γ (.mt m co cs)) := by
  have key : PE X (.Call (.Attribute o name apos) (e :: es) [] cpos) (tBM X.K T (rMt X.K Γ.G.fld fun S d ds => mtD S m d ds) (tE X.K Γ co) (tA X.K Γ cs)) := by
    have h1 : starOk e = true := by rw [List.all_cons, Bool.and_eq_true] at hs; exact hs.1
    have h2 : es.all starOk = true := by rw [List.all_cons, Bool.and_eq_true] at hs; exact hs.2
    cases hm with
    | split => exact pe_bm PySem.F.plainAttrs_str PySem.F.slot_str_split PySem.F.type_str_split mt_splitS ho ha hbase (few_back hs hl) hline (star_each h1 es X.env) (plain_back (e := e) es X.env h2)
    | join => exact pe_bm PySem.F.plainAttrs_str PySem.F.slot_str_join PySem.F.type_str_join mt_joinS ho ha hbase (few_back hs hl) hline (star_each h1 es X.env) (plain_back (e := e) es X.env h2)
    | index => exact pe_bm PySem.F.plainAttrs_list PySem.F.slot_list_index PySem.F.type_list_index mt_indexS ho ha hbase (few_back hs hl) hline (star_each h1 es X.env) (plain_back (e := e) es X.env h2)
    | index2 => exact pe_bm PySem.F.plainAttrs_list PySem.F.slot_list_index PySem.F.type_list_index mt_index2S ho ha hbase (few_back hs hl) hline (star_each h1 es X.env) (plain_back (e := e) es X.env h2)
    | count => exact pe_bm PySem.F.plainAttrs_list PySem.F.slot_list_count PySem.F.type_list_count mt_countS ho ha hbase (few_back hs hl) hline (star_each h1 es X.env) (plain_back (e := e) es X.env h2)
  refine PE.weak key fun σ H Q h => ?_
  obtain ⟨w, ρ, S, R, E, h⟩ := h
  refine ⟨w, ρ, S, R, E, PG.bindW later_W R h fun w1 H1 v x S1 l R1 r h1 => ?_⟩
  split at h1
  · rename_i hr
    refine ⟨rcv_ty hm R1 r hr, w1, ρ, S1, R1, E.mono l, PG.bindL later_W h1 fun w2 H2 vs ds S2 m R2 rs h2 => ?_⟩
    obtain ⟨z, hz, hq⟩ := bind_biW (E' := fun _ _ _ => False) h2
    exact ⟨w2, S2, x.d, ds, z, R2, r.mono m, rs, hz, hq⟩
  · exact h1.elim
theorem sim_app {o e : Expr} {co ce : CE} {apos cpos : Pos} (ho : PE X o (tE X.K Γ co)) (ha : PE X e (tE X.K Γ ce)) (hs : starOk e = true)
    (hbase : attributeBase o "append" X.env (eval o X.env) = eval o X.env) (hline : (apos.endLine == cpos.line) = true) : PE X (.Call (.Attribute o "append" apos) [e] [] cpos) (tE X.K Γ (.app co ce)) := by
  have hs1 : [e].all starOk = true := by rw [List.all_cons, hs]; rfl
  refine PE.weak (pe_bm PySem.F.plainAttrs_list PySem.F.slot_list_append PySem.F.type_list_append mt_append ho (pa_cons ha pa_nil (star_each hs _ _)) hbase (few_back hs1 (by decide)) hline (star_each hs _ _) (plain_back (e := e) [] X.env rfl)) fun σ H Q h => ?_
  obtain ⟨w, ρ, S, R, E, h⟩ := h
  refine ⟨w, ρ, S, R, E, PG.bindW later_W R h fun w1 H1 v x S1 l R1 r h1 => ?_⟩
  split at h1
  · exact h1.elim
  · rename_i hr
    have hr' : (lstOf S1 x.d).isSome = true := by cases q : (lstOf S1 x.d).isSome with | true => rfl | false => exact absurd q hr
    refine ⟨tyV_lst R1 r hr', w1, ρ, S1, R1, E.mono l, PG.bindW later_W R1 h1 fun w2 H2 u y S2 m R2 q h2 => ?_⟩
    have r2 := r.mono m
    cases hx : x.d with
    | ref n =>
      rw [hx] at r2 h2
      simp only at h2
      cases hS : S2[n]? with
      | none => rw [hS] at h2; exact h2.elim
      | some ob =>
        cases ob with
        | lst xs =>
          rw [hS] at h2
          simp only at h2
          split at h2
          · rename_i hz
            cases r2 with
            | ref hn =>
              obtain ⟨vs, hH, rs⟩ := R2.at hn hS
              have hm := List.mem_of_getElem? hn
              have lc := Le.chg (H := H2) hm (u := .lst (vs ++ [u]))
              exact ⟨_, vs, u, rfl, rfl, hH, by rw [rs.length, sizeLine_LINE]; exact hz, h2 w2 _ .non lc (R2.chg hn ⟨_, upd_same, (rs.append (.cons q .nil)).mono lc⟩) .non⟩
          · exact h2.elim
        | dct t kvs => rw [hS] at h2; exact h2.elim
        | ins c fs => rw [hS] at h2; exact h2.elim
    | _ => rw [hx] at h2; exact h2.elim
end
end DW
end

section
set_option Elab.async false
set_option linter.all false
set_option maxRecDepth 100000
set_option maxHeartbeats 4000000
namespace DW
open PySem PySem.Spec PyProof.Rows L2

theorem meets_enum1 {v : Value} {o : Obj} {H : Heap → Prop} (B : Begins v o H) :
    Meets (Builtin.«enumerate.__new__» ⟨[.type "enumerate", v], []⟩) (fun _ R s => H s.heap ∧
      R (.ok (.ret (.ref (s.heap.push o).objs.size))) { s with heap := (s.heap.push o).push { cls := .type "enumerate", data := .fields #[.none, .bool false, .ref s.heap.objs.size, rawInt 0, .none, .none] } }) :=
  .of_wp fun prog w A R s h => by
    obtain ⟨hp, g, d, tk, os⟩ := s
    obtain ⟨h1, h⟩ := h
    have hsub := sub_enumerate
    have drawn : ∀ {A' : Around} {E : Value → Shared → Prop} {Q : Value → Shared → Prop}, Q (.ref hp.objs.size) ⟨hp.push o, g, d, tk, os⟩ → wpAny (model prog w) A' (pyIter v) Q E ⟨hp, g, d, tk, os⟩ :=
      fun q => B.iter prog w _ _ ⟨hp, g, d, tk, os⟩ _ h1 q
    wp_walk using drawn
    refine wpAny_stack_any fun st => wpAny_pure ?_
    split
    · rename_i c _ _ _ _ _
      cases (c == Value.type "enumerate") <;> (wp_walk using drawn; exact ⟨_, rfl, h⟩)
    · wp_walk using drawn
      exact ⟨_, rfl, h⟩
theorem enum_new1 {prog : Program} {w : World} {A : Around} {E : Value → Shared → Prop} {s : Shared} {v : Value} {o : Obj} {H : Heap → Prop} {Q : Value → Shared → Prop} (B : Begins v o H) (h1 : H s.heap)
    (h : ∀ h', IsEnum h' (s.heap.objs.size + 1) s.heap.objs.size 0 .none → h'.get? s.heap.objs.size = some o → (∀ b o, s.heap.get? b = some o → h'.get? b = some o) → Q (.ref (s.heap.objs.size + 1)) { s with heap := h' }) :
    wpAny (model prog w) A (call (.type "enumerate") [v]) Q E s := by
  refine callType_new F.called_enumerate (by decide) (F.typeCall_enumerate_1 _) (F.newCall_enumerate_1 _) (fun obj => F.args_object_init_2 obj _) F.entry_enumerate_new (meets_enum1 B) ⟨h1, ?_⟩
  have hz : (s.heap.push o).objs.size = s.heap.objs.size + 1 := Heap.size_push ..
  show _ ∧ _
  rw [hz]
  have he : IsEnum ((s.heap.push o).push { cls := .type "enumerate", data := .fields #[.none, .bool false, .ref s.heap.objs.size, rawInt 0, .none, .none] }) (s.heap.objs.size + 1) s.heap.objs.size 0 .none := by
    have q := Heap.get?_push_size (s.heap.push o) (o := { cls := .type "enumerate", data := .fields #[.none, .bool false, .ref s.heap.objs.size, rawInt 0, .none, .none] }) rfl
    rw [hz] at q
    exact q
  exact ⟨⟨_, he, rfl⟩, h _ he (Heap.get?_push_of_some _ (Heap.get?_push_size _ B.free)) fun b u x => Heap.get?_push_of_some _ (Heap.get?_push_of_some _ x)⟩


def IteT (K : PySem.W.Frag) (a : Addr) : It :=
  ⟨fun i H => ∃ (xs : List V) (x : V), SqT K H a xs ∧ xs[i]? = some x, fun i H v H' => ∃ T x, v = .ref T ∧ H T = none ∧ H' = upd H T (.tup [.int (i : Nat), x]) ∧ ∀ xs, SqT K H a xs → xs[i]? = some x, fun i H => ∃ xs : List V, SqT K H a xs ∧ xs.length = i⟩
theorem turn_enumT {P : Program} {w : World} {K : PySem.W.Frag} {elts : List Expr} {kk : Nat} {tpos : Pos} (a e it : Addr) :
    Turn P w K (.Tuple elts kk tpos) (IteT K a) [e, it] e (fun i h => (∃ old, IsEnum h e it ((i : Nat) : Int) old) ∧ h.IsTupleIter it a i ∧ e ≠ it) where
  mem := by simp
  obj := fun i h st b hb => by
    obtain ⟨⟨old, he⟩, ⟨o, ho, hc, hd⟩, _⟩ := st
    rcases (show b = e ∨ b = it by simpa using hb) with z | z
    · rw [z]; exact ⟨_, he, fun v q => nomatch q⟩
    · rw [z]; exact ⟨o, ho, fun v q => by rw [hd] at q; cases q⟩
  keep := fun i h h' st k => let ⟨⟨old, he⟩, hi, hne⟩ := st; ⟨⟨old, k e (by simp) _ he⟩, hi.at fun o q => k it (by simp) o q, hne⟩
  item := by
    intro X hP hw hK hc i pins s σ H E I hf st hg
    subst hP hw hK
    obtain ⟨⟨old, he⟩, hit, hne⟩ := st
    obtain ⟨xs, x, hq, hx⟩ := hg
    obtain ⟨its, rv, p, hz⟩ := I.tuple hq
    obtain ⟨u, hu, ru⟩ := rv.get hx
    have hel : e < s.heap.objs.size := Heap.lt_size he
    have hil : it < s.heap.objs.size := by obtain ⟨_, q, _⟩ := hit; exact Heap.lt_size q
    have hpt : s.heap.IsTuple a its.toArray := p
    have hai : a ≠ it := by
      rintro rfl
      obtain ⟨o, e1, c1, _⟩ := hpt
      obtain ⟨o2, e2, c2, _⟩ := hit
      rw [e1] at e2
      cases e2
      rw [c1] at c2
      injection c2 with c2
      exact absurd c2 (by decide)
    have hae : a ≠ e := by
      rintro rfl
      obtain ⟨o, e1, c1, _⟩ := hpt
      have e2 : s.heap.get? a = some _ := he
      rw [e1] at e2
      cases e2
      injection c1 with c1
      exact absurd c1 (by decide)
    have hlt : i < its.toArray.size := by
      have := (List.getElem?_eq_some_iff.mp hu).1
      simpa using this
    have D := Draws.tuple (prog := X.prog) (w := X.w) (A := X.A.in1) (show X.A.in1.handled = none from I.ok.hd hc) it a hai its.toArray
    refine wpAny_pyNext_enum_itemD D he ⟨hit, hpt⟩ hlt hne (by simp; exact ⟨hne, hae.symm⟩) fun y h' tk hy ho st' hT hsz hk => ?_
    have ey : y = u := by
      have h1 : its[i]? = some y := by simpa using hy
      rw [hu] at h1
      exact (Option.some.inj h1).symm
    subst ey
    refine ⟨_, rfl, wpAny_letOwnedTupleGo_enum (s := { s with heap := h', toks := tk + 1 }) ho fun h'' he' sb => ?_⟩
    have hT2 : h''.get? s.heap.objs.size = some { cls := .type "tuple", data := .seq #[.int i tk, y] } := (sb.2 _ (Nat.ne_of_gt hel)).trans hT
    have new : ObjOk X.prog X.w (upd H s.heap.objs.size (.tup [.int (i : Nat), x])) h'' s.heap.objs.size (.tup [.int (i : Nat), x]) :=
      ⟨by show 2 ≤ sizeLine; decide, [.int i tk, y], .cons ⟨_, rfl⟩ (.cons ru .nil), ⟨_, hT2, rfl, _, rfl⟩⟩
    have I1 : Inv X pins σ (upd H s.heap.objs.size (.tup [.int (i : Nat), x])) { s with heap := h'', toks := tk + 1 } :=
      I.turnedNew (ch := [e, it]) (fun b ob hb q => (sb.2 b (fun z => hb (by simp [z]))).trans (hk b ob (fun z => hb (by simp [z])) (fun z => hb (by simp [z])) q)) hf (Nat.le_refl _) new
    refine ⟨.ref s.heap.objs.size, _, I1, rfl, ⟨_, x, rfl, I.hok.fresh (Nat.le_refl _), rfl, fun ys hy => by rw [I.tuple_inj hy hq]; exact hx⟩, ⟨⟨y, ?_⟩, st'.1.at fun o q => (sb.2 it (Ne.symm hne)).trans q, hne⟩, fun b hb => ?_⟩
    · have e1 : ((i + 1 : Nat) : Int) = (i : Int) + 1 := by omega
      rw [e1]; exact he'
    · have hb' : b < s.heap.objs.size := by
        rcases (show b = e ∨ b = it by simpa using hb) with z | z
        · rw [z]; exact hel
        · rw [z]; exact hil
      rw [upd_ne (Nat.ne_of_lt hb')]
      exact (hf b hb).1
  done := by
    intro X hP hw hK hc i pins s σ H E I hf st hg
    subst hP hw hK
    obtain ⟨⟨old, he⟩, hit, hne⟩ := st
    obtain ⟨xs, hq, hx⟩ := hg
    obtain ⟨its, rv, p, hz⟩ := I.tuple hq
    obtain ⟨f0, f1, f2, f3, f4, f5⟩ := hf it (by simp)
    have hpt : s.heap.IsTuple a its.toArray := p
    have hai : a ≠ it := by
      rintro rfl
      obtain ⟨o, e1, c1, _⟩ := hpt
      obtain ⟨o2, e2, c2, _⟩ := hit
      rw [e1] at e2
      cases e2
      rw [c1] at c2
      injection c2 with c2
      exact absurd c2 (by decide)
    have hl : its.toArray.size = i := by rw [List.size_toArray, ← rv.length]; exact hx
    have D := Draws.tuple (prog := X.prog) (w := X.w) (A := X.A.in1) (show X.A.in1.handled = none from I.ok.hd hc) it a hai its.toArray
    exact wpAny_pyNext_enum_endD D he (by rw [hl]; exact ⟨hit, hpt⟩) fun h' eb => ⟨rfl, I.turned (t' := s.toks) (fun b o hb q => eb b o hb q) f0 f1 f3 f4 f5⟩
  self := fun A i s Q E st h => let ⟨⟨_, he⟩, _⟩ := st; wpAny_pyIter_enum he h
def iEnumA (K : PySem.W.Frag) (ta : TA) : TI := fun σ H R => ta σ H fun vs H1 => ∃ a xs, vs = [.ref a] ∧ ((SqL K H1 a xs ∧ R (Ite K a) H1) ∨ (SqT K H1 a xs ∧ R (IteT K a) H1))
theorem pi_enumA {X : Cx} {e : Expr} {ta : TA} {p pos tpos : Pos} {elts : List Expr} {kk : Nat} (hg : Gl X "enumerate") (hm : X.mg "enumerate" = none) (ha : PA X [e] ta) (hs : starEach [e] X.env = [(false, eval e X.env)]) :
    PI X (.Tuple elts kk tpos) (.Call (.Name "enumerate" p) [e] [] pos) (iEnumA X.K ta) := by
  refine ⟨fun pins s σ H R I h => ?_⟩
  refine Call_ (ld_blt I hg hm boot_enumerate (PyProof.Rows.callWith_type1 (thn (ha.run pos pins s σ H _ I h) fun us s1 ⟨vs, H1, I1, r1, q1⟩ => ?_) hs rfl))
  obtain ⟨a, xs, ex, q1⟩ := q1
  subst ex
  cases r1 with
  | cons r rr =>
    cases rr
    cases r
    have fp : ∀ {h'}, ∀ b ∈ [s1.heap.objs.size + 1, s1.heap.objs.size], Inv X pins σ H1 { s1 with heap := h' } → FpOk X pins H1 b := fun b hb I2 => by
      have hle : s1.heap.objs.size ≤ b := by
        rcases (show b = s1.heap.objs.size + 1 ∨ b = s1.heap.objs.size by simpa using hb) with z | z <;> omega
      exact I1.fpOk hle (I1.hok.fresh hle)
    rcases q1 with ⟨hq, q⟩ | ⟨hq, q⟩
    · obtain ⟨its, rv, p', hz⟩ := I1.list hq
      refine enum_new1 (begins_list a its.toArray) p'.isList fun h' he hit hk => wpAny_pyIter_enum he ?_
      have I2 : Inv X pins σ H1 { s1 with heap := h' } := I1.kept (t' := s1.toks) hk
      exact ⟨s1.heap.objs.size + 1, [s1.heap.objs.size + 1, s1.heap.objs.size], _, _, H1, rfl, I2, turn_enum a (s1.heap.objs.size + 1) s1.heap.objs.size, ⟨⟨.none, he⟩, ⟨_, hit, rfl, rfl⟩, Nat.succ_ne_self _⟩, fun b hb => fp b hb I2, q⟩
    · obtain ⟨its, rv, p', hz⟩ := I1.tuple hq
      refine enum_new1 (begins_tuple a its.toArray) (show s1.heap.IsTuple a its.toArray from p') fun h' he hit hk => wpAny_pyIter_enum he ?_
      have I2 : Inv X pins σ H1 { s1 with heap := h' } := I1.kept (t' := s1.toks) hk
      exact ⟨s1.heap.objs.size + 1, [s1.heap.objs.size + 1, s1.heap.objs.size], _, _, H1, rfl, I2, turn_enumT a (s1.heap.objs.size + 1) s1.heap.objs.size, ⟨⟨.none, he⟩, ⟨_, hit, rfl, rfl⟩, Nat.succ_ne_self _⟩, fun b hb => fp b hb I2, q⟩

def iAny (K : PySem.W.Frag) (tl : TE) : TI := fun σ H R => tl σ H fun x H1 => (∃ a, x = .ref a ∧ (∃ xs, SqL K H1 a xs) ∧ R (Itl K a) H1) ∨ (∃ a, x = .ref a ∧ (∃ xs, SqT K H1 a xs) ∧ R (Itt K a) H1) ∨ (∃ z, x = .str z ∧ R (Its z) H1)
theorem pi_any {X : Cx} {tg l : Expr} {tl : TE} (hl : PE X l tl) : PI X tg l (iAny X.K tl) := by
  refine ⟨fun pins s σ H R I h => ?_⟩
  refine thn (hl.run pins s σ H _ I h) fun v s1 ⟨x, H1, I1, r1, q1⟩ => ?_
  have one : ∀ b ∈ [s1.heap.objs.size], FpOk X pins H1 b := fun b hb => by
    rw [show b = s1.heap.objs.size by simpa using hb]
    exact I1.fpOk (Nat.le_refl _) (I1.hok.fresh (Nat.le_refl _))
  have kpt : ∀ o : Obj, Inv X pins σ H1 { s1 with heap := s1.heap.push o } := fun o => I1.kept (t' := s1.toks) fun b u e => Heap.get?_push_of_some _ e
  rcases q1 with ⟨a, e, ⟨xs, hq⟩, q⟩ | ⟨a, e, ⟨xs, hq⟩, q⟩ | ⟨z, e, q⟩
  · subst e
    cases r1
    obtain ⟨its, rv, p, hz⟩ := I1.list hq
    exact wpAny_pyIter_list p.isList ⟨s1.heap.objs.size, [s1.heap.objs.size], _, _, H1, rfl, kpt _, turn_list a _, ⟨_, Heap.get?_push_size _ rfl, rfl, rfl⟩, one, q⟩
  · subst e
    cases r1
    obtain ⟨its, rv, p, hz⟩ := I1.tuple hq
    exact wpAny_pyIter_tuple (show s1.heap.IsTuple a its.toArray from p) ⟨s1.heap.objs.size, [s1.heap.objs.size], _, _, H1, rfl, kpt _, turn_tuple a _, ⟨_, Heap.get?_push_size _ rfl, rfl, rfl⟩, one, q⟩
  · subst e
    obtain ⟨t, rfl⟩ := r1
    cases ha : z.cps.all (· < 128)
    · exact wpAny_pyIter_wide ha (pi_one (tk := s1.toks) I1 _ (turn_str _ z t "str_iterator" (.inr rfl)) ⟨_, Heap.get?_push_size _ rfl, rfl, rfl⟩ q)
    · exact wpAny_pyIter_ascii ha (pi_one (tk := s1.toks) I1 _ (turn_str _ z t "str_ascii_iterator" (.inl rfl)) ⟨_, Heap.get?_push_size _ rfl, rfl, rfl⟩ q)
end DW
end

section
set_option Elab.async false
set_option linter.all false
set_option maxRecDepth 100000
set_option maxHeartbeats 4000000
namespace DW
open PySem PySem.Spec PyProof.Rows L2


structure Lx (w : Wd) (H : Hp) (w' : Wd) (H' : Hp) : Prop where
  pre : ∃ t, w'.α = w.α ++ t
  av : ∀ a ∈ w'.av, a ∈ w.av ∨ H a = none
  fresh : ∀ a ∈ w'.α, a ∈ w.α ∨ H a = none
  keep : ∀ a o, H a = some o → a ∉ w.α → H' a = some o
section
variable {K : PySem.W.Frag} {w w' : Wd} {H H' : Hp} {S : Store} {a p : Addr}
theorem Lx.of (l : Le w H w' H') : Lx w H w' H' := ⟨l.pre, fun a h => .inl (by rw [← l.av]; exact h), l.fresh, l.keep⟩
theorem Lx.plus (l : Le w H w' H') (e : H p = none) : Lx w H (w'.plus p) H' := ⟨l.pre, fun a h => (List.mem_cons.mp h).elim (fun z => .inr (by rw [z]; exact e)) fun z => .inl (by rw [← l.av]; exact z), l.fresh, l.keep⟩
theorem Lx.off (l : Lx w H w' H') {o : HO} (e : H a = some o) (n : a ∉ w.α) : a ∉ w'.α := fun h => by
  rcases l.fresh a h with q | q
  · exact n q
  · rw [e] at q; cases q
theorem Lx.offv (l : Lx w H w' H') {o : HO} (e : H a = some o) (n : a ∉ w.av) : a ∉ w'.av := fun h => by
  rcases l.av a h with q | q
  · exact n q
  · rw [e] at q; cases q
theorem Lx.at (l : Lx w H w' H') {n : Nat} (h : w.α[n]? = some a) : w'.α[n]? = some a := by
  obtain ⟨t, e⟩ := l.pre
  rw [e, List.getElem?_append_left (List.getElem?_eq_some_iff.mp h).1]
  exact h
mutual
theorem RV.monoX (l : Lx w H w' H') : ∀ {v : V} {d : D}, RV K w H v d → RV K w' H' v d
  | _, _, .non => .non
  | _, _, .bl b => .bl b
  | _, _, .int i => .int i
  | _, _, .str x => .str x
  | _, _, .tup e n m r => .tup (l.keep _ _ e n) (l.off e n) (l.offv e m) (RVs.monoX l r)
  | _, _, .lst e n m r => .lst (l.keep _ _ e n) (l.off e n) (l.offv e m) (RVs.monoX l r)
  | _, _, .frz e r => .frz (by
      rcases e with ⟨n, o, e⟩ | e
      · exact .inl ⟨l.off e n, o, l.keep _ _ e n⟩
      · exact .inr e) (RVs.monoX l r)
  | _, _, .ref h => .ref (l.at h)
theorem RVs.monoX (l : Lx w H w' H') : ∀ {vs : List V} {ds : List D}, RVs K w H vs ds → RVs K w' H' vs ds
  | _, _, .nil => .nil
  | _, _, .cons h r => .cons (RV.monoX l h) (RVs.monoX l r)
end

def Yld (K : PySem.W.Frag) (w : Wd) (H : Hp) (J : It) (ds : List D) (g : Gd) : Prop :=
  ∀ (w' : Wd) (H' : Hp) (S' : Store), Lx w H w' H' → Rel K w' H' S' → stays S' g = true →
    (∀ (i : Nat) (d : D), ds[i]? = some d → J.go i H' ∧ ∀ x H2, J.yld i H' x H2 → Le w' H' w' H2 ∧ Rel K w' H2 S' ∧ RV K w' H2 x d) ∧ (∀ i : Nat, ds.length = i → J.stop i H')

inductive Src (K : PySem.W.Frag) (w : Wd) (H : Hp) (a : Addr) (d : D) (ds : List D) (g : Gd) : Prop
  | lst (h : ∀ (w' : Wd) (H' : Hp) (S' : Store), Lx w H w' H' → Rel K w' H' S' → stays S' g = true → ∃ vs, SqL K H' a vs ∧ RVs K w' H' vs ds)
  | tup (e : d = .tup ds) (h : ∀ (w' : Wd) (H' : Hp) (S' : Store), Lx w H w' H' → Rel K w' H' S' → stays S' g = true → ∃ vs, SqT K H' a vs ∧ RVs K w' H' vs ds)
theorem src_rv {v : V} {d : D} (R : Rel K w H S) (r : RV K w H v d) {p : List D × Gd} (h : srcOf S d = some p) : stays S p.2 = true ∧ ∃ a, v = .ref a ∧ Src K w H a d p.1 p.2 := by
  cases r with
  | @tup a vs xs e n m rs => cases h; exact ⟨rfl, a, rfl, .tup rfl fun w' H' S' l R' _ => ⟨vs, .inl (.inl (l.keep _ _ e n)), rs.monoX l⟩⟩
  | @lst a vs xs e n m rs => cases h; exact ⟨rfl, a, rfl, .lst fun w' H' S' l R' _ => ⟨vs, .inl (.inl (l.keep _ _ e n)), rs.monoX l⟩⟩
  | @frz a vs xs e rs =>
    cases h
    refine ⟨rfl, a, rfl, .lst fun w' H' S' l R' _ => ⟨vs, ?_, rs.monoX l⟩⟩
    rcases e with ⟨n, o, e⟩ | e
    · exact .inl (.inr ⟨o, l.keep _ _ e n⟩)
    · exact e H'
  | @ref n a hn =>
    unfold srcOf at h
    simp only at h
    split at h
    · rename_i xs q
      cases h
      refine ⟨by simp [stays, q], a, rfl, .lst fun w' H' S' l R' st => ?_⟩
      have q' : S'[n]? = some (.lst xs) := by simpa [stays] using st
      obtain ⟨vs, e, rs⟩ := R'.at (l.at hn) q'
      exact ⟨vs, .inl (.inl e), rs⟩
    · cases h
  | _ => cases h
theorem Sq_get {vs : List V} {ds : List D} (rs : RVs K w H vs ds) {i : Nat} {d : D} (h : ds[i]? = some d) : ∃ v, vs[i]? = some v ∧ RV K w H v d := rs.get h
theorem yld_lst {ds : List D} {g : Gd} (h : ∀ (w' : Wd) (H' : Hp) (S' : Store), Lx w H w' H' → Rel K w' H' S' → stays S' g = true → ∃ vs, SqL K H' a vs ∧ RVs K w' H' vs ds) : Yld K w H (Itl K a) ds g := by
  intro w' H' S' l R' st
  obtain ⟨vs, hq, rs⟩ := h w' H' S' l R' st
  refine ⟨fun i d hd => ?_, fun i hi => ⟨vs, hq, by rw [rs.length]; omega⟩⟩
  obtain ⟨v, hv, r⟩ := rs.get hd
  refine ⟨⟨vs, v, hq, hv⟩, fun x H2 hy => ?_⟩
  obtain ⟨rfl, hy⟩ := hy
  have := hy vs hq
  rw [hv] at this
  cases this
  exact ⟨Le.refl, R', r⟩
theorem yld_tup {ds : List D} {g : Gd} (h : ∀ (w' : Wd) (H' : Hp) (S' : Store), Lx w H w' H' → Rel K w' H' S' → stays S' g = true → ∃ vs, SqT K H' a vs ∧ RVs K w' H' vs ds) : Yld K w H (Itt K a) ds g := by
  intro w' H' S' l R' st
  obtain ⟨vs, hq, rs⟩ := h w' H' S' l R' st
  refine ⟨fun i d hd => ?_, fun i hi => ⟨vs, hq, by rw [rs.length]; omega⟩⟩
  obtain ⟨v, hv, r⟩ := rs.get hd
  refine ⟨⟨vs, v, hq, hv⟩, fun x H2 hy => ?_⟩
  obtain ⟨rfl, hy⟩ := hy
  have := hy vs hq
  rw [hv] at this
  cases this
  exact ⟨Le.refl, R', r⟩
theorem yld_str {z : Str} : Yld K w H (Its z) (z.cps.toList.map fun c => .str ⟨#[c]⟩) [] := by
  intro w' H' S' l R' st
  refine ⟨fun i d hd => ?_, fun i hi => ?_⟩
  · rw [List.getElem?_map] at hd
    obtain ⟨c, hc, rfl⟩ := Option.map_eq_some_iff.mp hd
    have hc' : z.cps[i]? = some c := by simpa using hc
    have hi : i < z.cps.size := (Array.getElem?_eq_some_iff.mp hc').1
    refine ⟨hi, fun x H2 hy => ?_⟩
    obtain ⟨rfl, c', h1, rfl⟩ := hy
    rw [hc'] at h1
    cases h1
    exact ⟨Le.refl, R', .str _⟩
  · simp at hi
    show z.cps.size ≤ i
    omega
theorem yld_rng {lo : Int} {n : Nat} : Yld K w H (Itr lo n) (rngD lo n) [] := by
  intro w' H' S' l R' st
  refine ⟨fun i d hd => ?_, fun i hi => ?_⟩
  · unfold rngD at hd
    rw [List.getElem?_map] at hd
    obtain ⟨k, hk, rfl⟩ := Option.map_eq_some_iff.mp hd
    obtain ⟨h1, h2⟩ := List.getElem?_eq_some_iff.mp hk
    have hi : i < n := by simpa using h1
    have hki : k = i := by rw [← h2]; simp
    subst hki
    exact ⟨hi, fun x H2 hy => by obtain ⟨rfl, rfl⟩ := hy; exact ⟨Le.refl, R', .int _⟩⟩
  · unfold rngD at hi
    simp at hi
    show n ≤ i
    omega

theorem pair_new {w' : Wd} {H' : Hp} {S' : Store} {T : Addr} {x y : V} {d e : D} (R' : Rel K w' H' S') (hn : H' T = none) (rx : RV K w' H' x d) (ry : RV K w' H' y e) :
    Le w' H' w' (upd H' T (.tup [x, y])) ∧ Rel K w' (upd H' T (.tup [x, y])) S' ∧ RV K w' (upd H' T (.tup [x, y])) (.ref T) (.tup [d, e]) :=
  ⟨Le.new hn, R'.new hn, .tup upd_same (R'.off hn) (R'.noav hn) (.cons (rx.mono (Le.new hn)) (.cons (ry.mono (Le.new hn)) .nil))⟩
theorem enumD_get {ds : List D} {i : Nat} {d : D} (h : (enumD ds)[i]? = some d) : ∃ x, ds[i]? = some x ∧ d = .tup [.int (i : Nat), x] := by
  unfold enumD at h
  rw [List.getElem?_mapIdx] at h
  obtain ⟨x, hx, rfl⟩ := Option.map_eq_some_iff.mp h
  exact ⟨x, hx, rfl⟩
theorem enumD_length {ds : List D} : (enumD ds).length = ds.length := by unfold enumD; simp
theorem yld_enumL {ds : List D} {g : Gd} (h : ∀ (w' : Wd) (H' : Hp) (S' : Store), Lx w H w' H' → Rel K w' H' S' → stays S' g = true → ∃ vs, SqL K H' a vs ∧ RVs K w' H' vs ds) : Yld K w H (Ite K a) (enumD ds) g := by
  intro w' H' S' l R' st
  obtain ⟨vs, hq, rs⟩ := h w' H' S' l R' st
  refine ⟨fun i d hd => ?_, fun i hi => ⟨vs, hq, by rw [rs.length]; rw [enumD_length] at hi; omega⟩⟩
  obtain ⟨x, hx, rfl⟩ := enumD_get hd
  obtain ⟨v, hv, r⟩ := rs.get hx
  refine ⟨⟨vs, v, hq, hv⟩, fun y H2 hy => ?_⟩
  obtain ⟨T, u, rfl, hn, rfl, hy⟩ := hy
  have := hy vs hq
  rw [hv] at this
  cases this
  exact pair_new R' hn (.int _) r
theorem yld_enumT {ds : List D} {g : Gd} (h : ∀ (w' : Wd) (H' : Hp) (S' : Store), Lx w H w' H' → Rel K w' H' S' → stays S' g = true → ∃ vs, SqT K H' a vs ∧ RVs K w' H' vs ds) : Yld K w H (IteT K a) (enumD ds) g := by
  intro w' H' S' l R' st
  obtain ⟨vs, hq, rs⟩ := h w' H' S' l R' st
  refine ⟨fun i d hd => ?_, fun i hi => ⟨vs, hq, by rw [rs.length]; rw [enumD_length] at hi; omega⟩⟩
  obtain ⟨x, hx, rfl⟩ := enumD_get hd
  obtain ⟨v, hv, r⟩ := rs.get hx
  refine ⟨⟨vs, v, hq, hv⟩, fun y H2 hy => ?_⟩
  obtain ⟨T, u, rfl, hn, rfl, hy⟩ := hy
  have := hy vs hq
  rw [hv] at this
  cases this
  exact pair_new R' hn (.int _) r

def JOk (K : PySem.W.Frag) (k : IK) (w : Wd) (H : Hp) (S : Store) (ds : List D) (J : It) : Prop :=
  (∀ p, itemsOf S k ds = some p → stays S p.2 = true ∧ Yld K w H J p.1 p.2) ∧ ∀ n, k = .seq → ds = [.ref n] → ∃ a, w.α[n]? = some a ∧ J = Itl K a
def tI (K : PySem.W.Frag) (Γ : Ctx) (k : IK) (cs : CEs) : TI := fun σ H R => ∃ (w : Wd) (ρ : DW.Env) (S : Store), Rel K w H S ∧ RE K Γ w H σ ρ ∧
  PG K Γ.G.fld (fun w H ds S => (itemsOf S k ds).isSome = true ∧ ∀ (w' : Wd) (H' : Hp) (J : It), Le w H w' H' → Rel K w' H' S → JOk K k w' H' S ds J → R J H') w H (Γ.E σ) (evs Γ.G Γ.cur cs ρ S)
theorem later_I {k : IK} {R : It → Hp → Prop} : Later (fun w H ds S => (itemsOf S k ds).isSome = true ∧ ∀ (w' : Wd) (H' : Hp) (J : It), Le w H w' H' → Rel K w' H' S → JOk K k w' H' S ds J → R J H') :=
  ⟨fun _ _ _ _ _ _ l h => ⟨h.1, fun w2 H2 J m => h.2 w2 H2 J (l.trans m)⟩⟩
theorem PI.weak {X : Cx} {tg e : Expr} {t t' : TI} (h : PI X tg e t) (f : ∀ σ H Q, t' σ H Q → t σ H Q) : PI X tg e t' := ⟨fun pins s σ H Q I q => h.run pins s σ H Q I (f σ H Q q)⟩
end

section
variable {X : Cx} {Γ : Ctx} {tg : Expr}
theorem evs_one {G : GX} {cur : Cur} {c : CE} {ρ : DW.Env} {S : Store} : evs G cur (.cons c .nil) ρ S = (ev G cur c ρ S).bind fun x S => .ok [x.d] S := by
  unfold evs
  cases ev G cur c ρ S <;> rfl
theorem evs_two {G : GX} {cur : Cur} {c e : CE} {ρ : DW.Env} {S : Store} : evs G cur (.cons c (.cons e .nil)) ρ S = (ev G cur c ρ S).bind fun x S => (ev G cur e ρ S).bind fun y S => .ok [x.d, y.d] S := by
  rw [evs]
  simp only [evs_one, bind_assoc]
  rfl
theorem simI_seq {e : Expr} {c : CE} (h : PE X e (tE X.K Γ c)) : PI X tg e (tI X.K Γ .seq (.cons c .nil)) := by
  refine PI.weak (pi_any h) fun σ H Q hh => ?_
  obtain ⟨w, ρ, S, R, E, hh⟩ := hh
  rw [evs_one] at hh
  refine ⟨w, ρ, S, R, E, PG.bindW later_I R hh fun w1 H1 v x S1 l R1 r h1 => ?_⟩
  obtain ⟨hi, hR⟩ := h1
  have nd : ∀ {J : It} {p : List D × Gd}, srcOf S1 x.d = some p → itemsOf S1 .seq [x.d] = some p := fun {J p} q => by
    unfold itemsOf
    cases e : x.d <;> first | (rw [e] at q; exact q) | (rw [e] at q; cases q)
  cases q : srcOf S1 x.d with
  | some p =>
    obtain ⟨st, a, rfl, src⟩ := src_rv R1 r q
    have hit := nd (J := Itl X.K a) q
    cases src with
    | lst hs =>
      obtain ⟨vs, hq, _⟩ := hs w1 H1 S1 (Lx.of Le.refl) R1 st
      refine .inl ⟨a, rfl, ⟨vs, hq⟩, hR w1 H1 _ Le.refl R1 ⟨fun p' hp' => ?_, fun n _ hn => ?_⟩⟩
      · rw [hit] at hp'; cases hp'; exact ⟨st, yld_lst hs⟩
      · have hd : x.d = .ref n := by simpa using hn
        rw [hd] at r
        cases r with
        | ref ha => exact ⟨a, ha, rfl⟩
    | tup he hs =>
      obtain ⟨vs, hq, _⟩ := hs w1 H1 S1 (Lx.of Le.refl) R1 st
      refine .inr (.inl ⟨a, rfl, ⟨vs, hq⟩, hR w1 H1 _ Le.refl R1 ⟨fun p' hp' => ?_, fun n _ hn => ?_⟩⟩)
      · rw [hit] at hp'; cases hp'; exact ⟨st, yld_tup hs⟩
      · have hd : x.d = .ref n := by simpa using hn
        rw [hd] at he; cases he
  | none =>
    cases e : x.d with
    | str z =>
      rw [e] at r
      cases r
      refine .inr (.inr ⟨z, rfl, hR w1 H1 _ Le.refl R1 ⟨fun p' hp' => ?_, fun n _ hn => ?_⟩⟩)
      · rw [e] at hp'; cases hp'; exact ⟨rfl, yld_str⟩
      · rw [e] at hn; cases hn
    | _ => rw [e] at hi q; unfold itemsOf at hi; simp only [q] at hi; cases hi
theorem simI_rng1 {a : Expr} {c : CE} {p pos : Pos} (hg : Gl X "range") (hm : X.mg "range" = none) (ha : PE X a (tE X.K Γ c)) (hs : starOk a = true) : PI X tg (.Call (.Name "range" p) [a] [] pos) (tI X.K Γ .rng (.cons c .nil)) := by
  refine PI.weak (pi_range1 hg hm (pa_cons ha pa_nil (star_each hs _ _)) (star_each hs _ _)) fun σ H Q hh => ?_
  obtain ⟨w, ρ, S, R, E, hh⟩ := hh
  rw [evs_one] at hh
  refine ⟨w, ρ, S, R, E, PG.bindW later_I R hh fun w1 H1 v x S1 l R1 r h1 => ?_⟩
  obtain ⟨hi, hR⟩ := h1
  cases e : x.d with
  | int j =>
    rw [e] at hi r
    cases r
    unfold itemsOf at hi
    simp only at hi
    split at hi
    · rename_i hj
      refine ⟨j, rfl, hj.1, hj.2, hR w1 H1 _ Le.refl R1 ⟨fun p' hp' => ?_, fun n hk _ => nomatch hk⟩⟩
      rw [e] at hp'
      unfold itemsOf at hp'
      simp only at hp'
      rw [if_pos hj] at hp'
      cases hp'
      exact ⟨rfl, yld_rng⟩
    · cases hi
  | _ => rw [e] at hi; cases hi
theorem simI_rng2 {a b : Expr} {c d : CE} {p pos : Pos} (hg : Gl X "range") (hm : X.mg "range" = none) (ha : PE X a (tE X.K Γ c)) (hb : PE X b (tE X.K Γ d)) (hs : starOk a = true) (hs2 : starOk b = true) : PI X tg (.Call (.Name "range" p) [a, b] [] pos) (tI X.K Γ .rng (.cons c (.cons d .nil))) := by
  refine PI.weak (pi_range2 hg hm (pa_cons ha (pa_cons hb pa_nil (star_each hs2 _ _)) (star_each hs _ _)) (by rw [star_each hs, star_each hs2]; rfl) (star_each hs2 _ _)) fun σ H Q hh => ?_
  obtain ⟨w, ρ, S, R, E, hh⟩ := hh
  rw [evs_two] at hh
  refine ⟨w, ρ, S, R, E, PG.bindW later_I R hh fun w1 H1 v x S1 l R1 r h1 => ⟨w1, ρ, S1, R1, E.mono l, PG.bindW later_I R1 h1 fun w2 H2 u y S2 m R2 q h2 => ?_⟩⟩
  obtain ⟨hi, hR⟩ := h2
  have r2 := r.mono m
  cases e : x.d with
  | int i =>
    cases e2 : y.d with
    | int j =>
      rw [e, e2] at hi
      rw [e] at r2
      rw [e2] at q
      cases r2
      cases q
      unfold itemsOf at hi
      simp only at hi
      split at hi
      · rename_i hj
        refine ⟨i, j, rfl, hj, hR w2 H2 _ Le.refl R2 ⟨fun p' hp' => ?_, fun n hk _ => nomatch hk⟩⟩
        rw [e, e2] at hp'
        unfold itemsOf at hp'
        simp only at hp'
        rw [if_pos hj] at hp'
        cases hp'
        exact ⟨rfl, yld_rng⟩
      · cases hi
    | _ => rw [e, e2] at hi; cases hi
  | _ => rw [e] at hi; cases hi
theorem simI_enum {e : Expr} {c : CE} {p pos tpos : Pos} {elts : List Expr} {kk : Nat} (hg : Gl X "enumerate") (hm : X.mg "enumerate" = none) (ha : PE X e (tE X.K Γ c)) (hs : starOk e = true) :
    PI X (.Tuple elts kk tpos) (.Call (.Name "enumerate" p) [e] [] pos) (tI X.K Γ .enum (.cons c .nil)) := by
  refine PI.weak (pi_enumA hg hm (pa_cons ha pa_nil (star_each hs _ _)) (star_each hs _ _)) fun σ H Q hh => ?_
  obtain ⟨w, ρ, S, R, E, hh⟩ := hh
  rw [evs_one] at hh
  refine ⟨w, ρ, S, R, E, PG.bindW later_I R hh fun w1 H1 v x S1 l R1 r h1 => ?_⟩
  obtain ⟨hi, hR⟩ := h1
  cases q : srcOf S1 x.d with
  | some p =>
    obtain ⟨st, a, rfl, src⟩ := src_rv R1 r q
    have hit : itemsOf S1 .enum [x.d] = some (enumD p.1, p.2) := by unfold itemsOf; simp only [q]; rfl
    cases src with
    | lst hs =>
      obtain ⟨vs, hq, _⟩ := hs w1 H1 S1 (Lx.of Le.refl) R1 st
      refine ⟨a, vs, rfl, .inl ⟨hq, hR w1 H1 _ Le.refl R1 ⟨fun p' hp' => ?_, fun n hk _ => nomatch hk⟩⟩⟩
      rw [hit] at hp'; cases hp'; exact ⟨st, yld_enumL hs⟩
    | tup he hs =>
      obtain ⟨vs, hq, _⟩ := hs w1 H1 S1 (Lx.of Le.refl) R1 st
      refine ⟨a, vs, rfl, .inr ⟨hq, hR w1 H1 _ Le.refl R1 ⟨fun p' hp' => ?_, fun n hk _ => nomatch hk⟩⟩⟩
      rw [hit] at hp'; cases hp'; exact ⟨st, yld_enumT hs⟩
  | none => unfold itemsOf at hi; simp only [q] at hi; cases hi
end
end DW
end

section
set_option Elab.async false
set_option linter.all false
set_option maxRecDepth 100000
set_option maxHeartbeats 4000000
namespace DW
open PySem PySem.Spec PyProof.Rows L2


mutual
def gT (K : PySem.W.Frag) : Tg → TG
  | .nm i => gName i
  | .tp ts => gTup K ts.length (gTs K ts)
def gTs (K : PySem.W.Frag) : List Tg → TGs
  | [] => gNil
  | t :: ts => gCons (gT K t) (gTs K ts)
end
mutual
def Tg.slots : Tg → List Nat
  | .nm i => [i]
  | .tp ts => Tg.slotss ts
def Tg.slotss : List Tg → List Nat
  | [] => []
  | t :: ts => t.slots ++ Tg.slotss ts
end

def Touch (l : List Nat) (σ σ' : L2.St) : Prop := σ'.length = σ.length ∧ ∀ i, i ∉ l → σ'[i]? = σ[i]?
theorem Touch.refl {l : List Nat} {σ : L2.St} : Touch l σ σ := ⟨rfl, fun _ _ => rfl⟩
theorem Touch.trans {l m : List Nat} {σ τ υ : L2.St} (h : Touch l σ τ) (g : Touch m τ υ) : Touch (l ++ m) σ υ := ⟨g.1.trans h.1, fun i hi => by
  rw [List.mem_append, not_or] at hi
  rw [g.2 i hi.2, h.2 i hi.1]⟩
section
variable {K : PySem.W.Frag} {Γ : Ctx} {w : Wd} {H : Hp}
theorem RE.set {σ : L2.St} {ρ : DW.Env} (E : RE K Γ w H σ ρ) (i : Nat) {v : V} {d : D} (r : RV K w H v d) : RE K Γ w H (σ.set i (some v)) (ρ.set i (some d)) := by
  refine ⟨by rw [List.length_set, List.length_set, E.len], fun j e h n => ?_, fun j h => ?_, E.held⟩
  · by_cases hij : i = j
    · subst hij
      have hl : i < ρ.length := by
        by_cases hl : i < ρ.length
        · exact hl
        · rw [List.getElem?_eq_none (by rw [List.length_set]; omega)] at h; cases h
      rw [List.getElem?_set_self hl] at h
      cases h
      exact ⟨v, List.getElem?_set_self (by rw [← E.len]; exact hl), r⟩
    · rw [List.getElem?_set_ne hij] at h
      obtain ⟨u, q, ru⟩ := E.val j e h n
      exact ⟨u, by rw [List.getElem?_set_ne hij]; exact q, ru⟩
  · by_cases hij : i = j
    · subst hij
      have hl : i < ρ.length := by
        by_cases hl : i < ρ.length
        · exact hl
        · rw [List.getElem?_eq_none (by rw [List.length_set]; omega)] at h; cases h
      rw [List.getElem?_set_self hl] at h
      cases h
      exact nomatch r
    · rw [List.getElem?_set_ne hij] at h
      obtain ⟨a, q, ru⟩ := E.ex j h
      exact ⟨a, q, by rw [List.getElem?_set_ne hij]; exact ru⟩
theorem RE.clr {σ : L2.St} {ρ : DW.Env} (E : RE K Γ w H σ ρ) (i : Nat) : RE K Γ w H (σ.set i none) (ρ.set i none) := by
  refine ⟨by rw [List.length_set, List.length_set, E.len], fun j e h n => ?_, fun j h => ?_, E.held⟩
  · by_cases hij : i = j
    · subst hij
      by_cases hl : i < ρ.length
      · rw [List.getElem?_set_self hl] at h; cases h
      · rw [List.getElem?_eq_none (by rw [List.length_set]; omega)] at h; cases h
    · rw [List.getElem?_set_ne hij] at h
      obtain ⟨u, q, ru⟩ := E.val j e h n
      exact ⟨u, by rw [List.getElem?_set_ne hij]; exact q, ru⟩
  · by_cases hij : i = j
    · subst hij
      by_cases hl : i < ρ.length
      · rw [List.getElem?_set_self hl] at h; cases h
      · rw [List.getElem?_eq_none (by rw [List.length_set]; omega)] at h; cases h
    · rw [List.getElem?_set_ne hij] at h
      obtain ⟨a, q, ru⟩ := E.ex j h
      exact ⟨a, q, by rw [List.getElem?_set_ne hij]; exact ru⟩
theorem RE.wipe {σ : L2.St} {ρ : DW.Env} (E : RE K Γ w H σ ρ) : ∀ vs : List Nat, RE K Γ w H (L2.wipe σ vs) (DW.wipe ρ vs)
  | [] => E
  | v :: vs => by unfold L2.wipe DW.wipe; exact (E.wipe vs).clr v
theorem RE.updA {p : Addr} {σ : L2.St} {ρ : DW.Env} {vs : List V} (E : RE K Γ (w.plus p) H σ ρ) (hp : H p = some (.lst vs)) {u : HO} : RE K Γ (w.plus p) (upd H p u) σ ρ := by
  have nf : ∀ o u, H p ≠ some (.frz o u) := fun o u z => by rw [hp] at z; cases z
  exact ⟨E.len, fun i d h n => let ⟨v, q, r⟩ := E.val i d h n; ⟨v, q, RV.updA nf r⟩, E.ex, fun c d h => let ⟨dd, x, a, b, n, r⟩ := E.held c d h; ⟨dd, x, a, by rw [upd_ne (fun z => by rw [z, hp] at b; cases b)]; exact b, n, RV.updA nf r⟩⟩
theorem RE.inner {σ : L2.St} {ρ : DW.Env} {W V : WX} (E : RE K Γ w H σ ρ) : RE K { Γ with W := W, V := V } w H σ ρ := ⟨E.len, E.val, E.ex, E.held⟩
theorem RE.outer {σ : L2.St} {ρ : DW.Env} {W V : WX} (E : RE K { Γ with W := W, V := V } w H σ ρ) : RE K Γ w H σ ρ := ⟨E.len, E.val, E.ex, E.held⟩
theorem bindTs_length : ∀ {ts : List Tg} {xs : List D} {ρ ρ' : DW.Env}, bindTs ts xs ρ = some ρ' → xs.length = ts.length
  | [], [], _, _, _ => rfl
  | [], _ :: _, _, _, h => by simp [bindTs] at h
  | _ :: _, [], _, _, h => by simp [bindTs] at h
  | t :: ts, x :: xs, ρ, ρ', h => by
    unfold bindTs at h
    split at h
    · rw [List.length_cons, List.length_cons, bindTs_length h]
    · cases h
mutual
theorem simG : ∀ (t : Tg) {σ : L2.St} {ρ ρ' : DW.Env} {v : V} {d : D} {Q : L2.St → Hp → Prop}, RE K Γ w H σ ρ → RV K w H v d → bindT t d ρ = some ρ' → (∀ σ', RE K Γ w H σ' ρ' → Touch t.slots σ σ' → Q σ' H) → gT K t v σ H Q
  | .nm i, σ, ρ, ρ', v, d, Q, E, r, h, q => by
    unfold bindT at h
    split at h
    · rename_i hi
      cases h
      exact q _ (E.set i r) ⟨by rw [List.length_set], fun j hj => List.getElem?_set_ne (fun z => hj (by rw [← z]; exact List.mem_singleton.mpr rfl))⟩
    · cases h
  | .tp ts, σ, ρ, ρ', v, d, Q, E, r, h, q => by
    unfold bindT at h
    split at h
    · cases r with
      | @tup a vs xs e n m rs =>
        exact ⟨a, vs, rfl, .inl (.inl e), by rw [rs.length]; exact bindTs_length h, simGs ts E rs h q⟩
    · cases h
theorem simGs : ∀ (ts : List Tg) {σ : L2.St} {ρ ρ' : DW.Env} {vs : List V} {ds : List D} {Q : L2.St → Hp → Prop}, RE K Γ w H σ ρ → RVs K w H vs ds → bindTs ts ds ρ = some ρ' → (∀ σ', RE K Γ w H σ' ρ' → Touch (Tg.slotss ts) σ σ' → Q σ' H) → gTs K ts vs σ H Q
  | [], σ, ρ, ρ', _, _, Q, E, .nil, h, q => by
    unfold bindTs at h
    cases h
    exact ⟨rfl, q σ E .refl⟩
  | [], σ, ρ, ρ', _, _, Q, E, .cons _ _, h, q => by simp [bindTs] at h
  | t :: ts, σ, ρ, ρ', _, _, Q, E, .nil, h, q => by simp [bindTs] at h
  | t :: ts, σ, ρ, ρ', _, _, Q, E, .cons (v := v) (vs := vs) r rs, h, q => by
    unfold bindTs at h
    split at h
    · rename_i ρ1 h1
      exact ⟨v, vs, rfl, simG t E r h1 fun σ1 E1 t1 => simGs ts E1 rs h fun σ2 E2 t2 => q σ2 E2 (t1.trans t2)⟩
    · cases h
end
end
theorem wipe_get (σ : L2.St) : ∀ (vs : List Nat) (i : Nat), (L2.wipe σ vs)[i]? = if i ∈ vs ∧ i < σ.length then some none else σ[i]?
  | [], i => by simp [L2.wipe]
  | v :: vs, i => by
    unfold L2.wipe
    by_cases hv : v = i
    · subst hv
      by_cases hl : v < σ.length
      · rw [List.getElem?_set_self (by rw [wipe_length]; exact hl), if_pos ⟨List.mem_cons_self, hl⟩]
      · rw [List.getElem?_eq_none (by rw [List.length_set, wipe_length]; omega), if_neg (fun z => hl z.2), List.getElem?_eq_none (by omega)]
    · rw [List.getElem?_set_ne hv, wipe_get σ vs i]
      have : (i ∈ v :: vs) ↔ i ∈ vs := by simp [Ne.symm hv]
      simp only [this]
theorem wipe_touch {vs l : List Nat} {σ τ : L2.St} (h : Touch l (L2.wipe σ vs) τ) (hs : ∀ i ∈ l, i ∈ vs) : L2.wipe τ vs = L2.wipe σ vs := by
  apply List.ext_getElem?
  intro i
  rw [wipe_get, wipe_get, show τ.length = σ.length by rw [h.1, wipe_length]]
  by_cases hi : i ∈ vs
  · by_cases hl : i < σ.length
    · rw [if_pos ⟨hi, hl⟩, if_pos ⟨hi, hl⟩]
    · rw [if_neg (fun z => hl z.2), if_neg (fun z => hl z.2), List.getElem?_eq_none (by rw [h.1, wipe_length]; omega), List.getElem?_eq_none (by omega)]
  · rw [if_neg (fun z => hi z.1), if_neg (fun z => hi z.1), h.2 i (fun z => hi (hs i z)), wipe_get, if_neg (fun z => hi z.1)]


section
variable {K : PySem.W.Frag} {w w' : Wd} {H H' : Hp} {p : Addr}
theorem Le.isPlus (l : Le (w.plus p) H w' H') : ∃ w'', w' = w''.plus p ∧ Le w H w'' H' := by
  refine ⟨⟨w'.α, w.av⟩, ?_, l.pre, rfl, l.fresh, l.keep⟩
  have := l.av
  cases w'; cases this; rfl
theorem Le.dropP (l : Le (w.plus p) H (w'.plus p) H') : Le w H w' H' := ⟨l.pre, (List.cons.inj l.av).2, l.fresh, l.keep⟩
theorem Le.updA {u : HO} (l : Le w H w' H') (e : H p = none) : Le w H w' (upd H' p u) := ⟨l.pre, l.av, l.fresh, fun a o h n => by rw [upd_ne (ne_of_none h e)]; exact l.keep a o h n⟩
theorem PG.pureW {fld : Nat → Str} {Q : VK} {E : XC} {P : WV → Store → Prop} {S₀ : Store} (R₀ : Rel K w H S₀) {r : DW.R WV} (h : match r with | .ok y S => P y S | _ => False)
    (hk : ∀ (w' : Wd) (H' : Hp) (v : V) (x : WV) (S : Store), Le w H w' H' → Rel K w' H' S → RV K w' H' v x.d → P x S → Q v H') : PW K fld w H Q E r := by
  cases r with
  | ok x S =>
    cases x with
    | val d => exact fun w' H' v l R r => hk w' H' v (.val d) S l R r h
    | new xs => exact fun w' H' p vs l e n q R r => hk w' H' (.ref p) (.new xs) S l R.weak (.lst q n (by rw [l.av]; exact R₀.noav e) (RVs.weak r)) h
  | exc c d S => exact h.elim
  | bad s => exact h.elim
end

def turnC (G : GX) (cur : Cur) (c el : CE) (ρ : DW.Env) (S : Store) : DW.R (Option D) := (evT G cur c ρ S).bind fun k S => if k then (ev G cur el ρ S).bind fun y S => .ok (some y.d) S else .ok none S
theorem ev_comp {G : GX} {cur : Cur} {own : List Nat} {tg : Tg} {k : IK} {it : CEs} {c el : CE} {ρ : DW.Env} {S : Store} : ev G cur (.comp own tg k it c el) ρ S = (evs G cur it ρ S).bind fun vs S => match itemsOf S k vs with
    | some (xs, g) => if xs.length ≤ LINE then (compL g (fun x S => match bindT tg x (DW.wipe ρ own) with
        | some ρ' => turnC G cur c el ρ' S
        | none => .bad "target") xs S).bind fun ys S => .ok (.new ys) S else .bad "size"
    | none => .bad "walk" := by
  rw [ev]
  congr 1
  funext vs S1
  cases itemsOf S1 k vs with
  | none => rfl
  | some p =>
    obtain ⟨xs, g⟩ := p
    dsimp only
    split
    · congr 1
      congr 1
      funext x S2
      cases bindT tg x (DW.wipe ρ own) with
      | none => rfl
      | some ρ' =>
        unfold turnC evT
        simp only [bind_assoc]
        congr 1
        funext b S3
        cases tru S3 b.d with
        | none => rfl
        | some q => cases q <;> rfl
    · rfl
section
variable {X : Cx} {Γ : Ctx}
abbrev Ctx.blk (Γ : Ctx) : Ctx := { Γ with W := fun _ _ _ _ => False, V := fun _ _ _ _ => False }
theorem sim_comp {own : List (Str × Nat)} {t : Tg} {k : IK} {its : CEs} {cc ce : CE} (ht : ∀ i ∈ t.slots, i ∈ own.map (·.2)) :
    ∀ {σ : L2.St} {H : Hp} {Q : VK}, tE X.K Γ (.comp (own.map (·.2)) t k its cc ce) σ H Q → tLc (tI X.K Γ k its) (gT X.K t) (tT X.K Γ.blk cc) (tE X.K Γ.blk ce) (own.map (·.2)) σ H Q := by
  intro σ H Q h
  obtain ⟨w, ρ, S, R, E, h⟩ := h
  unfold PW at h
  rw [ev_comp] at h
  refine ⟨w, ρ, S, R, E, ?_⟩
  cases q : evs Γ.G Γ.cur its ρ S with
  | exc c d S1 => rw [q] at h; exact h
  | bad z => rw [q] at h; exact h
  | ok ds S1 =>
    rw [q] at h
    change PG _ _ _ _ _ _ (match itemsOf S1 k ds with | some (xs, g) => _ | none => _) at h
    cases qi : itemsOf S1 k ds with
    | none => rw [qi] at h; exact h.elim
    | some pr =>
      obtain ⟨xs, g⟩ := pr
      rw [qi] at h
      dsimp only at h
      refine ⟨by rw [qi]; rfl, fun w1 H1 J l R1 jok D hD => ?_⟩
      obtain ⟨st0, hy⟩ := jok.1 _ qi
      dsimp only at st0 hy
      split at h
      · rename_i hLen
        have h0 := PG.base later_W l h
        have E1 := E.mono l
        generalize hf : (fun (x : DW.D) (S : Store) => match bindT t x (DW.wipe ρ (own.map (·.2))) with
          | some ρ' => turnC Γ.G Γ.cur cc ce ρ' S
          | none => .bad "target") = f at h0
        refine ⟨fun i m Hi => m = xs.length - i ∧ i ≤ xs.length ∧ ∃ (w' : Wd) (S' : Store) (vs : List V) (ds : List DW.D), Le w1 H1 w' Hi ∧ Rel X.K (w'.plus D) Hi S' ∧ Hi D = some (.lst vs) ∧ RVs X.K (w'.plus D) Hi vs ds ∧ ds.length ≤ i ∧ RE X.K Γ (w'.plus D) Hi σ ρ ∧
          PG X.K Γ.G.fld (TW X.K Q) w1 H1 (Γ.E σ) ((compL g f (xs.drop i) S').bind fun ys S => .ok (.new (ds ++ ys)) S), ⟨xs.length, by simp, Nat.zero_le _, w1, S1, [], [], (Le.refl.updA hD), R1.plus hD, upd_same, .nil, Nat.le_refl _, E1.plus hD, h0⟩, ?_⟩
        rintro i m Hi ⟨rfl, hi, w', S', vs, ds, l', R', hDi, rs, hdl, E', h'⟩
        have nD : D ∉ w'.α := (R'.av D List.mem_cons_self).1
        have lx : Lx w1 H1 (w'.plus D) Hi := Lx.plus l' hD
        by_cases hlt : i < xs.length
        · rw [List.drop_eq_getElem_cons hlt] at h'
          unfold compL at h'
          split at h'
          · rename_i hst
            obtain ⟨go, yl⟩ := (hy (w'.plus D) Hi S' lx R' hst).1 i _ (List.getElem?_eq_getElem hlt)
            refine .inr ⟨go, fun H2 => ∃ m', m' < xs.length - i ∧ (m' = xs.length - (i + 1) ∧ i + 1 ≤ xs.length ∧ ∃ (w' : Wd) (S' : Store) (vs : List V) (ds : List DW.D), Le w1 H1 w' H2 ∧ Rel X.K (w'.plus D) H2 S' ∧ H2 D = some (.lst vs) ∧ RVs X.K (w'.plus D) H2 vs ds ∧ ds.length ≤ i + 1 ∧ RE X.K Γ (w'.plus D) H2 σ ρ ∧
              PG X.K Γ.G.fld (TW X.K Q) w1 H1 (Γ.E σ) ((compL g f (xs.drop (i + 1)) S').bind fun ys S => .ok (.new (ds ++ ys)) S)), fun H2 z => z, fun v H2 hyl => ?_⟩
            obtain ⟨l2, R2, rv⟩ := yl v H2 hyl
            have hD2 : H2 D = some (.lst vs) := l2.keep D _ hDi nD
            have E2 := (E'.mono l2).wipe (own.map (·.2))
            cases qb : bindT t xs[i] (DW.wipe ρ (own.map (·.2))) with
            | none =>
              have hb : f xs[i] S' = .bad "target" := by rw [← hf]; simp only [qb]
              rw [hb] at h'; exact h'.elim
            | some ρ' =>
              have hb : f xs[i] S' = turnC Γ.G Γ.cur cc ce ρ' S' := by rw [← hf]; simp only [qb]
              rw [hb] at h'
              refine simG t E2 rv qb fun σ2 E3 tch => ⟨wipe_touch tch ht, w'.plus D, ρ', S', R2, E3.inner, ?_⟩
              unfold turnC at h'
              cases qc : evT Γ.G Γ.cur cc ρ' S' with
              | exc c d S3 => rw [qc] at h'; exact h'.elim
              | bad z => rw [qc] at h'; exact h'.elim
              | ok b S3 =>
                rw [qc] at h'
                intro w3 H3 l3 R3
                obtain ⟨w4, rfl, l4⟩ := l3.isPlus
                have hD3 : H3 D = some (.lst vs) := l3.keep D _ hD2 nD
                have l13 : Le w1 H1 w4 H3 := (l'.trans l2.dropP).trans l4
                have nD4 : D ∉ w4.α := (R3.av D List.mem_cons_self).1
                cases b with
                | false =>
                  rw [if_neg Bool.false_ne_true]
                  refine ⟨xs.length - (i + 1), by omega, rfl, hlt, w4, S3, vs, ds, l13, R3, hD3, (rs.mono l2).mono l3, by omega, (E'.mono l2).mono l3, ?_⟩
                  have h3 : PG X.K Γ.G.fld (TW X.K Q) w1 H1 (Γ.E σ) (((compL g f (xs.drop (i + 1)) S3).bind fun ys S2 => .ok ys S2).bind fun ys S => .ok (.new (ds ++ ys)) S) := h'
                  rw [bind_assoc] at h3
                  exact h3
                | true =>
                  rw [if_pos rfl]
                  refine ⟨w4.plus D, ρ', S3, R3, (E3.mono l3).inner, ?_⟩
                  refine PG.pureW (P := fun y S4 => PG X.K Γ.G.fld (TW X.K Q) w1 H1 (Γ.E σ) ((compL g f (xs.drop (i + 1)) S4).bind fun ys S => .ok (.new (ds ++ [y.d] ++ ys)) S)) R3 ?_ fun w5 H5 u x S5 l5 R5 r5 h5 => ?_
                  · have hx : PG X.K Γ.G.fld (TW X.K Q) w1 H1 (Γ.E σ) ((match (ev Γ.G Γ.cur ce ρ' S3).bind fun y S => DW.R.ok (some y.d) S with
                        | DW.R.ok o S1 => (compL g f (xs.drop (i + 1)) S1).bind fun ys S2 => DW.R.ok (match o with | some y => y :: ys | none => ys) S2
                        | DW.R.exc _ _ _ => DW.R.bad "an error out of a comprehension"
                        | DW.R.bad w => DW.R.bad w).bind fun ys S => .ok (.new (ds ++ ys)) S) := h'
                    cases qe : ev Γ.G Γ.cur ce ρ' S3 with
                    | exc c d S4 => rw [qe] at hx; exact hx.elim
                    | bad z => rw [qe] at hx; exact hx.elim
                    | ok y S4 =>
                      rw [qe] at hx
                      have h' := hx
                      have h3 : PG X.K Γ.G.fld (TW X.K Q) w1 H1 (Γ.E σ) (((compL g f (xs.drop (i + 1)) S4).bind fun ys S2 => .ok (y.d :: ys) S2).bind fun ys S => .ok (.new (ds ++ ys)) S) := h'
                      rw [bind_assoc] at h3
                      have e : (fun (ys : List DW.D) (S : Store) => DW.R.ok (WV.new (ds ++ [y.d] ++ ys)) S) = fun ys S => (DW.R.ok (y.d :: ys) S).bind fun ys S => .ok (.new (ds ++ ys)) S := by
                        funext ys S
                        show DW.R.ok _ S = DW.R.ok _ S
                        rw [List.append_assoc]; rfl
                      show PG _ _ _ _ _ _ _
                      rw [e]
                      exact h3
                  · obtain ⟨w6, rfl, l6⟩ := l5.isPlus
                    have hD5 : H5 D = some (.lst vs) := l5.keep D _ hD3 nD4
                    have nf : ∀ o u, H5 D ≠ some (.frz o u) := fun o u z => by rw [hD5] at z; cases z
                    refine ⟨vs, hD5, by rw [rs.length, sizeLine_LINE]; omega, xs.length - (i + 1), by omega, rfl, hlt, w6, S5, vs ++ [u], ds ++ [x.d], (l13.trans l6).updA hD, R5.updA nf, upd_same,
                      RVs.updA nf ((((rs.mono l2).mono l3).mono l5).append (.cons r5 .nil)), by rw [List.length_append]; simp; omega, (((E'.mono l2).mono l3).mono l5).updA hD5, h5⟩
          · exact h'.elim
        · have hi' : i = xs.length := by omega
          subst hi'
          rw [List.drop_length] at h'
          unfold compL at h'
          split at h'
          · rename_i hst
            refine .inl ⟨(hy (w'.plus D) Hi S' lx R' hst).2 _ rfl, ?_⟩
            have h3 : TW X.K Q w1 H1 (.new (ds ++ [])) S' := h'
            rw [List.append_nil] at h3
            exact h3 w' Hi D vs l' hD nD hDi R' rs
          · exact h'.elim
      · exact h.elim
end
end DW
end

section
set_option Elab.async false
set_option linter.all false
set_option maxRecDepth 100000
set_option maxHeartbeats 4000000
namespace DW
open PySem PySem.Spec PyProof.Rows L2


def PSt (K : PySem.W.Frag) (Γ : Ctx) (Dn : Ends) (w : Wd) (H : Hp) : RS → Prop
  | .nx ρ S => ∀ (w' : Wd) (H' : Hp) (σ' : L2.St), Le w H w' H' → Rel K w' H' S → RE K Γ w' H' σ' ρ → Dn.nx σ' H'
  | .bk ρ S => ∀ (w' : Wd) (H' : Hp) (σ' : L2.St), Le w H w' H' → Rel K w' H' S → RE K Γ w' H' σ' ρ → Dn.bk σ' H'
  | .ct ρ S => ∀ (w' : Wd) (H' : Hp) (σ' : L2.St), Le w H w' H' → Rel K w' H' S → RE K Γ w' H' σ' ρ → Dn.ct σ' H'
  | .rt d S => ∀ (w' : Wd) (H' : Hp) (v : V), Le w H w' H' → Rel K w' H' S → RV K w' H' v d → Dn.rt v H'
  | .exc c d ρ S => ∀ (w' : Wd) (H' : Hp) (σ' : L2.St) (dd : Addr) (u : V), Le w H w' H' → Rel K w' H' S → RE K Γ w' H' σ' ρ → H' dd = some (.xd [(Γ.G.fld c, u)]) → RV K w' H' u d → Γ.E σ' c dd H'
  | .bad _ => False
section
variable {K : PySem.W.Frag} {Γ : Ctx} {Dn : Ends} {w w' : Wd} {H H' : Hp}
theorem PSt.base (l : Le w H w' H') : ∀ {r : RS}, PSt K Γ Dn w H r → PSt K Γ Dn w' H' r
  | .nx _ _, h => fun w2 H2 σ m => h w2 H2 σ (l.trans m)
  | .bk _ _, h => fun w2 H2 σ m => h w2 H2 σ (l.trans m)
  | .ct _ _, h => fun w2 H2 σ m => h w2 H2 σ (l.trans m)
  | .rt _ _, h => fun w2 H2 v m => h w2 H2 v (l.trans m)
  | .exc _ _ _ _, h => fun w2 H2 σ dd u m => h w2 H2 σ dd u (l.trans m)
  | .bad _, h => h
theorem PSt.toX {ρ : DW.Env} {σ : L2.St} {S : Store} {c : Nat} {d : D} (E : RE K Γ w H σ ρ) (h : PSt K Γ Dn w H (.exc c d ρ S)) : PX K Γ.G.fld w H (Γ.E σ) c d S :=
  fun w' H' dd u l R hd ru => h w' H' σ dd u l R (E.mono l) hd ru
theorem PSt.toW {ρ : DW.Env} {σ : L2.St} {S₀ : Store} {Q : VK} {r : DW.R WV} {k : WV → Store → RS} (R₀ : Rel K w H S₀) (E : RE K Γ w H σ ρ) (h : PSt K Γ Dn w H (r.to ρ k))
    (hk : ∀ (w' : Wd) (H' : Hp) (v : V) (x : WV) (S : Store), Le w H w' H' → Rel K w' H' S → RV K w' H' v x.d → RE K Γ w' H' σ ρ → PSt K Γ Dn w' H' (k x S) → Q v H') : PW K Γ.G.fld w H Q (Γ.E σ) r := by
  cases r with
  | ok x S =>
    cases x with
    | val d => exact fun w' H' v l R r => hk w' H' v (.val d) S l R r (E.mono l) (PSt.base l h)
    | new xs => exact fun w' H' p vs l e n q R r => hk w' H' (.ref p) (.new xs) S l R.weak (.lst q n (by rw [l.av]; exact R₀.noav e) (RVs.weak r)) (E.mono l) (PSt.base l h)
  | exc c d S => exact PSt.toX E h
  | bad s => exact h
theorem PSt.toB {ρ : DW.Env} {σ : L2.St} {Q : Bool → Hp → Prop} {r : DW.R Bool} {k : Bool → Store → RS} (E : RE K Γ w H σ ρ) (h : PSt K Γ Dn w H (r.to ρ k))
    (hk : ∀ (w' : Wd) (H' : Hp) (x : Bool) (S : Store), Le w H w' H' → Rel K w' H' S → RE K Γ w' H' σ ρ → PSt K Γ Dn w' H' (k x S) → Q x H') : PG K Γ.G.fld (TB K Q) w H (Γ.E σ) r := by
  cases r with
  | ok x S => exact fun w' H' l R => hk w' H' x S l R (E.mono l) (PSt.base l h)
  | exc c d S => exact PSt.toX E h
  | bad s => exact h
theorem PSt.toL {ρ : DW.Env} {σ : L2.St} {Q : List V → Hp → Prop} {r : DW.R (List D)} {k : List D → Store → RS} (E : RE K Γ w H σ ρ) (h : PSt K Γ Dn w H (r.to ρ k))
    (hk : ∀ (w' : Wd) (H' : Hp) (vs : List V) (ds : List D) (S : Store), Le w H w' H' → Rel K w' H' S → RVs K w' H' vs ds → RE K Γ w' H' σ ρ → PSt K Γ Dn w' H' (k ds S) → Q vs H') : PG K Γ.G.fld (TL K Q) w H (Γ.E σ) r := by
  cases r with
  | ok x S => exact fun w' H' vs l R r => hk w' H' vs x S l R r (E.mono l) (PSt.base l h)
  | exc c d S => exact PSt.toX E h
  | bad s => exact h
end
def tS (K : PySem.W.Frag) (Γ : Ctx) (c : CS) : TS := fun Dn σ H => ∃ (w : Wd) (ρ : DW.Env) (S : Store), Rel K w H S ∧ RE K Γ w H σ ρ ∧ PSt K Γ Dn w H (ex Γ.G Γ.cur c ρ S)
def tSs (K : PySem.W.Frag) (Γ : Ctx) (c : CSs) : TS := fun Dn σ H => ∃ (w : Wd) (ρ : DW.Env) (S : Store), Rel K w H S ∧ RE K Γ w H σ ρ ∧ PSt K Γ Dn w H (exs Γ.G Γ.cur c ρ S)
theorem PS.weak {X : Cx} {e : Stmt} {t t' : TS} (h : PS X e t) (f : ∀ D σ H, t' D σ H → t D σ H) : PS X e t' := ⟨fun pins s σ H D I q => h.run pins s σ H D I (f D σ H q)⟩
theorem PSs.weak {X : Cx} {e : List Stmt} {t t' : TS} (h : PSs X e t) (f : ∀ D σ H, t' D σ H → t D σ H) : PSs X e t' := ⟨fun pins s σ H D I q => h.run pins s σ H D I (f D σ H q)⟩
section
variable {X : Cx} {Γ : Ctx} {pos : Pos}
theorem simS_nil : PSs X [] (tSs X.K Γ .nil) := PSs.weak pss_nil fun D σ H ⟨w, ρ, S, R, E, h⟩ => h w H σ Le.refl R E
theorem simS_cons {st : Stmt} {rest : List Stmt} {s : CS} {r : CSs} (h1 : PS X st (tS X.K Γ s)) (h2 : PSs X rest (tSs X.K Γ r)) : PSs X (st :: rest) (tSs X.K Γ (.cons s r)) := by
  refine PSs.weak (pss_cons h1 h2) fun D σ H h => ?_
  obtain ⟨w, ρ, S, R, E, h⟩ := h
  refine ⟨w, ρ, S, R, E, ?_⟩
  unfold exs at h
  cases q : ex Γ.G Γ.cur s ρ S with
  | nx ρ1 S1 => rw [q] at h; exact fun w' H' σ' l R' E' => ⟨w', ρ1, S1, R', E', PSt.base l h⟩
  | rt d S1 => rw [q] at h; exact h
  | bk ρ1 S1 => rw [q] at h; exact h
  | ct ρ1 S1 => rw [q] at h; exact h
  | exc c d ρ1 S1 => rw [q] at h; exact h
  | bad z => rw [q] at h; exact h
theorem simS_pass : PS X (.Pass pos) (tS X.K Γ .pass) := PS.weak ps_pass fun D σ H ⟨w, ρ, S, R, E, h⟩ => h w H σ Le.refl R E
theorem simS_brk : PS X (.Break pos) (tS X.K Γ .brk) := PS.weak ps_break fun D σ H ⟨w, ρ, S, R, E, h⟩ => h w H σ Le.refl R E
theorem simS_cont : PS X (.Continue pos) (tS X.K Γ .cont) := PS.weak ps_continue fun D σ H ⟨w, ρ, S, R, E, h⟩ => h w H σ Le.refl R E
theorem simS_doc {x j pos pos'} : PS X (.Expr (.Constant (.str x) j pos) pos') (tS X.K Γ .pass) := PS.weak ps_doc fun D σ H ⟨w, ρ, S, R, E, h⟩ => h w H σ Le.refl R E
theorem simS_xpr {e : Expr} {c : CE} (he : PE X e (tE X.K Γ c)) (hs : swapsWith e none pos.line X.env = pure false) : PS X (.Expr e pos) (tS X.K Γ (.xpr c)) := by
  refine PS.weak (ps_expr he hs) fun D σ H h => ?_
  obtain ⟨w, ρ, S, R, E, h⟩ := h
  exact ⟨w, ρ, S, R, E, PSt.toW R E h fun w1 H1 v x S1 l R1 r E1 h1 => h1 w1 H1 σ Le.refl R1 E1⟩
theorem simS_ret {e : Expr} {c : CE} (he : PE X e (tE X.K Γ c)) : PS X (.Return (some e) pos) (tS X.K Γ (.ret c)) := by
  refine PS.weak (ps_ret he) fun D σ H h => ?_
  obtain ⟨w, ρ, S, R, E, h⟩ := h
  exact ⟨w, ρ, S, R, E, PSt.toW R E h fun w1 H1 v x S1 l R1 r E1 h1 => h1 w1 H1 v Le.refl R1 r⟩
theorem simS_retN : PS X (.Return none pos) (tS X.K Γ (.ret (.cst .non))) := PS.weak ps_retN fun D σ H ⟨w, ρ, S, R, E, h⟩ => h w H .non Le.refl R .non
theorem ex_cond {G : GX} {cur : Cur} {c : CE} {a b : CSs} {ρ : DW.Env} {S : Store} : ex G cur (.cond c a b) ρ S = (evT G cur c ρ S).to ρ fun k S => if k then exs G cur a ρ S else exs G cur b ρ S := by
  unfold evT
  rw [ex]
  cases ev G cur c ρ S with
  | ok x S1 =>
    show (match tru S1 x.d with
      | some true => exs G cur a ρ S1
      | some false => exs G cur b ρ S1
      | none => .bad "truth") = (R.opt "truth" (tru S1 x.d) S1).to ρ _
    cases z : tru S1 x.d with
    | none => rfl
    | some k => cases k <;> rfl
  | exc c d S1 => rfl
  | bad z => rfl
theorem simS_if {c : Expr} {a b : List Stmt} {cc : CE} {ca cb : CSs} (hc : PT X c (tT X.K Γ cc)) (ha : PSs X a (tSs X.K Γ ca)) (hb : PSs X b (tSs X.K Γ cb)) : PS X (.If c a b pos) (tS X.K Γ (.cond cc ca cb)) := by
  refine PS.weak (ps_if hc ha hb) fun D σ H h => ?_
  obtain ⟨w, ρ, S, R, E, h⟩ := h
  rw [ex_cond] at h
  refine ⟨w, ρ, S, R, E, PSt.toB E h fun w1 H1 k S1 l R1 E1 h1 => ?_⟩
  cases k with
  | true => rw [if_pos rfl]; exact ⟨w1, ρ, S1, R1, E1, h1⟩
  | false => rw [if_neg Bool.false_ne_true]; exact ⟨w1, ρ, S1, R1, E1, h1⟩

theorem simS_asg {tg e : Expr} {c : CE} {t : Tg} (he : PE X e (tE X.K Γ c)) (hg : L2.PG X tg (gT X.K t)) (hs : swapsWithSole [tg] e pos.line X.env = pure false) (hw : swappedStores [tg] e X.env = pure none)
    (h1 : (assignEach [tg] X.env).map (·.2) = [assign tg X.env]) : PS X (.Assign [tg] e pos) (tS X.K Γ (.asg t c)) := by
  refine PS.weak (ps_asg he hg hs hw h1) fun D σ H h => ?_
  obtain ⟨w, ρ, S, R, E, h⟩ := h
  refine ⟨w, ρ, S, R, E, PSt.toW R E h fun w1 H1 v x S1 l R1 r E1 h1 => ?_⟩
  cases q : bindT t x.d ρ with
  | none => rw [q] at h1; exact h1.elim
  | some ρ' => rw [q] at h1; exact simG t E1 r q fun σ' E' _ => h1 w1 H1 σ' Le.refl R1 E'
theorem simS_set {i : Nat} {x : Str} {e : Expr} {c : CE} {pos' : Pos} (hN : X.N.Nodup) (hi : X.N[i]? = some x) (hx : Loc X.env.scope x) (he : PE X e (tE X.K Γ c)) (hs : swapsWith e (some (.Name x pos')) pos.line X.env = pure false)
    (hf : X.fn x = true ∨ X.env.scope.names.lookup x = some .local) : PS X (.Assign [.Name x pos'] e pos) (tS X.K Γ (.asg (.nm i) c)) := by
  refine PS.weak (ps_set hN hi hx he hs hf) fun D σ H h => ?_
  obtain ⟨w, ρ, S, R, E, h⟩ := h
  refine ⟨w, ρ, S, R, E, PSt.toW R E h fun w1 H1 v x S1 l R1 r E1 h1 => ?_⟩
  cases q : bindT (.nm i) x.d ρ with
  | none => rw [q] at h1; exact h1.elim
  | some ρ' => rw [q] at h1; exact simG (.nm i) E1 r q fun σ' E' _ => h1 w1 H1 σ' Le.refl R1 E'

theorem simS_lc {i : Nat} {y : Str} {py : Pos} {elt tg iter : Expr} {ifs : List Expr} {scope : Scope} {own : List (Str × Nat)} {pos spos : Pos} {t : Tg} {k : IK} {its : CEs} {cc ce : CE} (hc : X.calm = true) (hN : X.N.Nodup) (hy : X.N[i]? = some y) (hyl : X.env.scope.names.lookup y = some .local)
    (hsw : swapsWith (.ListComp elt [⟨tg, iter, ifs, 0⟩] scope pos) (some (.Name y py)) spos.line X.env = pure true) (hi : PI X tg iter (tI X.K Γ k its)) (ok : BlkOk X.N X.env.scope scope own)
    (hg : ∀ (s : Shared) (H : Hp) (C : Addr) (cl : List (Str × Addr)) (fp : List Addr), L2.PG (X.blk s H scope (compEnvC scope cl C X.env) fp) tg (gT X.K t)) (ht : ∀ (s : Shared) (H : Hp) (C : Addr) (cl : List (Str × Addr)) (fp : List Addr), PTs (X.blk s H scope (compEnvC scope cl C X.env) fp) ifs (tT X.K Γ.blk cc))
    (he : ∀ (s : Shared) (H : Hp) (C : Addr) (cl : List (Str × Addr)) (fp : List Addr), PE (X.blk s H scope (compEnvC scope cl C X.env) fp) elt (tE X.K Γ.blk ce)) (hs : ∀ x, foldedSetIterable iter X.env x = pure x) (htg : ∀ i ∈ t.slots, i ∈ own.map (·.2)) (b : Bool) :
    PS X (.Assign [.Name y py] (.ListComp elt [⟨tg, iter, ifs, 0⟩] scope pos) spos) (tS X.K Γ (.asg (.nm i) (newIf b (.comp (own.map (·.2)) t k its cc ce)))) := by
  refine PS.weak (ps_setLc hc hN hy hyl hsw hi ok hg ht he hs) fun D σ H h => ?_
  obtain ⟨w, ρ, S, R, E, h⟩ := h
  have key : PW X.K Γ.G.fld w H (fun v H1 => gName i v σ H1 D.nx) (Γ.E σ) (ev Γ.G Γ.cur (newIf b (.comp (own.map (·.2)) t k its cc ce)) ρ S) := by
    refine PSt.toW R E h fun w1 H1 v x S1 l R1 r E1 h1 => ?_
    cases q : bindT (.nm i) x.d ρ with
    | none => rw [q] at h1; exact h1.elim
    | some ρ' => rw [q] at h1; exact simG (.nm i) E1 r q fun σ' E' _ => h1 w1 H1 σ' Le.refl R1 E'
  have key2 : tE X.K Γ (.comp (own.map (·.2)) t k its cc ce) σ H (fun v H1 => gName i v σ H1 D.nx) := by
    refine ⟨w, ρ, S, R, E, ?_⟩
    cases b with
    | false => exact key
    | true =>
      have key : PW X.K Γ.G.fld w H (fun v H1 => gName i v σ H1 D.nx) (Γ.E σ) (ev Γ.G Γ.cur (.new (.comp (own.map (·.2)) t k its cc ce)) ρ S) := key
      unfold ev at key
      cases q : ev Γ.G Γ.cur (.comp (own.map (·.2)) t k its cc ce) ρ S with
      | ok x S1 =>
        rw [q] at key
        cases x with
        | val d => exact key.elim
        | new xs => exact PW.toRef R key
      | exc c d S1 => rw [q] at key; exact key
      | bad z => rw [q] at key; exact key
  exact sim_comp htg key2

theorem evs_two' {G : GX} {cur : Cur} {a b : CE} {ρ : DW.Env} {S : Store} : evs G cur (.cons a (.cons b .nil)) ρ S = (ev G cur a ρ S).bind fun x S => (ev G cur b ρ S).bind fun y S => .ok [x.d, y.d] S := evs_two
theorem PG.fromTup {K : PySem.W.Frag} {Γ : Ctx} {Dn : Ends} {w : Wd} {H : Hp} {σ : L2.St} {ρ : DW.Env} {S : Store} {cs : CEs} {t : Tg} {Q : List V → Hp → Prop} (R : Rel K w H S) (E : RE K Γ w H σ ρ) (h : PSt K Γ Dn w H (ex Γ.G Γ.cur (.asg t (.tup cs)) ρ S))
    (hk : ∀ (w' : Wd) (H' : Hp) (vs : List V) (ds : List D) (S : Store) (ρ' : DW.Env), Le w H w' H' → Rel K w' H' S → RVs K w' H' vs ds → RE K Γ w' H' σ ρ → bindT t (.tup ds) ρ = some ρ' → PSt K Γ Dn w' H' (.nx ρ' S) → Q vs H') : PG K Γ.G.fld (TL K Q) w H (Γ.E σ) (evs Γ.G Γ.cur cs ρ S) := by
  unfold ex ev at h
  cases q : evs Γ.G Γ.cur cs ρ S with
  | ok ds S1 =>
    rw [q] at h
    change PSt _ _ _ _ _ ((if ds.length ≤ LINE then DW.R.ok (WV.val (.tup ds)) S1 else DW.R.bad "size").to ρ _) at h
    split at h
    · intro w' H' vs l R' rs
      cases qb : bindT t (.tup ds) ρ with
      | none =>
        have h2 : PSt K Γ Dn w H (match bindT t (D.tup ds) ρ with | some ρ' => .nx ρ' S1 | none => .bad "target") := h
        rw [qb] at h2; exact h2.elim
      | some ρ' =>
        have h2 : PSt K Γ Dn w H (match bindT t (D.tup ds) ρ with | some ρ' => .nx ρ' S1 | none => .bad "target") := h
        rw [qb] at h2
        exact hk w' H' vs ds S1 ρ' l R' rs (E.mono l) qb (PSt.base l h2)
    · exact h.elim
  | exc c d S1 => rw [q] at h; exact PSt.toX E h
  | bad z => rw [q] at h; exact h
theorem simS_par2 {i j : Nat} {x y : Str} {a b : Expr} {cs : CEs} {px py pt : Pos} {kt k2 pt2} (hc : X.calm = true) (hN : X.N.Nodup) (hi : X.N[i]? = some x) (hj : X.N[j]? = some y) (hij : i ≠ j)
    (hx : X.env.scope.names.lookup x = some .local) (hy : X.env.scope.names.lookup y = some .local) (ha : PA X [a, b] (tA X.K Γ cs))
    (hw : swappedStores [.Tuple [.Name x px, .Name y py] kt pt] (.Tuple [a, b] k2 pt2) X.env = pure (some [x, y])) :
    PS X (.Assign [.Tuple [.Name x px, .Name y py] kt pt] (.Tuple [a, b] k2 pt2) pos) (tS X.K Γ (.asg (.tp [.nm i, .nm j]) (.tup cs))) := by
  refine PS.weak (ps_par hc hN hi hj hij hx hy ha hw rfl) fun D σ H h => ?_
  obtain ⟨w, ρ, S, R, E, h⟩ := h
  refine ⟨w, ρ, S, R, E, PG.fromTup R E h fun w' H' vs ds S1 ρ' l R' rs E' hb h' => ?_⟩
  have hl := bindTs_length (ts := [.nm i, .nm j]) (by unfold bindT at hb; exact hb)
  obtain ⟨d, e, rfl⟩ : ∃ d e, ds = [d, e] := by
    cases ds with
    | nil => simp at hl
    | cons d ds => cases ds with
      | nil => simp at hl
      | cons e ds => cases ds with
        | nil => exact ⟨d, e, rfl⟩
        | cons _ _ => simp at hl
  obtain ⟨v, u, rfl, rv, ru⟩ := rs.two
  refine ⟨v, u, rfl, h' w' H' _ Le.refl R' ?_⟩
  simp only [bindT, bindTs] at hb
  split at hb
  · rename_i ρ1 h1
    split at h1
    · cases h1
      split at hb
      · rename_i ρ2 h2
        split at h2
        · cases h2
          cases hb
          exact (E'.set i rv).set j ru
        · cases h2
      · cases hb
    · cases h1
  · cases hb
theorem simS_par3 {i j k : Nat} {x y z : Str} {a b c : Expr} {cs : CEs} {px py pz pt : Pos} {kt k2 pt2} (hc : X.calm = true) (hN : X.N.Nodup) (hi : X.N[i]? = some x) (hj : X.N[j]? = some y) (hk : X.N[k]? = some z) (hij : i ≠ j) (hik : i ≠ k) (hjk : j ≠ k)
    (hx : X.env.scope.names.lookup x = some .local) (hy : X.env.scope.names.lookup y = some .local) (hz : X.env.scope.names.lookup z = some .local) (ha : PA X [a, b, c] (tA X.K Γ cs))
    (hw : swappedStores [.Tuple [.Name x px, .Name y py, .Name z pz] kt pt] (.Tuple [a, b, c] k2 pt2) X.env = pure (some [x, y, z])) :
    PS X (.Assign [.Tuple [.Name x px, .Name y py, .Name z pz] kt pt] (.Tuple [a, b, c] k2 pt2) pos) (tS X.K Γ (.asg (.tp [.nm i, .nm j, .nm k]) (.tup cs))) := by
  refine PS.weak (ps_par3 hc hN hi hj hk hij hik hjk hx hy hz ha hw rfl) fun D σ H h => ?_
  obtain ⟨w, ρ, S, R, E, h⟩ := h
  refine ⟨w, ρ, S, R, E, PG.fromTup R E h fun w' H' vs ds S1 ρ' l R' rs E' hb h' => ?_⟩
  have hl := bindTs_length (ts := [.nm i, .nm j, .nm k]) (by unfold bindT at hb; exact hb)
  obtain ⟨d, e, f, rfl⟩ : ∃ d e f, ds = [d, e, f] := by
    cases ds with
    | nil => simp at hl
    | cons d ds => cases ds with
      | nil => simp at hl
      | cons e ds => cases ds with
        | nil => simp at hl
        | cons f ds => cases ds with
          | nil => exact ⟨d, e, f, rfl⟩
          | cons _ _ => simp at hl
  cases rs with
  | @cons v _ _ _ rv rs =>
    obtain ⟨u, t, rfl, ru, rt⟩ := rs.two
    refine ⟨v, u, t, rfl, h' w' H' _ Le.refl R' ?_⟩
    simp only [bindT, bindTs] at hb
    split at hb
    · rename_i ρ1 h1
      split at h1
      · cases h1
        split at hb
        · rename_i ρ2 h2
          split at h2
          · cases h2
            split at hb
            · rename_i ρ3 h3
              split at h3
              · cases h3
                cases hb
                exact ((E'.set i rv).set j ru).set k rt
              · cases h3
            · cases hb
          · cases h2
        · cases hb
      · cases h1
    · cases hb

def rPut (K : PySem.W.Frag) : TSet := fun o i v H Q => ∃ (w : Wd) (S S' : Store) (d e x : D), Rel K w H S ∧ RV K w H o d ∧ RV K w H i e ∧ RV K w H v x ∧ putD S d e x = some S' ∧ ∀ H', Le w H w H' → Rel K w H' S' → Q H'
theorem set_S (hu : X.A.units + 65 < cLine) : PSet X (rPut X.K) := by
  intro pins s σ H o i v ov iv u Q I ro ri rv h
  obtain ⟨w, S, S', d, e, x, R, rd, re, rx, hp, hQ⟩ := h
  cases d with
  | ref n =>
    cases rd with
    | @ref _ a hn =>
      have hm := List.mem_of_getElem? hn
      unfold putD at hp
      simp only at hp
      cases hS : S[n]? with
      | none => rw [hS] at hp; cases hp
      | some ob =>
        rw [hS] at hp
        cases ob with
        | lst xs =>
          simp only at hp
          obtain ⟨vs, hH, rs⟩ := R.at hn hS
          cases e with
          | int k =>
            cases re
            obtain ⟨j, hj, rfl⟩ := Option.map_eq_some_iff.mp hp
            have lc := Le.chg (H := H) hm (u := .lst (vs.set j v))
            exact set_list pins s σ H _ _ v ov iv u Q I ro ri rv ⟨a, vs, k, j, rfl, rfl, hH, by rw [rs.length]; exact hj, hQ _ lc (R.chg hn ⟨_, upd_same, (rs.set rx j).mono lc⟩)⟩
          | _ => cases hp
        | dct t kvs =>
          simp only at hp
          split at hp
          · rename_i hk
            simp only [Bool.and_eq_true, decide_eq_true_eq] at hk
            cases hp
            cases ro
            cases t with
            | false =>
              obtain ⟨ks, hH, ps⟩ := R.at hn hS
              obtain ⟨q, rfl, rfl⟩ := key1 hk.1 re
              have lc := Le.chg (H := H) hm (u := .dK (putK ks q v))
              have hl : ks.length < sizeLine := by
                have : ks.length = kvs.length := by
                  clear hQ hk hS lc I ri hH
                  induction ps with
                  | nil => rfl
                  | cons _ _ ih => rw [List.length_cons, List.length_cons, ih]
                rw [this, sizeLine_LINE]; exact hk.2
              exact d_setItem (by omega) I (.inl ⟨ks, q, hH, rfl, hl, rfl⟩) ri rv fun s' I' => ⟨_, I', hQ _ lc (R.chg hn ⟨_, upd_same, Paired.imp (put_rv keyD_inj ps q rx) fun p z h => ⟨h.1, h.2.mono lc⟩⟩)⟩
            | true =>
              obtain ⟨ks, hH, ps⟩ := R.at hn hS
              obtain ⟨b, q, rfl, hb, rfl⟩ := key2 hk.1 re
              have lc := Le.chg (H := H) hm (u := .dT (putK ks q v))
              have hl : ks.length < sizeLine := by
                have : ks.length = kvs.length := by
                  clear hQ hk hS lc I ri hH
                  induction ps with
                  | nil => rfl
                  | cons _ _ ih => rw [List.length_cons, List.length_cons, ih]
                rw [this, sizeLine_LINE]; exact hk.2
              exact d_setItem (by omega) I (.inr ⟨ks, q, b, hH, rfl, hb, hl, rfl⟩) ri rv fun s' I' => ⟨_, I', hQ _ lc (R.chg hn ⟨_, upd_same, Paired.imp (put_rv tkeyD_inj ps q rx) fun p z h => ⟨h.1, h.2.mono lc⟩⟩)⟩
          · cases hp
        | ins c fs => cases hp
  | _ => cases hp
theorem simS_put {o i e : Expr} {co ci ce : CE} {p2 : Pos} (hu : X.A.units + 65 < cLine) (ho : PE X o (tE X.K Γ co)) (hi : PE X i (tE X.K Γ ci)) (he : PE X e (tE X.K Γ ce)) (hs : swapsWithSole [.Subscript o i p2] e pos.line X.env = pure false) (hw : swappedStores [.Subscript o i p2] e X.env = pure none)
    (ha : ∀ v, assign (.Subscript o i p2) X.env v = (do
      let ov ← holding [v] (eval o X.env)
      let iv ← holding [v, ov] (eval i X.env)
      standAt p2
      holding [v, ov, iv] (setItem ov iv v)
      release [v, ov, iv] [])) (h1 : (assignEach [.Subscript o i p2] X.env).map (·.2) = [assign (.Subscript o i p2) X.env]) : PS X (.Assign [.Subscript o i p2] e pos) (tS X.K Γ (.put co ci ce)) := by
  refine PS.weak (ps_asg he (pg_sub ho hi (set_S hu) ha) hs hw h1) fun D σ H h => ?_
  obtain ⟨w, ρ, S, R, E, h⟩ := h
  refine ⟨w, ρ, S, R, E, PSt.toW R E h fun w1 H1 v x S1 l R1 r E1 h1 => ⟨w1, ρ, S1, R1, E1, PSt.toW R1 E1 h1 fun w2 H2 a y S2 m R2 q E2 h2 => ⟨w2, ρ, S2, R2, E2, PSt.toW R2 E2 h2 fun w3 H3 b z S3 n R3 t E3 h3 => ?_⟩⟩⟩
  cases hp : putD S3 y.d z.d x.d with
  | none => rw [hp] at h3; exact h3.elim
  | some S' => rw [hp] at h3; exact ⟨w3, S3, S', y.d, z.d, x.d, R3, q.mono n, t, (r.mono m).mono n, hp, fun H' l' R' => h3 w3 H' σ l' R' (E3.mono l')⟩
theorem sim_lc {elt tg iter : Expr} {ifs : List Expr} {scope : Scope} {own : List (Str × Nat)} {t : Tg} {k : IK} {its : CEs} {cc ce : CE} (hc : X.calm = true) (hN : X.N.Nodup) (hi : PI X tg iter (tI X.K Γ k its)) (ok : BlkOk X.N X.env.scope scope own)
    (hg : ∀ (s : Shared) (H : Hp) (C : Addr) (cl : List (Str × Addr)) (fp : List Addr), L2.PG (X.blk s H scope (compEnvC scope cl C X.env) fp) tg (gT X.K t)) (ht : ∀ (s : Shared) (H : Hp) (C : Addr) (cl : List (Str × Addr)) (fp : List Addr), PTs (X.blk s H scope (compEnvC scope cl C X.env) fp) ifs (tT X.K Γ.blk cc))
    (he : ∀ (s : Shared) (H : Hp) (C : Addr) (cl : List (Str × Addr)) (fp : List Addr), PE (X.blk s H scope (compEnvC scope cl C X.env) fp) elt (tE X.K Γ.blk ce)) (hs : ∀ x, foldedSetIterable iter X.env x = pure x) (htg : ∀ i ∈ t.slots, i ∈ own.map (·.2)) :
    PE X (.ListComp elt [⟨tg, iter, ifs, 0⟩] scope pos) (tE X.K Γ (.comp (own.map (·.2)) t k its cc ce)) :=
  PE.weak (pe_lc hc hN hi ok hg ht he hs) fun σ H Q h => sim_comp htg h

theorem simS_while {c : Expr} {body : List Stmt} {cc : CE} {cb : CSs} (hp : PassesOwn (model X.prog X.w) X.A X.env X.xe) (hc : PT X c (tT X.K Γ cc)) (hb : PSs X body (tSs X.K Γ cb)) : PS X (.While c body [] pos) (tS X.K Γ (.whl cc cb)) := by
  refine PS.weak (ps_while hp hc hb) fun Dn σ H h => ?_
  obtain ⟨w, ρ, S, R, E, h⟩ := h
  have h' : PSt X.K Γ Dn w H (whlL (fun ρ S => evT Γ.G Γ.cur cc ρ S) (fun ρ S => exs Γ.G Γ.cur cb ρ S) LIM ρ S) := by unfold ex at h; exact h
  refine ⟨fun m σ H => ∃ (w : Wd) (ρ : DW.Env) (S : Store), Rel X.K w H S ∧ RE X.K Γ w H σ ρ ∧ PSt X.K Γ Dn w H (whlL (fun ρ S => evT Γ.G Γ.cur cc ρ S) (fun ρ S => exs Γ.G Γ.cur cb ρ S) m ρ S), ⟨_, w, ρ, S, R, E, h'⟩, ?_⟩
  rintro m σ1 H1 ⟨w1, ρ1, S1, R1, E1, h1⟩
  cases m with
  | zero => exact h1.elim
  | succ m =>
    unfold whlL at h1
    refine ⟨w1, ρ1, S1, R1, E1, PSt.toB E1 h1 fun w2 H2 k S2 l R2 E2 h2 => ?_⟩
    cases k with
    | false => rw [if_neg Bool.false_ne_true]; exact h2 w2 H2 σ1 Le.refl R2 E2
    | true =>
      rw [if_pos rfl]
      refine ⟨fun σ' H' => ∃ (w : Wd) (ρ : DW.Env) (S : Store), Rel X.K w H' S ∧ RE X.K Γ w H' σ' ρ ∧ PSt X.K Γ Dn w H' (whlL (fun ρ S => evT Γ.G Γ.cur cc ρ S) (fun ρ S => exs Γ.G Γ.cur cb ρ S) m ρ S), fun σ' H' z => ⟨m, Nat.lt_succ_self m, z⟩, w2, ρ1, S2, R2, E2, ?_⟩
      have h3 : PSt X.K Γ Dn w2 H2 (match exs Γ.G Γ.cur cb ρ1 S2 with
        | .nx ρ' S' => whlL (fun ρ S => evT Γ.G Γ.cur cc ρ S) (fun ρ S => exs Γ.G Γ.cur cb ρ S) m ρ' S'
        | .ct ρ' S' => whlL (fun ρ S => evT Γ.G Γ.cur cc ρ S) (fun ρ S => exs Γ.G Γ.cur cb ρ S) m ρ' S'
        | .bk ρ' S' => .nx ρ' S'
        | r => r) := h2
      cases q : exs Γ.G Γ.cur cb ρ1 S2 with
      | nx ρ' S' => rw [q] at h3; exact fun w' H' σ' l' R' E' => ⟨w', ρ', S', R', E', PSt.base l' h3⟩
      | ct ρ' S' => rw [q] at h3; exact fun w' H' σ' l' R' E' => ⟨w', ρ', S', R', E', PSt.base l' h3⟩
      | bk ρ' S' => rw [q] at h3; exact h3
      | rt d S' => rw [q] at h3; exact h3
      | exc c d ρ' S' => rw [q] at h3; exact h3
      | bad z => rw [q] at h3; exact h3
theorem simS_for {tg iter : Expr} {body : List Stmt} {t : Tg} {k : IK} {its : CEs} {cb : CSs} (hp : PassesOwn (model X.prog X.w) X.A X.env X.xe) (hc : X.calm = true) (hi : PI X tg iter (tI X.K Γ k its)) (hg : L2.PG X tg (gT X.K t)) (hb : PSs X body (tSs X.K Γ cb))
    (hs : ∀ x, foldedSetIterable iter X.env x = pure x) : PS X (.For tg iter body [] pos) (tS X.K Γ (.loop t k its cb)) := by
  refine PS.weak (ps_for hp hc hi hg hb hs) fun Dn σ H h => ?_
  obtain ⟨w, ρ, S, R, E, h⟩ := h
  refine ⟨w, ρ, S, R, E, ?_⟩
  generalize hf : (fun (x : D) (ρ : DW.Env) (S : Store) => match bindT t x ρ with
    | some ρ' => exs Γ.G Γ.cur cb ρ' S
    | none => RS.bad "target") = f
  have h' : PSt X.K Γ Dn w H ((evs Γ.G Γ.cur its ρ S).to ρ fun vs S => loopR k vs f ρ S) := by
    rw [← hf]; unfold ex at h; exact h
  clear h
  have turn : ∀ {Nn : L2.St → Hp → Prop} {w2 : Wd} {H2 : Hp} {S2 : Store} {σ1 : L2.St} {ρ1 : DW.Env} {v : V} {x : D} {cont : DW.Env → Store → RS}, Rel X.K w2 H2 S2 → RE X.K Γ w2 H2 σ1 ρ1 → RV X.K w2 H2 v x →
      PSt X.K Γ Dn w2 H2 (match f x ρ1 S2 with
        | .nx ρ' S' => cont ρ' S'
        | .ct ρ' S' => cont ρ' S'
        | .bk ρ' S' => .nx ρ' S'
        | r => r) → (∀ (w' : Wd) (H' : Hp) (σ' : L2.St) (ρ' : DW.Env) (S' : Store), Le w2 H2 w' H' → Rel X.K w' H' S' → RE X.K Γ w' H' σ' ρ' → PSt X.K Γ Dn w' H' (cont ρ' S') → Nn σ' H') →
      gT X.K t v σ1 H2 fun σ2 H2 => tSs X.K Γ cb { Dn with nx := Nn, ct := Nn, bk := Dn.nx } σ2 H2 := by
    intro Nn w2 H2 S2 σ1 ρ1 v x cont R2 E2 rv h3 hN
    cases qb : bindT t x ρ1 with
    | none =>
      have hb : f x ρ1 S2 = .bad "target" := by rw [← hf]; simp only [qb]
      rw [hb] at h3; exact h3.elim
    | some ρ' =>
      have hb : f x ρ1 S2 = exs Γ.G Γ.cur cb ρ' S2 := by rw [← hf]; simp only [qb]
      rw [hb] at h3
      refine simG t E2 rv qb fun σ2 E3 _ => ⟨w2, ρ', S2, R2, E3, ?_⟩
      cases q : exs Γ.G Γ.cur cb ρ' S2 with
      | nx ρ' S' => rw [q] at h3; exact fun w' H' σ' l' R' E' => hN w' H' σ' ρ' S' l' R' E' (PSt.base l' h3)
      | ct ρ' S' => rw [q] at h3; exact fun w' H' σ' l' R' E' => hN w' H' σ' ρ' S' l' R' E' (PSt.base l' h3)
      | bk ρ' S' => rw [q] at h3; exact h3
      | rt d S' => rw [q] at h3; exact h3
      | exc c d ρ' S' => rw [q] at h3; exact h3
      | bad z => rw [q] at h3; exact h3
  cases q : evs Γ.G Γ.cur its ρ S with
  | exc c d S1 => rw [q] at h'; exact PSt.toX E h'
  | bad z => rw [q] at h'; exact h'
  | ok ds S1 =>
    rw [q] at h'
    by_cases hR : ∃ n, k = .seq ∧ ds = [.ref n]
    · obtain ⟨n, rfl, rfl⟩ := hR
      have h1 : PSt X.K Γ Dn w H (forR n f LIM 0 ρ S1) := h'
      refine ⟨?_, fun w1 H1 J l R1 jok => ?_⟩
      · have h2 := h1
        rw [show LIM = 1099511627775 + 1 from rfl] at h2
        unfold forR at h2
        unfold itemsOf srcOf
        simp only
        cases hS : S1[n]? with
        | none => rw [hS] at h2; exact h2.elim
        | some o =>
          cases o with
          | lst xs => rfl
          | dct t kvs => rw [hS] at h2; exact h2.elim
          | ins c fs => rw [hS] at h2; exact h2.elim
      · obtain ⟨a, ha, rfl⟩ := jok.2 n rfl rfl
        refine ⟨fun i m σ H => ∃ (w : Wd) (ρ : DW.Env) (S : Store), Le w1 H1 w H ∧ Rel X.K w H S ∧ RE X.K Γ w H σ ρ ∧ PSt X.K Γ Dn w H (forR n f m i ρ S), ⟨LIM, w1, ρ, S1, Le.refl, R1, E.mono l, PSt.base l h1⟩, ?_⟩
        rintro i m σ1 H2 ⟨w2, ρ1, S2, l2, R2, E2, h2⟩
        cases m with
        | zero => exact h2.elim
        | succ m =>
          unfold forR at h2
          have ha2 := l2.at ha
          cases hS : S2[n]? with
          | none => rw [hS] at h2; exact h2.elim
          | some o =>
            rw [hS] at h2
            cases o with
            | dct t kvs => exact h2.elim
            | ins c fs => exact h2.elim
            | lst xs =>
              obtain ⟨vs, hH, rs⟩ := R2.at ha2 hS
              have hq : SqL X.K H2 a vs := .inl (.inl hH)
              simp only at h2
              cases hx : xs[i]? with
              | none =>
                rw [hx] at h2
                refine .inl ⟨⟨vs, hq, ?_⟩, h2 w2 H2 σ1 Le.refl R2 E2⟩
                rw [rs.length]
                exact List.getElem?_eq_none_iff.mp hx
              | some x =>
                rw [hx] at h2
                obtain ⟨v, hv, rv⟩ := rs.get hx
                refine .inr ⟨⟨vs, v, hq, hv⟩, fun σ H => ∃ (w : Wd) (ρ : DW.Env) (S : Store), Le w1 H1 w H ∧ Rel X.K w H S ∧ RE X.K Γ w H σ ρ ∧ PSt X.K Γ Dn w H (forR n f m (i + 1) ρ S), fun σ' H' z => ⟨m, Nat.lt_succ_self m, z⟩, fun y H3 hy => ?_⟩
                obtain ⟨rfl, hy⟩ := hy
                have hvy := hy vs hq
                rw [hv] at hvy
                cases hvy
                exact turn (cont := fun ρ' S' => forR n f m (i + 1) ρ' S') R2 E2 rv h2 fun w' H' σ' ρ' S' l' R' E' p' => ⟨w', ρ', S', l2.trans l', R', E', p'⟩
    · have h1 : PSt X.K Γ Dn w H (match itemsOf S1 k ds with
        | some p => forL p.2 f p.1 ρ S1
        | none => .bad "walk") := by
        have h2 : PSt X.K Γ Dn w H (loopR k ds f ρ S1) := h'
        unfold loopR at h2
        split at h2
        · exact absurd ⟨_, rfl, rfl⟩ hR
        · exact h2
      cases qi : itemsOf S1 k ds with
      | none => rw [qi] at h1; exact h1.elim
      | some pr =>
        obtain ⟨xs, g⟩ := pr
        rw [qi] at h1
        refine ⟨by rw [qi]; rfl, fun w1 H1 J l R1 jok => ?_⟩
        obtain ⟨st0, hy⟩ := jok.1 _ qi
        refine ⟨fun i m σ H => m = xs.length - i ∧ i ≤ xs.length ∧ ∃ (w : Wd) (ρ : DW.Env) (S : Store), Le w1 H1 w H ∧ Rel X.K w H S ∧ RE X.K Γ w H σ ρ ∧ PSt X.K Γ Dn w H (forL g f (xs.drop i) ρ S), ⟨xs.length, by simp, Nat.zero_le _, w1, ρ, S1, Le.refl, R1, E.mono l, PSt.base l h1⟩, ?_⟩
        rintro i m σ1 H2 ⟨rfl, hi, w2, ρ1, S2, l2, R2, E2, h2⟩
        by_cases hlt : i < xs.length
        · rw [List.drop_eq_getElem_cons hlt] at h2
          unfold forL at h2
          split at h2
          · rename_i hst
            obtain ⟨go, yl⟩ := (hy w2 H2 S2 (Lx.of l2) R2 hst).1 i _ (List.getElem?_eq_getElem hlt)
            refine .inr ⟨go, fun σ H => ∃ (w : Wd) (ρ : DW.Env) (S : Store), Le w1 H1 w H ∧ Rel X.K w H S ∧ RE X.K Γ w H σ ρ ∧ PSt X.K Γ Dn w H (forL g f (xs.drop (i + 1)) ρ S), fun σ' H' z => ⟨xs.length - (i + 1), by omega, rfl, hlt, z⟩, fun y H3 hyl => ?_⟩
            obtain ⟨l3, R3, rv⟩ := yl y H3 hyl
            exact turn (cont := fun ρ' S' => forL g f (xs.drop (i + 1)) ρ' S') R3 (E2.mono l3) rv (PSt.base l3 h2) fun w' H' σ' ρ' S' l' R' E' p' => ⟨w', ρ', S', (l2.trans l3).trans l', R', E', p'⟩
          · exact h2.elim
        · have hi' : i = xs.length := by omega
          subst hi'
          rw [List.drop_length] at h2
          unfold forL at h2
          split at h2
          · rename_i hst
            exact .inl ⟨(hy w2 H2 S2 (Lx.of l2) R2 hst).2 _ rfl, h2 w2 H2 σ1 Le.refl R2 E2⟩
          · exact h2.elim
end
end DW
end

section
set_option Elab.async false
set_option linter.all false
set_option maxRecDepth 100000
set_option maxHeartbeats 4000000
namespace DW
open PySem PySem.Spec PyProof.Rows
open PySem.W PySem.Calls


def xiA (p1 p2 : Pos) (f : Str) : Arguments := { posonlyargs := [], args := [{ arg := "self", annotation := none, pos := p1 }, { arg := f, annotation := none, pos := p2 }], vararg := none, kwonlyargs := [], kw_defaults := [], kwarg := none, defaults := [] }
structure XiP where
  q1 : Pos
  q2 : Pos
  q3 : Pos
  q4 : Pos
  q5 : Pos
  q6 : Pos
  r1 : Pos
  r2 : Pos
  r3 : Pos
  r4 : Pos
def xiB (P : XiP) (msg f : Str) : List Stmt :=
  [.Expr (.Call (.Attribute (.Call (.Name "super" P.q1) [] [] P.q2) "__init__" P.q3) [.Constant (.str msg) 0 P.q4, .Name f P.q5] [] P.q6) P.q6,
   .Assign [.Attribute (.Name "self" P.r1) f P.r2] (.Name f P.r3) P.r4]
def xiS (f : Str) : Scope := { kind := .function, names := [("self", .local), (f, .local), ("__class__", .free), ("super", .globalImplicit)], isGenerator := false, isCoroutine := false, more := [] }

structure XTxt (prog : Program) (K : Frag) (mg : Str → Option Value) (C fI : Addr) (nm f : Str) (B newId initId : String) (bmB : List Value) : Prop where
  gC : mg nm = some (.ref C)
  KF : KxsFacts B initId
  BF : ExcBaseFacts B newId initId bmB
  cls : ∃ n q N bs bm sn sub ab col dd k0 k1 k2 k3 k5, K.lookup C = some (excClassObj n q C N bs bm true sn sub ab col dd k0 k1 k2 k3 k5 newId) ∧ (∀ X : String, bm.contains (.type X) = bmB.contains (.type X)) ∧ ((Value.ref C :: bm).contains (.type "object") = true) ∧ ∀ self, refuseLoop self "__setattr__" (.ref C :: bm) = pure ()
  sa : findIn K (.ref C) "__setattr__" = some (some (.builtin "object.__setattr__"))
  ga : findIn K (.ref C) "__getattribute__" = some (some (.builtin "BaseException.__getattribute__"))
  gg : findIn K (.ref C) "__getattr__" = some none
  noN : findIn K (.ref C) f = some none
  iC : findIn K (.ref C) "__init__" = some (some (.ref fI))
  tC : typeIn K (.ref fI) = some (.type "function")
  kC : keepIn K (.ref C) = true
  exC : subIn K (.ref C) (.type "BaseException") = some true
  tyC : typeIn K (.ref C) = some (.type "type")
  hdC : hasDictIn K C = true
  subB : subIn K (.ref C) (.type B) = some true
  subC : mroIn K C (.ref C) = some true
  opq : nsIn K cStatics "thirdparty.any" = some none
  sup : ks_superIn K C C "__init__" = some (some (.builtin initId))
  noS : mg "super" = none
  top : (prog.main.scope.names.lookup ("super" : Str)).isSome = false
  nef : f ≠ "self"
  nef2 : f ≠ "__class__"
  nef3 : f ≠ "super"
  nef4 : (f == ("__debug__" : Str)) = false
  fn : ∃ (oc : Value) (od : Option Addr) (doc pm : Value) (an : Option Addr) (cda cc : Addr) (ct : Value) (osl : Array (Option Value)) (p1 p2 : Pos) (P : XiP) (msg qual : Str) (ccl : Value) (cdd : Option Addr) (ccs : Array (Option Value)) (vs : Array Value) (file : Str) (tf : Tok) (cl : Value) (cld : Option Addr) (csl : Array (Option Value)),
    K.lookup fI = some ⟨oc, od, .func (ksFn "__init__" qual (xiA p1 p2 f) (xiB P msg f) (xiS f) .none .none doc pm an (.ref cda) ct cc), osl⟩ ∧ codeIn K (.ref cda) qual = true ∧ K.lookup cda = some ⟨ccl, cdd, .fields vs, ccs⟩ ∧ vs[2]? = some (.str file tf) ∧ ((prog.main.file : Str) == file) = true ∧
      K.lookup cc = some ⟨cl, cld, .cell (some (.ref C)), csl⟩ ∧ ((P.q3.endLine == P.q6.line) = true) ∧ ∀ (x : Addr) (v : Value), bindArgs (ksFn "__init__" qual (xiA p1 p2 f) (xiB P msg f) (xiS f) .none .none doc pm an (.ref cda) ct cc) ⟨[.ref x, v], []⟩ = pure [(("self" : Str), .ref x), (f, v)]
theorem size2 (u v : Value) : [u, v].length ≤ sizeLine := by
  rw [sizeLine_eq]
  exact (by decide : 2 ≤ 16777216)
theorem size1 (v : Value) : [v].length ≤ sizeLine := by
  rw [sizeLine_eq]
  exact (by decide : 1 ≤ 16777216)
section
open Builtin Builtin.ObjectAttr
variable {prog : Program} {w : World} {A : Around} {E : Value → Shared → Prop} {R : Result → Shared → Prop} {hp : Heap} {g : Array GenState} {d : Drawn} {t : Nat} {os : OsState}

theorem osa_any {K : W.Frag} {name : Str} {tk : Tok} {v : Value} {x C : Addr} {fv : Array Value} {cd : ClassData}
    (X : K.In hp) (hx : hp.get? x = some { cls := .ref C, data := .fields fv }) (hcd : W.clsIn K C = some cd) (hob : cd.mro.contains (.type "object") = true) (hpass : ∀ self, refuseLoop self "__setattr__" cd.mro = pure ()) (hne : cd.mro.isEmpty = false) (hh : cd.hasDict = true) (ha : W.findIn K (.ref C) name = some none)
    (hq : ∀ h' tk' dx, (∀ b o, b ≠ x → hp.get? b = some o → h'.get? b = some o) → hp.objs.size ≤ dx → dx ≠ x → h'.get? x = some { cls := .ref C, dict := some dx, data := .fields fv } →
      h'.Ns1 dx (fun y => if y = name then some v else none) → R (.ok (.ret .none)) ⟨h', g, d, tk', os⟩) :
    codeAny (model prog w) A (.call (.builtin "object.__setattr__") ⟨[.ref x, .str name tk, v], []⟩) R ⟨hp, g, d, t, os⟩ := by
  have I : W.InstAt hp x { cls := .ref C, data := .fields fv } C none := ⟨hx, rfl, rfl, trivial⟩
  have SF := F.store_object
  have hxs : x ≠ hp.objs.size := Nat.ne_of_lt (Heap.lt_size hx)
  have sub : W.Looks (model prog w) hp (isInstance (.ref x) (.type "object")) true := I.type.andThen (W.looks_mroIn X (by unfold W.mroIn; rw [hcd, Option.bind_some, if_neg (by rw [hne]; decide), hob]))
  refine codeAny_call_builtin SF.slot.plain SF.entry (@W.check_slot (model prog w) _ _ ⟨hp, g, d, t, os⟩ "object.__setattr__" "object" "__setattr__" (.ref x) [.str name tk, v] [] _ SF.kind SF.split sub (SF.args (.ref x) (.str name tk) v) ?_)
  have hmr : W.Looks (model prog w) hp (mroOf (.ref C)) cd.mro := (W.looks_clsIn X hcd).andThen .now
  have L3 : W.Looks (model prog w) hp (storeTaker? none) none := .now
  have hcls : W.Looks (model prog w) hp (classData C) cd := W.looks_clsIn X hcd
  rw [W.osa_eq, refuse_eq]
  refine wpAny_bind (wpAny_bind (I.type.at (wpAny_bind (hmr.at ?_))))
  rw [hpass]
  refine wpAny_pure (wpAny_bind (I.type.at (wpAny_bind ((W.looks_findIn X ha).at (wpAny_bind (L3.at ?_))))))
  show wpAny _ _ (storeInOwnDict (.ref x) (.ref C) (.str name tk) name v false) _ _ _
  obtain ⟨nm, bs, mro, ns, qn, hd, sn, sb, ab, col, del⟩ := cd
  dsimp only at hh
  subst hh
  unfold storeInOwnDict ownDictForStores
  repeat (first | with_reducible refine HandSPX.store_in_new ?_ ?_ | with_reducible refine wpAny_loadPart_at hx ?_ | with_reducible refine hcls.at ?_ | wp_step)
  · exact ⟨_, #[], _, (Heap.get?_update_ne _ _ _ _ hxs.symm).trans (Heap.get?_push_at rfl rfl), rfl, fun e he => absurd he (by simp), fun _ => rfl⟩
  · intro h' tk' hn' hs
    have hx₁ : (hp.push { cls := .type "dict", data := .dict #[] }).get? x = some { cls := .ref C, data := .fields fv } := Heap.get?_push_of_some _ hx
    refine hq h' tk' hp.objs.size (fun b o hb ho => ?_) (Nat.le_refl _) hxs.symm ?_ hn'
    · exact (hs.2 b (Nat.ne_of_lt (Heap.lt_size ho))).trans ((Heap.get?_update_ne _ _ _ _ hb).trans (Heap.get?_push_of_some _ ho))
    · exact (hs.2 x hxs).trans (Heap.get?_update_self _ hx₁ rfl)

theorem call_mw {B newId i : String} {bmB : List Value} (FB : ExcBaseFacts B newId i bmB) {nm q : Str} {C N u x t0 : Addr} {bs bm : List Value} {hdct : Bool} {sn : List Str} {sub : List Value} {ab : Bool} {col : Option Bool} {dd : Option Addr} {k0 k1 k2 k3 k5 : Option Value} {rest : List Value} {Q : Value → Shared → Prop}
    (hC : hp.get? C = some (excClassObj nm q C N bs bm hdct sn sub ab col dd k0 k1 k2 k3 k5 newId)) (he : hp.get? x = some (HandSPX.excO C t0)) (hu : hp.get? u = some (kxs_mw i x)) (hz : rest.length ≤ sizeLine)
    (hq : ∀ h' t1, (∀ b o, b ≠ x → hp.get? b = some o → h'.get? b = some o) → h'.get? x = some (HandSPX.excO C t1) → Q .none ⟨h', g, d, t, os⟩) :
    wpAny (model prog w) A (call (.ref u) rest) Q E ⟨hp, g, d, t, os⟩ := by
  refine wpAny_call (codeAny_of_tree ?_)
  show wpAny _ A.in1 (callAny (.ref u) ⟨rest, []⟩) _ _ _
  simp only [callAny]
  refine wpAny_bind (wpAny_load hu ?_)
  simp only [kxs_mw, show (Value.type "method-wrapper" == Value.type "method" || Value.type "method-wrapper" == Value.type "builtin_function_or_method" || Value.type "method-wrapper" == Value.type "method-wrapper") = true by decide, if_true]
  refine KFB.if_so (by decide) ?_
  refine wpAny_bind (check_bound_init FB.toExcCallFacts hC he rfl ?_)
  refine wpAny_bind (wpAny_pure (wpAny_pure ?_))
  refine ⟨plainId_quiet FB.init.plain _, codeAny_builtin FB.initEntry ?_⟩
  exact exc_init_tree (cls := .ref C) (t0 := t0) (dv := none) (c2 := .none) (c3 := .none) (b4 := .bool false) he hz fun h' k e' t' => hq h' _ k e'
end

structure XEnd (h h' : Heap) (x C dx t1 : Addr) (f : Str) (v : Value) : Prop where
  keep : ∀ b o, b ≠ x → h.get? b = some o → h'.get? b = some o
  obj : h'.get? x = some { cls := .ref C, dict := some dx, data := .fields #[.ref t1, .none, .none, .none, .bool false, .none] }
  dbig : h.objs.size ≤ dx
  dne : dx ≠ x
  ns : h'.Ns1 dx (fun y => if y = f then some v else none)
section
variable {prog : Program} {w : World} {A : Around} {E : Value → Shared → Prop} {R : Result → Shared → Prop} {s : Shared} {K : Frag} {mg : Str → Option Value} {C fI : Addr} {nm f : Str} {B newId initId : String} {bmB : List Value} {base : Heap}
theorem mcall_at {c : Code} {env : PySem.Env} {o : Expr} {name : Str} {apos pos : Pos} {args : List Expr} {Q : Value → Shared → Prop}
    (hform : methodCallForm (args.length + ([] : List Keyword).length) (backTo pos (starEach args env)) (backToKw pos (keywordEach [] env)) = true) (hline : (apos.endLine == pos.line) = true)
    (h : _root_.PySem.wpAt (model prog w) A c (attributeBase o name env (eval o env)) (fun ov s₁ => ∀ pl, wpAny (model prog w) A (getMethod ov name pl) (fun fx s₂ => wpAny (model prog w) A (callWith pos fx.1 fx.2 (backTo pos (starEach args env)) []) Q E s₂) E s₁) E s) :
    _root_.PySem.wpAt (model prog w) A c (eval (.Call (.Attribute o name apos) args [] pos) env) Q E s := by
  rw [arm_eval_Call]
  refine _root_.PySem.wpAt_bind (_root_.PySem.wpAt_mono h (fun ov s₁ h₁ => _root_.PySem.wpAt_of_wpAny (wpAny_bind (wpAny_standAt ?_))) fun _ _ x => x)
  have hpos : methodCallPos true o env apos pos = pure pos := by unfold methodCallPos; simp [hline]
  unfold methodCall
  rw [hform]
  refine wpAny_bind (wpAny_holding (wpAny_mono (h₁ _) (fun fx s₂ h₂ => ?_) fun _ _ x => x))
  exact wpAny_bind (wpAny_of_eq hpos h₂)
theorem lookupS {f : Str} (h1 : f ≠ "self") : (xiS f).names.lookup f = some .local := by
  have e : (f == ("self" : Str)) = false := by simpa using h1
  show List.lookup f [("self", NameKind.local), (f, .local), ("__class__", .free), ("super", .globalImplicit)] = _
  simp [List.lookup, e]
theorem x_init (T : XTxt prog K mg C fI nm f B newId initId bmB) {x t0 : Addr} {v : Value} (M : L2.Mod K mg base) (bk : ∀ b o, base.get? b = some o → s.heap.get? b = some o) (hx : s.heap.get? x = some (HandSPX.excO C t0)) (hnx : K.lookup x = none) (hroom : A.depth < recursionLimit)
    (hq : ∀ h' tk dx t1, XEnd s.heap h' x C dx t1 f v → R (.ok (.ret .none)) { s with heap := h', toks := tk }) :
    codeAny (model prog w) A (.call (.ref fI) ⟨[.ref x, v], []⟩) R s := by
  obtain ⟨oc, od, doc, pm, an, cda, cc, ct, osl, p1, p2, P, msg, qual, ccl, cdd, ccs, vs, file, tf, cl, cld, csl, ho, hcd, hcode, hvs, hfile, hcell, hline, hbnd⟩ := T.fn
  obtain ⟨n, q, N, bs, bm, sn, sub, ab, col, dd, k0, k1, k2, k3, k5, hC, hT, hob, hpass⟩ := T.cls
  have hcl : clsIn K C = some { name := n, bases := bs, mro := .ref C :: bm, ns := N, qualname := q, hasDict := true, slotNames := sn, subclasses := sub, abstract := ab, collection := col, hasDel := false } := by unfold clsIn; rw [hC] <;> rfl
  have X : K.In s.heap := fun a o e => bk _ _ (M.kin a o e)
  have hlim : s.heap.NoLimit := M.nolimit.keeps bk
  have nf1 : (f == ("self" : Str)) = false := by simpa using T.nef
  have nf2 : (("self" : Str) == f) = false := by simpa using Ne.symm T.nef
  have lf : (xiS f).names.lookup f = some .local := lookupS T.nef
  refine ks_codeAny_call_defAt (fd := ksFn "__init__" qual (xiA p1 p2 f) (xiB P msg f) (xiS f) .none .none doc pm an (.ref cda) ct cc) (body := xiB P msg f) (binds := [("self", .ref x), (f, v)]) hroom (X _ _ ho) rfl hlim (codeRec_of X hcd) rfl ?bind ?cell ?loc (fun h₁ hn hk => ?_) rfl rfl rfl
  case bind => exact BindsTo.of_eq (hbnd x v)
  case cell =>
    intro y hy
    have hy' : y ∈ [(("self" : Str), NameKind.local), (f, .local), ("__class__", .free), ("super", .globalImplicit)] := hy
    simp only [List.mem_cons, List.not_mem_nil, or_false] at hy'
    rcases hy' with rfl | rfl | rfl | rfl <;> exact nofun
  case loc =>
    intro y hy
    simp only [List.mem_cons, List.not_mem_nil, or_false] at hy
    rcases hy with rfl | rfl
    · rfl
    · exact lf
  · change _root_.PySem.wpAt _ (A.deeper (ksEnv qual (xiS f) s.heap.objs.size fI (.ref cda) cc)) (.func (xiB P msg f) (ksEnv qual (xiS f) s.heap.objs.size fI (.ref cda) cc)) (execs (xiB P msg f) (ksEnv qual (xiS f) s.heap.objs.size fI (.ref cda) cc)) _ _ _
    have X₁ : K.In h₁ := X.keeps hk
    have hx₁ := hk _ _ hx
    have hxs : x < s.heap.objs.size := Heap.lt_size hx
    obtain ⟨mb, hb1, hb2⟩ := M.blt
    have bk₁ : ∀ b o, base.get? b = some o → h₁.get? b = some o := fun b o e => hk _ _ (bk _ _ e)
    have ck : ∀ b o, K.lookup b = some o → h₁.get? b = some o := fun b o e => X₁ b o e
    have hself : (fun y => List.lookup y ([(("self" : Str), Value.ref x), (f, v)].reverse)) "self" = some (.ref x) := by
      show List.lookup ("self" : Str) [(f, v), ("self", .ref x)] = _
      simp [List.lookup, nf2]
    have hfv : (fun y => List.lookup y ([(("self" : Str), Value.ref x), (f, v)].reverse)) f = some v := by
      show List.lookup f [(f, v), ("self", .ref x)] = _
      simp [List.lookup]
    unfold xiB
    have envk : (ksEnv qual (xiS f) s.heap.objs.size fI (.ref cda) cc).scope.kind = .function := rfl
    have kS : (xiS f).names.lookup ("super" : Str) = some .globalImplicit := by
      have e1 : (("super" : Str) == f) = false := by simpa using Ne.symm T.nef3
      show List.lookup ("super" : Str) [("self", NameKind.local), (f, .local), ("__class__", .free), ("super", .globalImplicit)] = _
      simp [List.lookup, e1, show (("super" : Str) == "self") = false by decide, show (("super" : Str) == "__class__") = false by decide]
    have kC : (xiS f).names.lookup ("__class__" : Str) = some .free := by
      have e1 : (("__class__" : Str) == f) = false := by simpa using Ne.symm T.nef2
      show List.lookup ("__class__" : Str) [("self", NameKind.local), (f, .local), ("__class__", .free), ("super", .globalImplicit)] = _
      simp [List.lookup, e1, show (("__class__" : Str) == "self") = false by decide]
    refine ks_wpAt_execs_cons (ks_wpAt_Expr_any (mcall_at rfl hline ?_))
    refine ks_wpAt_super_base (env := ksEnv qual (xiS f) s.heap.objs.size fI (.ref cda) cc) kS kC rfl rfl (ck _ _ ho) rfl (ar := { arg := "self", annotation := none, pos := p1 }) rfl rfl (ck _ _ hcode) rfl hvs hfile T.top ?_
    refine ks_loadName_global envk kS (Calls.loadGlobal_builtin (env := ksEnv qual (xiS f) s.heap.objs.size fI (.ref cda) cc) (M.glob.keeps bk₁) T.noS (hb1.keeps bk₁) ((hb2 "super" (by decide)).trans rfl) ⟨rfl, ?_⟩)
    refine wpAny_loadName_free envk kC rfl ⟨_, ck _ _ hcell, rfl⟩ ?_
    refine wpAny_loadName_local envk rfl hn hself ?_
    refine ks_wpAny_isType_cls (ck _ _ hC) rfl ⟨rfl, ?_⟩
    have I₁ : InstAt h₁ x (HandSPX.excO C t0) C none := ⟨hx₁, rfl, rfl, trivial⟩
    refine ks_wpAny_call_super (ck _ _ hC) rfl hx₁ rfl (fun c e => by cases e) (looks_mroIn X₁ T.subC) (fun h₂ e₂ k₂ => ?_)
    intro pl
    have X₂ : K.In h₂ := X₁.keeps k₂
    have I₂ : InstAt h₂ x (HandSPX.excO C t0) C none := ⟨k₂ _ _ hx₁, rfl, rfl, trivial⟩
    have hsup := T.sup
    unfold ks_superIn at hsup
    rw [hcl] at hsup
    refine kxs_getMethod T.KF e₂ (looks_opaque X₂ T.opq) (l₀ := .ref C :: bm) ?_ rfl X₂ hsup (I₂.type.andThen (looks_subIn X₂ T.subB)) (ks_ne X₂ I₂ hcl) rfl ?_
    · exact fun A Q E s k q => wpAny_bind ((looks_clsIn X₂ hcl) A _ E s k (wpAny_pure q))
    · -- the bound __init__ stands at h₂.objs.size
      have k₃ : ∀ b o, h₂.get? b = some o → (h₂.push (kxs_mw initId x)).get? b = some o := fun b o e => Heap.get?_push_of_some _ e
      have hu : (h₂.push (kxs_mw initId x)).get? h₂.objs.size = some (kxs_mw initId x) := Heap.get?_push_at rfl rfl
      show wpAny _ _ (callWith _ _ _ _ _) _ _ _
      rw [show starEach [Expr.Constant (Const.str msg) 0 P.q4, Expr.Name f P.q5] (ksEnv qual (xiS f) s.heap.objs.size fI (.ref cda) cc) = [(false, eval (Expr.Constant (Const.str msg) 0 P.q4) (ksEnv qual (xiS f) s.heap.objs.size fI (.ref cda) cc)), (false, eval (Expr.Name f P.q5) (ksEnv qual (xiS f) s.heap.objs.size fI (.ref cda) cc))] from rfl]
      refine kxs_callWith (i := initId) (x := x) rfl (Calls.evalArgs_plain ?_)
      refine Calls.spliced_cons (x := eval (Expr.Constant (Const.str msg) 0 P.q4) (ksEnv qual (xiS f) s.heap.objs.size fI (.ref cda) cc)) (Calls.Constant_str (k := 0) (pos := P.q4) ?_)
      refine Calls.spliced_cons (x := eval (Expr.Name f P.q5) (ksEnv qual (xiS f) s.heap.objs.size fI (.ref cda) cc)) (wpAny_Name (pos := P.q5) (wpAny_loadName_local envk lf (Heap.Ns.keeps hn fun b o e => k₃ _ _ (k₂ _ _ e)) hfv ?_) T.nef4)
      refine Calls.spliced_nil ⟨hu, ?_⟩
      refine call_mw T.BF (k₃ _ _ (k₂ _ _ (ck _ _ hC))) (k₃ _ _ (k₂ _ _ hx₁)) hu (size2 _ _) fun h₄ t1 k₄ hx₄ => ?_
      have hL : s.heap.objs.size ≠ x := Nat.ne_of_gt hxs
      have kp : ∀ b o, b ≠ x → s.heap.get? b = some o → h₄.get? b = some o := fun b o hb e => k₄ b o hb (k₃ _ _ (k₂ _ _ (hk _ _ e)))
      have X₄ : K.In h₄ := fun a o e => k₄ a o (fun z => by rw [z, hnx] at e; cases e) (k₃ _ _ (k₂ _ _ (X₁ a o e)))
      have hn₄ : h₄.Ns s.heap.objs.size (fun y => List.lookup y ([(("self" : Str), Value.ref x), (f, v)].reverse)) := by
        obtain ⟨o, es, ep, ho', hr⟩ := hn
        exact ⟨o, es, ep, k₄ _ _ hL (k₃ _ _ (k₂ _ _ ho')), hr⟩
      refine _root_.PySem.wpAt_of_wpAny (wpAny_execs_cons (plainObj_wpAny_Assign_Attribute ?_))
      refine wpAny_Name (wpAny_loadName_local envk lf hn₄ hfv ?_) T.nef4
      refine wpAny_Name (wpAny_loadName_local envk rfl hn₄ hself ?_) (by decide)
      refine set_plain X₄ (ox := HandSPX.excO C t1) (od := none) ⟨hx₄, rfl, rfl, trivial⟩ T.sa ?_
      refine osa_any X₄ hx₄ hcl hob hpass rfl rfl T.noN fun h₅ tk₅ dx k₅ dn dne hx₅ hn₅ => ?_
      show wpAny _ _ (execs _ _) _ _ _
      have z : s.heap.objs.size < h₄.objs.size := hn₄.lt
      exact wpAny_execs_nil (hq h₅ tk₅ dx t1 ⟨fun b o hb e => k₅ b o hb (kp b o hb e), hx₅, Nat.le_of_lt (Nat.lt_of_lt_of_le z dn), dne, hn₅⟩)

structure XMade (h h' : Heap) (e C d : Addr) (f : Str) (v : Value) : Prop where
  keep : ∀ b o, h.get? b = some o → h'.get? b = some o
  new : h.objs.size ≤ e
  obj : ∃ t1 : Addr, h'.get? e = some { cls := .ref C, dict := some d, data := .fields #[.ref t1, .none, .none, .none, .bool false, .none] }
  dbig : h.objs.size ≤ d
  dne : d ≠ e
  ns : h'.Ns1 d (fun y => if y = f then some v else none)
theorem x_made (T : XTxt prog K mg C fI nm f B newId initId bmB) {v : Value} (M : L2.Mod K mg base) (bk : ∀ b o, base.get? b = some o → s.heap.get? b = some o) (hroom : A.depth + 1 < recursionLimit)
    (hq : ∀ h' tk e d, XMade s.heap h' e C d f v → R (.ok (.ret (.ref e))) { s with heap := h', toks := tk }) :
    codeAny (model prog w) A (.call (.ref C) ⟨[v], []⟩) R s := by
  obtain ⟨n, q, N, bs, bm, sn, sub, ab, col, dd, k0, k1, k2, k3, k5, hC, hT, hob, hpass⟩ := T.cls
  have X : K.In s.heap := fun a o e => bk _ _ (M.kin a o e)
  obtain ⟨hp, g, dr, tk, os⟩ := s
  have k : ∀ b o, hp.get? b = some o → ((hp.push (kdv_tup [v])).push (HandSPX.excO C hp.objs.size)).get? b = some o := fun b o e => Heap.get?_push_of_some _ (Heap.get?_push_of_some _ e)
  have hget : ((hp.push (kdv_tup [v])).push (HandSPX.excO C hp.objs.size)).get? (hp.objs.size + 1) = some (HandSPX.excO C hp.objs.size) := by heap_get
  have hnx : K.lookup (hp.objs.size + 1) = none := by
    cases e : K.lookup (hp.objs.size + 1) with
    | none => rfl
    | some o =>
      have z : hp.get? (hp.objs.size + 1) = some o := X _ _ e
      exact absurd (Nat.lt_of_succ_lt (Heap.lt_size z)) (Nat.lt_irrefl _)
  refine HandSPX.call_own T.BF hT (X _ _ hC) (looks_findIn X T.iC) (fun self => bind_fn X self T.tC) (size1 v) ?_
  refine x_init (s := ⟨(hp.push (kdv_tup [v])).push (HandSPX.excO C hp.objs.size), g, dr, tk, os⟩) T M (fun b o e => k _ _ (bk b o e)) hget hnx ?_ fun h' tk' dx t1 ⟨k', hx, dn, dne, hns⟩ => ?_
  · show A.depth + 1 < recursionLimit
    exact hroom
  · have old : ∀ b o, hp.get? b = some o → h'.get? b = some o := fun b o e => k' b o (Nat.ne_of_lt (Nat.lt_succ_of_lt (Heap.lt_size e))) (k b o e)
    have z : hp.objs.size + 1 + 1 ≤ dx := by
      first
        | (simpa only [Heap.size_push] using dn)
        | exact dn
        | (have q := dn; rw [Heap.size_push, Heap.size_push] at q; exact q)
    exact ⟨rfl, hq h' tk' (hp.objs.size + 1) dx ⟨old, Nat.le_succ _, ⟨_, hx⟩, Nat.le_trans (Nat.le_trans (Nat.le_succ _) (Nat.le_succ _)) z, dne, hns⟩⟩
end
section
open L2 HotX L2H
theorem relO_one {f : Str} {v : V} {v' : Value} (r : RelV v v') (y : Str) : RelO (List.lookup y [(f, v)]) (if y = f then some v' else none) := by
  by_cases hw : y = f
  · subst hw
    rw [if_pos rfl]
    have q : List.lookup y [(y, v)] = some v := by simp [List.lookup]
    rw [q]
    exact r
  · rw [if_neg hw]
    have qw : (y == f) = false := by simpa using hw
    have q2 : List.lookup y [(f, v)] = none := by simp [List.lookup, qw]
    rw [q2]
    trivial
variable {X : Cx} {C fI : Addr} {nm f : Str} {B newId initId : String} {bmB : List Value}

def tMkX (C : Addr) (f : Str) (ta : TA) : L2.St → Hp → XK → Prop := fun σ H Q => ta σ H fun vs H1 => ∃ v, vs = [v] ∧ ∀ d, H1 d = none → Q (.ref C) (some d) (upd H1 d (.xd [(f, v)]))
theorem pmk_x {a : Expr} {ta : TA} {p pos : Pos} (T : XTxt X.prog X.K X.mg C fI nm f B newId initId bmB) (hr : X.A.depth + 5 < recursionLimit) (ha : PA X [a] ta) (hg : Gl X nm) (hdb : (nm == ("__debug__" : Str)) = false) (hs : starOk a = true) : PMk5 X (.Call (.Name nm p) [a] [] pos) (tMkX C f ta) := by
  intro pins s σ H Q I h
  refine wpAny_Call_Name_kw (ld_glob I hg T.gC ?_ hdb)
  refine PySem.W.callWith_K (h₀ := X.base) I.ok.mod.kin T.kC (thn (ha.run pos pins s σ H _ I h) fun us s1 hh => ?_) (star_each hs _ _) rfl
  obtain ⟨vs, H1, I1, r1, v, ev, q1⟩ := hh
  subst ev
  refine ⟨I1.kIn, ?_⟩
  cases r1 with
  | cons rv rn =>
    rename_i v' us'
    cases rn
    show wpAny _ _ (call (.ref C) [v']) _ _ _
    have bk := I1.bk
    obtain ⟨hp, g, dr, tk, os⟩ := s1
    refine wpAny_call (x_made T I1.ok.mod bk (by omega) fun h' tk' e d M => ?_)
    show L2N.MkP X pins σ Q (.ref e) ⟨h', g, dr, tk', os⟩ ∧ Six (.ref e) ⟨h', g, dr, tk', os⟩
    obtain ⟨t1, hoe⟩ := M.obj
    have hns := M.ns
    obtain ⟨G', g1, g2⟩ := restrict h' fun b => decide (b ≠ e)
    have gk : ∀ b, b ≠ e → G'.get? b = h'.get? b := fun b hb => g1 b (decide_eq_true hb)
    have ge : G'.get? e = none := g2 e (by simp)
    have old : ∀ b o, hp.get? b = some o → G'.get? b = some o := fun b o q => (gk b (Nat.ne_of_lt (Nat.lt_of_lt_of_le (Heap.lt_size q) M.new))).trans (M.keep b o q)
    have ob : ObjOk X.prog X.w (upd H1 d (.xd [(f, v)])) G' d (.xd [(f, v)]) :=
      ⟨_, hns.at (fun o q => (gk d M.dne).trans q), fun y => relO_one rv y⟩
    have J : Inv X pins σ (upd H1 d (.xd [(f, v)])) ⟨G', g, dr, tk', os⟩ := I1.laid (t' := tk') old M.dbig ob
    refine ⟨⟨e, _, _, ⟨G', g, dr, tk', os⟩, _, .ref C, some d, rfl, J, fun b o q => ?_, ge, hoe, ⟨rfl, rfl, fun vs e => by cases e; rfl⟩, rfl, rfl, ?_, rfl, I1.bare, raises_own T.exC T.tyC, q1 d (I1.hok.fresh M.dbig)⟩, fun a oe vs ea hg hd => ?_⟩
    · by_cases hb : b = e
      · have q' : G'.get? b = some o := q
        rw [hb, ge] at q'; cases q'
      · exact (gk b hb).symm.trans q
    · rw [upd_ne (Ne.symm M.dne)]
      exact I1.hok.fresh M.new
    · cases ea
      have hg' : h'.get? e = some oe := hg
      rw [hoe] at hg'
      cases hg'
      cases hd
      show 4 < 6
      decide
end
end DW
end

section
set_option Elab.async false
set_option linter.all false
set_option maxRecDepth 100000
set_option maxHeartbeats 4000000
namespace DW
open PySem PySem.Spec PyProof.Rows L2

def endN : Option Nat → Ends → Ends
  | none, D => D
  | some i, D => { nx := fun σ' H' => D.nx (σ'.set i none) H', rt := D.rt, bk := fun σ' H' => D.bk (σ'.set i none) H', ct := fun σ' H' => D.ct (σ'.set i none) H' }
def setN (a : Addr) : Option Nat → L2.St → L2.St
  | none, σ => σ
  | some i, σ => σ.set i (some (.ref a))
abbrev Cl := Value × Option Nat × (Addr → Value → Option Addr → TS)

def wAll (K : PySem.W.Frag) (Wout : WX) (Dn : Ends) : List Cl → WX
  | [] => Wout
  | (c, o, ts) :: r => fun cls d σ H => ∃ b, PySem.W.exmOne K cls c = some b ∧ (b = true → ∀ a, H a = none → ts a cls d (endN o Dn) (setN a o σ) H) ∧ (b = false → wAll K Wout Dn r cls d σ H)
inductive ClOk (X : Cx) : List ExceptHandler → List Cl → Prop
  | nil : ClOk X [] []
  | cons {x : Str} {c : Value} {o : Option Nat} {n : Option Str} {ts : Addr → Value → Option Addr → TS} {b₀ : Stmt} {suite : List Stmt} {np pos' : Pos} {hds : List ExceptHandler} {l : List Cl} (hc : Names X x c)
      (hn : (n = none ∧ o = none) ∨ ∃ (y : Str) (i : Nat), n = some y ∧ o = some i ∧ X.N[i]? = some y ∧ X.env.kindOf y = some .local)
      (hsu : ∀ (a : Addr) (oe : Obj) (cls : Value) (d : Option Addr) (pn : List (Addr × Obj)), Zc cls d oe → (∃ vs, oe.data = .fields vs) → PSs (X.suite a ((a, oe) :: pn)) (b₀ :: suite) (ts a cls d)) (r : ClOk X hds l) :
      ClOk X (.ExceptHandler (some (.Name x np)) n (b₀ :: suite) pos' :: hds) ((c, o, ts) :: l)
section
variable {X : Cx}
theorem catch_go {Wout : WX} {Dn : Ends} {a : Addr} {B h3 : Heap} {sI s' : Shared} {pins : List (Addr × Obj)} {σ' : L2.St} {H' : Hp} {cls : Value} {d : Option Addr} {Z : Obj → Prop} (ok : X.Ok) (hN : X.N.Nodup) (hf : X.env.frame = some X.env.locals) (hZ : ∀ o, Z o → Zc cls d o)
    (J : Inv X pins σ' H' sI) (nb : ∀ b o, sI.heap.get? b = some o → b ∉ frs X.stack → B.get? b = some o) (up : sI.heap.UpToSlots h3) (fl3 : HandSPX.FlyingZ B (X.env :: X.outer) a Z h3) (na : H' a = none) (os : s'.os = sI.os) (ag : AllBare s'.gens)
    (out : ∀ h4, HandSPX.HeldZ B (X.env :: X.outer) a Z X.env.locals h4 → sI.heap.UpToSlots h4 → Wout cls d σ' H' → X.xe (.ref a) { s' with heap := h4 }) :
    ∀ {hds : List ExceptHandler} {l : List Cl}, ClOk X hds l → wAll X.K Wout Dn l cls d σ' H' → wpAny (model X.prog X.w) X.A (handleBy (.ref a) X.env hds) (SP X pins Dn) X.xe { s' with heap := h3 } := by
  have J3 : Inv X pins σ' H' { s' with heap := h3 } := J.landed nb fl3.1 up os ag
  obtain ⟨oe3, vs3, he3, hz3, hd3⟩ := fl3.there
  have nfr : a ∉ frs (X.env :: X.outer) := fun hm => by
    obtain ⟨_, o', e', hnf⟩ := fl3.2.2.1.mem hm
    rw [he3] at e'
    cases e'
    exact hnf _ hd3
  have nL : a ≠ X.env.locals := fun z => nfr (List.mem_filterMap.mpr ⟨X.env, List.mem_cons_self, by rw [hf, z]⟩)
  have nF : a ∉ X.fs := fun hm => by
    obtain ⟨e, he, q⟩ := List.mem_filterMap.mp hm
    exact nfr (List.mem_filterMap.mpr ⟨e, List.mem_cons_of_mem _ he, q⟩)
  have S3 := J3.suite he3 hd3 na nL nF
  intro hds l hk
  induction hk with
  | nil =>
    intro w
    refine wpAny_handleBy_nil ?_
    obtain ⟨k1, k2, k3, oe, vs, T, oT, ts', he, hz, hd, h1, hr⟩ := id fl3
    unfold PySem.passOn
    refine wpAny_bind (wpAny_field he hd h1 ?_)
    rw [if_neg (show ¬ ((Value.ref T == Value.none) = true) from by simp)]
    have fin : wpAny (model X.prog X.w) X.A (setFlight (.ref a) X.env.frame) (fun _ s4 => wpAny (model X.prog X.w) X.A (throw (.ref a) : Sem Flow) (SP X pins Dn) X.xe s4) X.xe { s' with heap := h3 } := by
      rw [hf]
      exact HandSPX.setFlight_upZ fl3 fun h4 hh4 up4 => wpAny_throw (out h4 hh4 (up.trans up4) w)
    first
      | exact wpAny_bind (wpAny_pure (wpAny_bind fin))
      | exact wpAny_bind fin
  | @cons x c o n ts b₀ suite np pos' hds2 l2 hc hn hsu r ih =>
    intro w
    obtain ⟨b, hb1, hyes, hno⟩ := w
    refine wpAny_handleBy_cons (codeAny_handlers_test ?_) (by intro q; cases q)
    have LT : PySem.W.Looks (model X.prog X.w) h3 (typeOf (.ref a)) cls := fun A Q E s k q => wpAny_typeOf_ref (k _ _ he3) (by rw [(hZ _ hz3).1]; exact q)
    have LM := PySem.W.exm_one (M := model X.prog X.w) (J3.kIn) LT hb1
    have test : ∀ {Q : Value → Shared → Prop} {E : Value → Shared → Prop}, Q c { s' with heap := h3 } → wpAny (model X.prog X.w) (X.A.mark (some (.ref a))) (eval (.Name x np) X.env) Q E { s' with heap := h3 } := fun {Q E} q => by
      obtain ⟨hg, hdbg, hm | ⟨hm, hv, hnn⟩⟩ := hc
      · exact ld_glob (X := X.suite a ((a, oe3) :: (X.pn ++ pins))) S3 hg hm q hdbg
      · exact ld_blt (X := X.suite a ((a, oe3) :: (X.pn ++ pins))) S3 hg hm hv q hnn hdbg
    refine test (LM.here ?_)
    cases b with
    | false =>
      show wpAny _ X.A (handleBy (.ref a) X.env hds2) _ _ _
      exact ih (hno rfl)
    | true =>
      have w1 := hyes rfl a na
      rcases hn with ⟨rfl, rfl⟩ | ⟨y, i, rfl, rfl, hi, hl⟩
      · refine codeAny_handlers_suite ?_
        refine HandSPX.lands_againZ fl3 fun h4 fl4 up4 => ?_
        have J4 : Inv X pins σ' H' { s' with heap := h4 } := J.landed nb fl4.1 (up.trans up4) os ag
        obtain ⟨oe4, vs4, he4, hz4, hd4⟩ := fl4.there
        have S4 := J4.suite he4 hd4 na nL nF
        refine wpAny_mono ((hsu a oe4 cls d (X.pn ++ pins) (hZ _ hz4) ⟨_, hd4⟩).run [] _ _ H' _ S4 w1) (fun f s6 hsp => ?_) (fun _ _ z => False.elim z)
        cases f with
        | next => obtain ⟨σ6, H6, S6, q6⟩ := hsp; exact ⟨_, _, S6.unsuite ok, q6⟩
        | brk => obtain ⟨σ6, H6, S6, q6⟩ := hsp; exact ⟨_, _, S6.unsuite ok, q6⟩
        | cont => obtain ⟨σ6, H6, S6, q6⟩ := hsp; exact ⟨_, _, S6.unsuite ok, q6⟩
        | ret u => obtain ⟨v6, σ6, H6, S6, r6, q6⟩ := hsp; exact ⟨_, _, _, S6.unsuite ok, r6, q6⟩
      · refine codeAny_handlers_suite_as ?_
        refine HandSPX.lands_againZ fl3 fun h4 fl4 up4 => ?_
        have J4 : Inv X pins σ' H' { s' with heap := h4 } := J.landed nb fl4.1 (up.trans up4) os ag
        obtain ⟨oe4, vs4, he4, hz4, hd4⟩ := fl4.there
        have S4 := J4.suite he4 hd4 na nL nF
        refine store_ok (X := X.suite a ((a, oe4) :: (X.pn ++ pins))) (v := .ref a) S4 hN hi (.inl hl) rfl (fun s5 S5 => ?_) (.inr hl)
        refine wpAny_mono ((hsu a oe4 cls d (X.pn ++ pins) (hZ _ hz4) ⟨_, hd4⟩).run [] s5 _ H' _ S5 w1) (fun f s6 hsp => ?_) (fun _ _ z => False.elim z)
        have end_ : ∀ {σ6 : L2.St} {H6 : Hp} {Q : Shared → Prop}, Inv (X.suite a ((a, oe4) :: (X.pn ++ pins))) [] σ6 H6 s6 → (∀ s7, Inv X pins (σ6.set i none) H6 s7 → Q s7) →
            wpAny (model X.prog X.w) X.A (do bindName X.env y .none; unbindBehindTheSuite X.env y pos') (fun _ s7 => Q s7) X.xe s6 := fun {σ6 H6 Q} S6 hq => gone_ok (S6.unsuite ok) hN hi hl hq
        cases f with
        | next => obtain ⟨σ6, H6, S6, q6⟩ := hsp; exact end_ S6 fun s7 J7 => ⟨_, _, J7, q6⟩
        | brk => obtain ⟨σ6, H6, S6, q6⟩ := hsp; exact end_ S6 fun s7 J7 => ⟨_, _, J7, q6⟩
        | cont => obtain ⟨σ6, H6, S6, q6⟩ := hsp; exact end_ S6 fun s7 J7 => ⟨_, _, J7, q6⟩
        | ret u => obtain ⟨v6, σ6, H6, S6, r6, q6⟩ := hsp; exact end_ S6 fun s7 J7 => ⟨_, _, _, J7, r6, q6⟩
theorem try_all {body : List Stmt} {h₀ : ExceptHandler} {hds : List ExceptHandler} {l : List Cl} {pos : Pos} {tb : WX → WX → TS} {W1 W2 : WX} (hs : X.stack = X.env :: X.outer) (hf : X.env.frame = some X.env.locals) (hN : X.N.Nodup) (tk1 : L2N.Takes X W1) (tk2 : L2.Takes X W2)
    (hb : ∀ (V1 V2 : WX) (pn : List (Addr × Obj)) (xe : Value → Shared → Prop), L2N.Takes (X.tr pn xe) V1 → L2.Takes (X.tr pn xe) V2 → PassesOwn (model X.prog X.w) X.A X.env xe → PSs (X.tr pn xe) body (tb V1 V2))
    (hh : ClOk X (h₀ :: hds) l) : PS X (.Try body (h₀ :: hds) [] [] pos) (fun Dn σ H => tb (wAll X.K W1 Dn l) (wAll X.K W2 Dn l) Dn σ H) := by
  refine ⟨fun pins s σ H Dn I h => ?_⟩
  have ok := I.ok
  have hfr : X.A.frames = some (X.env :: X.outer) := by rw [ok.frames, hs]
  refine wpAny_Try_except ?_
  refine wpAny_mono ((hb (wAll X.K W1 Dn l) (wAll X.K W2 Dn l) (X.pn ++ pins) (fun e s₁ => wpAny (model X.prog X.w) X.A (noteFrame e X.env) (fun _ s₂ => wpAny (model X.prog X.w) X.A (setFlight e none) (fun _ s₃ =>
    wpAny (model X.prog X.w) X.A (handleBy e X.env (h₀ :: hds)) (SP X pins Dn) X.xe s₃) X.xe s₂) X.xe s₁) (fun u s' xx => ?_) (fun u s' xx => ?_) PassesOwn.looking).run [] s σ H Dn (I.toTry _) h) (fun f s1 hsp => ?_) (fun e s1 he => he)
  · obtain ⟨a, B, sI, pins', σ', H', cls, d, rfl, J', nb, up, sky, na, os, ag, w⟩ := xx
    have J : Inv X pins σ' H' sI := J'.ofTry ok
    have sky' : Sky B (X.env :: X.outer) a (L2N.Zn cls d) X.env.locals s'.heap := by rw [← hs]; exact sky
    show wpAny (model X.prog X.w) X.A (noteFrame (.ref a) X.env) _ _ _
    refine L2N.Sky.land L2N.Zn.steady hfr hf sky' fun h3 fl3 up3 => ?_
    exact catch_go ok hN hf (fun o z => z.zc) J nb (up.trans up3) fl3 na os ag (fun h4 hh4 up4 w' => tk1 _ _ ⟨a, B, sI, pins, σ', H', cls, d, rfl, J, nb, up4, .inr (.inr (by rw [hs]; exact hh4)), na, os, ag, w'⟩) hh w
  · obtain ⟨a, B, sI, pins', σ', H', cls, d, rfl, J', nb, up, sky, na, os, ag, w⟩ := xx
    have J : Inv X pins σ' H' sI := J'.ofTry ok
    have sky' : Sky B (X.env :: X.outer) a (Zc cls d) X.env.locals s'.heap := by rw [← hs]; exact sky
    show wpAny (model X.prog X.w) X.A (noteFrame (.ref a) X.env) _ _ _
    refine L2.Sky.land Zc.steady hfr hf sky' fun h3 fl3 up3 => ?_
    exact catch_go ok hN hf (fun o z => z) J nb (up.trans up3) fl3 na os ag (fun h4 hh4 up4 w' => tk2 _ _ ⟨a, B, sI, pins, σ', H', cls, d, rfl, J, nb, up4, .inr (.inr (by rw [hs]; exact hh4)), na, os, ag, w'⟩) hh w
  · cases f with
    | next => obtain ⟨σ', H', J', q⟩ := hsp; exact wpAny_execs_nil ⟨σ', H', J'.ofTry ok, q⟩
    | brk => obtain ⟨σ', H', J', q⟩ := hsp; exact ⟨σ', H', J'.ofTry ok, q⟩
    | cont => obtain ⟨σ', H', J', q⟩ := hsp; exact ⟨σ', H', J'.ofTry ok, q⟩
    | ret u => obtain ⟨v, σ', H', J', r, q⟩ := hsp; exact ⟨v, σ', H', J'.ofTry ok, r, q⟩
end
end DW
end

section
set_option Elab.async false
set_option linter.all false
set_option maxRecDepth 100000
set_option maxHeartbeats 4000000
namespace DW
open PySem PySem.Spec PyProof.Rows L2


def HotV (hot : Nat → Bool) (cls : Nat → Addr) (v : Value) : Prop := ∃ c, v = .ref (cls c) ∧ hot c = true

def CXm (P : Program) (w : World) (hot : Nat → Bool) (cls : Nat → Addr) : CXT := fun outer H s E u s' => L2N.CX P w outer H s E u s' ∨ L2.CX P w outer H s (fun c d H => HotV hot cls c ∧ E c d H) u s'

def spOf (K : PySem.W.Frag) (fld : Nat → Str) (cls : Nat → Addr) (F : List D → Store → DW.R D) : Sp := fun vs H Q XE => ∃ (w : Wd) (S : Store) (ds : List D), Rel K w H S ∧ RVs K w H vs ds ∧ PG K fld (TD K Q) w H (fun c dd H' => XE (.ref (cls c)) (some dd) H') (F ds S)
theorem L2N_CX_imp {P : Program} {w : World} {outer : List PySem.Env} {H : Hp} {s : Shared} {E E' : XK} {u : Value} {s' : Shared} (f : ∀ c d H, E c d H → E' c d H) (h : L2N.CX P w outer H s E u s') : L2N.CX P w outer H s E' u s' := by
  obtain ⟨a, B, H', cls, d, h1, h2, h3, h4, h5, h6, h7, h8⟩ := h
  exact ⟨a, B, H', cls, d, h1, h2, h3, h4, h5, h6, h7, f _ _ _ h8⟩
theorem L2_CX_imp {P : Program} {w : World} {outer : List PySem.Env} {H : Hp} {s : Shared} {E E' : XK} {u : Value} {s' : Shared} (f : ∀ c d H, E c d H → E' c d H) (h : L2.CX P w outer H s E u s') : L2.CX P w outer H s E' u s' := by
  obtain ⟨a, B, H', cls, d, h1, h2, h3, h4, h5, h6, h7, h8⟩ := h
  exact ⟨a, B, H', cls, d, h1, h2, h3, h4, h5, h6, h7, f _ _ _ h8⟩
section
variable {X : Cx} {Γ : Ctx}

def Ctx.xk (Γ : Ctx) (σ : L2.St) : XK := fun c d H => Γ.W c d σ H ∧ (HotV Γ.G.hot Γ.cls c → Γ.V c d σ H)
theorem Ctx.E_xk {σ : L2.St} (hi : ∀ c c', Γ.cls c = Γ.cls c' → Γ.G.hot c = Γ.G.hot c') {c : Nat} {dd : Addr} {H : Hp} (h : Γ.E σ c dd H) : Γ.xk σ (.ref (Γ.cls c)) (some dd) H :=
  ⟨h.1, fun ⟨c', e, hh⟩ => h.2 (by rw [hi c c' (Value.ref.inj e)]; exact hh)⟩
theorem passAt_m (tk1 : L2N.Takes X Γ.W) (tk2 : L2.Takes X Γ.V) (σ : L2.St) : PassesAt (CXm X.prog X.w Γ.G.hot Γ.cls) X σ (Γ.xk σ) := by
  intro pins H s e s' I h
  rcases h with h | h
  · exact L2N.passAt tk1 σ pins H s e s' I (L2N_CX_imp (fun _ _ _ q => q.1) h)
  · exact L2.passAt tk2 σ pins H s e s' I (L2_CX_imp (fun _ _ _ q => q.2.2 q.1) h)
variable {k n : Nat} {f : Addr} {fd : FuncData} {ps : List Str} {x : Str} {p pos : Pos} {F : List D → Store → DW.R D}
theorem sim_call {fi : Nat} {e : Expr} {es : List Expr} {cs : CEs} (hF : FnOk X.prog X.w X.K X.mg X.base (CXm X.prog X.w Γ.G.hot Γ.cls) k f fd ps (spOf X.K Γ.G.fld Γ.cls (Γ.G.call fi))) (hr : Room k X.A) (hg : Gl X x) (hm : X.mg x = some (.ref f)) (hk : PySem.W.keepIn X.K (.ref f) = true) (hb : Binds X.K fd ps [])
    (tk1 : L2N.Takes X Γ.W) (tk2 : L2.Takes X Γ.V) (hi : ∀ c c', Γ.cls c = Γ.cls c' → Γ.G.hot c = Γ.G.hot c') (ha : PA X (e :: es) (tA X.K Γ cs)) (hdb : (x == ("__debug__" : Str)) = false) (hs : (e :: es).all starOk = true) :
    PE X (.Call (.Name x p) (e :: es) [] pos) (tE X.K Γ (.call fi cs)) := by
  have h1 : starOk e = true := by rw [List.all_cons, Bool.and_eq_true] at hs; exact hs.1
  have h2 : es.all starOk = true := by rw [List.all_cons, Bool.and_eq_true] at hs; exact hs.2
  refine ⟨fun pins s σ H Q I h => (pe_callS (E := Γ.xk) hF hr hg hm hk hb (fun σ => passAt_m tk1 tk2 σ) ha hdb (star_each h1 es X.env) (plain_back (e := e) es X.env h2)).run pins s σ H Q I ?_⟩
  obtain ⟨w, ρ, S, R, E, h⟩ := h
  refine ⟨w, ρ, S, R, E, ?_⟩
  exact PG.bindL later_W h fun w1 H1 vs ds S1 l R1 rs h1 => by
    refine ⟨w1, S1, ds, R1, rs, ?_⟩
    cases q : Γ.G.call fi ds S1 with
    | ok d S2 => rw [q] at h1; exact fun w2 H2 v m R2 r => h1 w2 H2 v m R2 r
    | exc c d S2 => rw [q] at h1; exact fun w2 H2 dd u m R2 hd ru => Ctx.E_xk hi (h1 w2 H2 dd u m R2 hd ru)
    | bad z => rw [q] at h1; exact h1.elim

theorem call_end {fi : Nat} {σ : L2.St} {Q : VK} (hi : ∀ c c', Γ.cls c = Γ.cls c' → Γ.G.hot c = Γ.G.hot c') {w1 : Wd} {H1 : Hp} {S1 : Store} {vs : List V} {ds : List D} (R1 : Rel X.K w1 H1 S1) (rs : RVs X.K w1 H1 vs ds)
    (h1 : PG X.K Γ.G.fld (TW X.K Q) w1 H1 (Γ.E σ) ((Γ.G.call fi ds S1).bind fun d S => .ok (.val d) S)) : spOf X.K Γ.G.fld Γ.cls (Γ.G.call fi) vs H1 Q (Γ.xk σ) := by
  refine ⟨w1, S1, ds, R1, rs, ?_⟩
  cases q : Γ.G.call fi ds S1 with
  | ok d S2 => rw [q] at h1; exact fun w2 H2 v m R2 r => h1 w2 H2 v m R2 r
  | exc c d S2 => rw [q] at h1; exact fun w2 H2 dd u m R2 hd ru => Ctx.E_xk hi (h1 w2 H2 dd u m R2 hd ru)
  | bad z => rw [q] at h1; exact h1.elim

def kwsOf : List (Str × Expr × Pos) → List Keyword := List.map fun z => ⟨some z.1, z.2.1, z.2.2⟩
theorem kw_names {env : PySem.Env} {pos : Pos} : ∀ l : List (Str × Expr × Pos), (backToKw pos (keywordEach (kwsOf l) env)).all (·.1.isSome) = true ∧ (backToKw pos (keywordEach (kwsOf l) env)).filterMap (·.1) = l.map (·.1) ∧ (backToKw pos (keywordEach (kwsOf l) env)).any (·.1.isNone) = false
  | [] => ⟨rfl, rfl, rfl⟩
  | z :: l => by
    obtain ⟨h1, h2, h3⟩ := kw_names (env := env) (pos := pos) l
    refine ⟨?_, ?_, ?_⟩
    · show (true && (backToKw pos (keywordEach (kwsOf l) env)).all (·.1.isSome)) = true
      rw [h1]; rfl
    · show z.1 :: (backToKw pos (keywordEach (kwsOf l) env)).filterMap (·.1) = _
      rw [h2]; rfl
    · show (false || (backToKw pos (keywordEach (kwsOf l) env)).any (·.1.isNone)) = false
      rw [h3]; rfl
inductive PKs (X : Cx) (Γ : Ctx) : List (Str × Expr × Pos) → CEs → Prop
  | nil : PKs X Γ [] .nil
  | cons {y : Str} {e : Expr} {q : Pos} {l : List (Str × Expr × Pos)} {c : CE} {cs : CEs} : PE X e (tE X.K Γ c) → PKs X Γ l cs → PKs X Γ ((y, e, q) :: l) (.cons c cs)
theorem PK.weak {X : Cx} {kws : List Keyword} {t t' : TA} (h : PK X kws t) (f : ∀ σ H Q, t' σ H Q → t σ H Q) : PK X kws t' := ⟨fun pos pins s σ H Q I q => h.run pos pins s σ H Q I (f σ H Q q)⟩
theorem PKs.pk {l : List (Str × Expr × Pos)} {cs : CEs} (h : PKs X Γ l cs) : PK X (kwsOf l) (tA X.K Γ cs) := by
  induction h with
  | nil => exact PK.weak pk_nil fun σ H Q ⟨w, ρ, S, R, E, q⟩ => q w H [] Le.refl R .nil
  | cons he _ ih =>
    exact PK.weak (pk_cons he ih) fun σ H Q ⟨w, ρ, S, R, E, q⟩ => ⟨w, ρ, S, R, E, PG.bindW later_L R q fun w1 H1 v x S1 l R1 r h1 =>
      ⟨w1, ρ, S1, R1, E.mono l, PG.bindL later_L h1 fun w2 H2 vs ds S2 m R2 rs h2 => h2 w2 H2 (v :: vs) Le.refl R2 (.cons (r.mono m) rs)⟩⟩
theorem run_kw {pins : List (Addr × Obj)} {σ : L2.St} {H : Hp} {s : Shared} {Q : VK} {E : XK} {CX : CXT} {sp : Sp} {us ws : List Value} {vs zs : List V} {ks : List Str} (F : FnOk X.prog X.w X.K X.mg X.base CX k f fd ps sp) (hr : Room k X.A) (hx : PassesAt CX X σ E)
    (hb : BindsTo s fd ⟨us, ks.zip ws⟩ (ps.zip (us ++ ws))) (I : Inv X pins σ H s) (r : Vals vs us) (rz : Vals zs ws) (h : sp (vs ++ zs) H Q E) : wpAny (model X.prog X.w) X.A (call (.ref f) us (ks.zip ws)) (EP X pins σ Q) X.xe s := by
  refine wpAny_call (codeAny_mono (F.run X.A X.stack s H ⟨us, ks.zip ws⟩ (us ++ ws) (vs ++ zs) Q E hr I.env0 hb (r.append rz) h) fun r s' hq => ?_)
  cases r with
  | error e => exact hx pins H s e s' I hq
  | ok fl =>
    cases fl with
    | ret u => exact I.after hq
    | next => exact False.elim hq
    | brk => exact False.elim hq
    | cont => exact False.elim hq
theorem sim_callK0 {fi : Nat} {l : List (Str × Expr × Pos)} {cs : CEs} (hF : FnOk X.prog X.w X.K X.mg X.base (CXm X.prog X.w Γ.G.hot Γ.cls) k f fd ps (spOf X.K Γ.G.fld Γ.cls (Γ.G.call fi))) (hr : Room k X.A) (hg : Gl X x) (hm : X.mg x = some (.ref f)) (hk : PySem.W.keepIn X.K (.ref f) = true)
    (hb : ∀ ws : List Value, ws.length = ps.length → bindArgs fd ⟨[], (l.map (·.1)).zip ws⟩ = pure (ps.zip ws)) (tk1 : L2N.Takes X Γ.W) (tk2 : L2.Takes X Γ.V) (hi : ∀ c c', Γ.cls c = Γ.cls c' → Γ.G.hot c = Γ.G.hot c') (ha : PKs X Γ l cs) (hdb : (x == ("__debug__" : Str)) = false) :
    PE X (.Call (.Name x p) [] (kwsOf l) pos) (tE X.K Γ (.call fi cs)) := by
  refine ⟨fun pins s σ H Q I h => ?_⟩
  obtain ⟨w, ρ, S, R, E, h⟩ := h
  refine wpAny_Call_Name_kw (ld_glob I hg hm ?_ hdb)
  obtain ⟨n1, n2, n3⟩ := kw_names (env := X.env) (pos := pos) l
  refine PySem.W.callWith_KW0 (h₀ := X.base) I.ok.mod.kin hk n1 ?_ (by rw [n3]; rfl)
  have q : tA X.K Γ cs σ H (fun vs H1 => spOf X.K Γ.G.fld Γ.cls (Γ.G.call fi) vs H1 Q (Γ.xk σ)) := ⟨w, ρ, S, R, E, PG.bindL later_W h fun w1 H1 vs ds S1 l R1 rs h1 => call_end hi R1 rs h1⟩
  refine thn (ha.pk.run pos pins s σ H _ I q) fun ws s2 ⟨zs, H2, I2, rz, q2⟩ => ⟨I2.kIn, ?_⟩
  rw [n2]
  have hl : ws.length = ps.length := by rw [← rz.length]; exact hF.len _ _ _ _ q2
  exact run_kw (us := []) (vs := []) hF hr (passAt_m tk1 tk2 σ) (.of_eq (hb ws hl)) I2 .nil rz q2
theorem sim_callK {fi : Nat} {e : Expr} {es : List Expr} {l : List (Str × Expr × Pos)} {ca cb : CEs} (hF : FnOk X.prog X.w X.K X.mg X.base (CXm X.prog X.w Γ.G.hot Γ.cls) k f fd ps (spOf X.K Γ.G.fld Γ.cls (Γ.G.call fi))) (hr : Room k X.A) (hg : Gl X x) (hm : X.mg x = some (.ref f)) (hk : PySem.W.keepIn X.K (.ref f) = true)
    (hb : ∀ us ws : List Value, (us ++ ws).length = ps.length → us.length = (e :: es).length → bindArgs fd ⟨us, (l.map (·.1)).zip ws⟩ = pure (ps.zip (us ++ ws))) (tk1 : L2N.Takes X Γ.W) (tk2 : L2.Takes X Γ.V) (hi : ∀ c c', Γ.cls c = Γ.cls c' → Γ.G.hot c = Γ.G.hot c')
    (ha : PA X (e :: es) (tA X.K Γ ca)) (hkw : PKs X Γ l cb) (hdb : (x == ("__debug__" : Str)) = false) (hs : (e :: es).all starOk = true)
    (hev : ∀ ρ S, ev Γ.G Γ.cur (.call fi cs) ρ S = (evs Γ.G Γ.cur ca ρ S).bind fun xs S => (evs Γ.G Γ.cur cb ρ S).bind fun ys S => (Γ.G.call fi (xs ++ ys) S).bind fun d S => .ok (.val d) S)
    (hlen : ∀ ρ S xs S', evs Γ.G Γ.cur ca ρ S = .ok xs S' → xs.length = (e :: es).length) :
    PE X (.Call (.Name x p) (e :: es) (kwsOf l) pos) (tE X.K Γ (.call fi cs)) := by
  have h1 : starOk e = true := by rw [List.all_cons, Bool.and_eq_true] at hs; exact hs.1
  refine ⟨fun pins s σ H Q I h => ?_⟩
  obtain ⟨w, ρ, S, R, E, h⟩ := h
  unfold PW at h
  rw [hev] at h
  refine wpAny_Call_Name_kw (ld_glob I hg hm ?_ hdb)
  obtain ⟨n1, n2, n3⟩ := kw_names (env := X.env) (pos := pos) l
  refine PySem.W.callWith_KW (h₀ := X.base) I.ok.mod.kin hk n1 ?_ (by rw [n3, plain_back (e := e) _ _ hs]; rfl) (star_each h1 es X.env)
  have q : tA X.K Γ ca σ H (fun vs H1 => vs.length = (e :: es).length ∧ tA X.K Γ cb σ H1 fun zs H2 => spOf X.K Γ.G.fld Γ.cls (Γ.G.call fi) (vs ++ zs) H2 Q (Γ.xk σ)) := by
    refine ⟨w, ρ, S, R, E, ?_⟩
    cases z : evs Γ.G Γ.cur ca ρ S with
    | ok xs S1 =>
      rw [z] at h
      intro w1 H1 vs l R1 rs
      refine ⟨by rw [rs.length]; exact hlen _ _ _ _ z, w1, ρ, S1, R1, E.mono l, PG.bindL later_W (PG.base later_W l h) fun w2 H2 us ds S2 m R2 rs2 h2 => call_end hi R2 ((rs.mono m).append rs2) h2⟩
    | exc c d S1 => rw [z] at h; exact h
    | bad s => rw [z] at h; exact h
  refine thn (ha.run pos pins s σ H _ I q) fun us s1 ⟨vs, H1, I1, r, hlv, q1⟩ => ?_
  refine thn (hkw.pk.run pos pins s1 σ H1 _ I1 q1) fun ws s2 ⟨zs, H2, I2, rz, q2⟩ => ⟨I2.kIn, ?_⟩
  rw [n2]
  have hl : (us ++ ws).length = ps.length := by rw [List.length_append, ← r.length, ← rz.length, ← List.length_append]; exact hF.len _ _ _ _ q2
  exact run_kw hF hr (passAt_m tk1 tk2 σ) (.of_eq (hb us ws hl (by rw [← r.length]; exact hlv))) I2 r rz q2

theorem PE.never {e : Expr} {t : TE} (h : ∀ σ H Q, ¬ t σ H Q) : PE X e t := ⟨fun _ _ σ H Q _ q => (h σ H Q q).elim⟩

structure HeldOk (X : Cx) (Γ : Ctx) : Prop where
  ok : ∀ (i : Nat) (a : Addr), Γ.ex = some (i, a) → ∀ (c : Nat) (d : D), Γ.cur = some (c, d) → ∃ (X0 : Cx) (oe : Obj) (pn : List (Addr × Obj)), X = X0.suite a ((a, oe) :: pn) ∧ Zc (.ref (Γ.cls c)) Γ.xd oe ∧ (∃ vs, oe.data = .fields vs) ∧ XfC X.K (Γ.cls c) ∧ PySem.W.findIn X.K (.ref (Γ.cls c)) (Γ.G.fld c) = some none
theorem sim_xfld {i : Nat} {x f : Str} {p pos : Pos} (hh : HeldOk X Γ) (hN : X.N[i]? = some x) (hv : Vis X.env.scope x) (hd : (x == ("__debug__" : Str)) = false) (hcd : (x == ("__classdict__" : Str)) = false) (hb : attributeBase (.Name x p) f X.env (eval (.Name x p) X.env) = eval (.Name x p) X.env) :
    PE X (.Attribute (.Name x p) f pos) (tE X.K Γ (.xfld i f)) := by
  refine ⟨fun pins s σ H Q I h => ?_⟩
  obtain ⟨w, ρ, S, R, E, h⟩ := h
  have h' : PG X.K Γ.G.fld (TW X.K Q) w H (Γ.E σ) (match ρ[i]?, Γ.cur with
    | some (some .exn), some (c, v) => if Γ.G.fld c = f then .ok (.val v) S else .bad "field"
    | _, _ => .bad "field") := by
    unfold PW ev at h; exact h
  split at h'
  · rename_i c v hi hc
    split at h'
    · rename_i hf
      subst hf
      obtain ⟨a, ha, hσ⟩ := E.ex i hi
      obtain ⟨dd, u, hxd, hdd, _, ru⟩ := E.held c v hc
      obtain ⟨X0, oe, pn, rfl, hz, hfl, T, hno⟩ := hh.ok i a ha c v hc
      refine (pe_xf (T := T) (hno := hno) (hz := hz) (hf := hfl) (he := pe_var hN hv hd hcd) (hb := hb)).run pins s σ H Q I ?_
      exact ⟨.ref a, hσ, rfl, rfl, dd, [(Γ.G.fld c, u)], u, hxd, hdd, by simp [List.lookup], h' w H u Le.refl R ru⟩
    · exact h'.elim
  · exact h'.elim
variable {C fI : Addr} {nm : Str} {B newId initId : String} {bmB : List Value}

theorem simS_raise {c : Nat} {a : Expr} {ca : CE} {pos2 : Pos} (hc : X.calm = true) (tk1 : L2N.Takes X Γ.W) (T : XTxt X.prog X.K X.mg (Γ.cls c) fI nm (Γ.G.fld c) B newId initId bmB) (hr : X.A.depth + 5 < recursionLimit) (ha : PE X a (tE X.K Γ ca)) (hg : Gl X nm) (hdb : (nm == ("__debug__" : Str)) = false) (hs : starOk a = true) :
    PS X (.Raise (some (.Call (.Name nm p) [a] [] pos)) none pos2) (tS X.K Γ (.raise c ca)) := by
  refine PS.weak (L2N.ps_raise hc tk1 (pmk_x T hr (pa_cons ha pa_nil (star_each hs _ _)) hg hdb hs).pmk) fun Dn σ H h => ?_
  obtain ⟨w, ρ, S, R, E, h⟩ := h
  exact ⟨w, ρ, S, R, E, PSt.toW R E h fun w1 H1 v x S1 l R1 r E1 h1 => ⟨v, rfl, fun d hd => (h1 w1 _ σ d v (Le.new hd) (R1.new hd) (E1.mono (Le.new hd)) upd_same (r.mono (Le.new hd))).1⟩⟩

theorem simS_raiseN {c : Nat} {a : Expr} {ca : CE} {pos2 cpos : Pos} {j : Nat} (hc : L2H.HotC X) (tk2 : L2.Takes X Γ.V) (T : XTxt X.prog X.K X.mg (Γ.cls c) fI nm (Γ.G.fld c) B newId initId bmB) (hr : X.A.depth + 5 < recursionLimit) (ha : PE X a (tE X.K Γ ca)) (hg : Gl X nm) (hdb : (nm == ("__debug__" : Str)) = false) (hs : starOk a = true) :
    PS X (.Raise (some (.Call (.Name nm p) [a] [] pos)) (some (.Constant .none j cpos)) pos2) (tS X.K Γ (.raiseN c ca)) := by
  refine PS.weak (L2H.ps_raiseHN hc tk2 (pmk_x T hr (pa_cons ha pa_nil (star_each hs _ _)) hg hdb hs)) fun Dn σ H h => ?_
  obtain ⟨w, ρ, S, R, E, h⟩ := h
  refine ⟨w, ρ, S, R, E, PSt.toW R E h fun w1 H1 v x S1 l R1 r E1 h1 => ?_⟩
  split at h1
  · rename_i hh
    exact ⟨v, rfl, fun d hd => (h1 w1 _ σ d v (Le.new hd) (R1.new hd) (E1.mono (Le.new hd)) upd_same (r.mono (Le.new hd))).2 hh⟩
  · exact h1.elim
end
end DW
end

section
set_option Elab.async false
set_option linter.all false
set_option maxRecDepth 100000
set_option maxHeartbeats 4000000
namespace DW
open PySem PySem.Spec PyProof.Rows L2

theorem Rel.noxd {K : PySem.W.Frag} {w : Wd} {H : Hp} {S : Store} (R : Rel K w H S) {dd : Addr} {fs : List (Str × V)} (h : H dd = some (.xd fs)) : dd ∉ w.α := fun hm => by
  obtain ⟨i, hi⟩ := List.mem_iff_getElem?.mp hm
  have hl : i < S.length := by rw [← R.len]; exact (List.getElem?_eq_some_iff.mp hi).1
  have z := R.ob i dd S[i] hi (List.getElem?_eq_getElem hl)
  cases q : S[i] with
  | lst xs => rw [q] at z; obtain ⟨_, z, _⟩ := z; rw [h] at z; cases z
  | dct t kvs => rw [q] at z; cases t <;> (obtain ⟨_, z, _⟩ := z; rw [h] at z; cases z)
  | ins c fs => rw [q] at z; exact z

abbrev Ctx.su (Γ : Ctx) (n : Option Nat) (a : Addr) (d : Option Addr) (c : Nat) (v : D) (W V : WX) : Ctx := { Γ with cur := some (c, v), ex := n.map fun i => (i, a), xd := d, W := W, V := V }
section
variable {K : PySem.W.Frag} {Γ : Ctx} {w : Wd} {H : Hp} {σ : L2.St} {ρ : DW.Env} {S : Store} {a dd : Addr} {c : Nat} {v : D} {W V : WX} {u : L2.V}
theorem RE.noex (E : RE K Γ w H σ ρ) (hx : Γ.ex = none) (j : Nat) : ρ[j]? ≠ some (some .exn) := fun h => by
  obtain ⟨a, q, _⟩ := E.ex j h
  rw [hx] at q; cases q
theorem RE.su0 (E : RE K Γ w H σ ρ) (hx : Γ.ex = none) (R : Rel K w H S) (hd : H dd = some (.xd [(Γ.G.fld c, u)])) (r : RV K w H u v) : RE K (Γ.su none a (some dd) c v W V) w H σ ρ :=
  ⟨E.len, E.val, fun j h => absurd h (E.noex hx j), fun c' d' h => by cases h; exact ⟨dd, u, rfl, hd, R.noxd hd, r⟩⟩
theorem RE.su1 (E : RE K Γ w H σ ρ) (hx : Γ.ex = none) (R : Rel K w H S) (hd : H dd = some (.xd [(Γ.G.fld c, u)])) (r : RV K w H u v) {i : Nat} (hi : i < ρ.length) :
    RE K (Γ.su (some i) a (some dd) c v W V) w H (σ.set i (some (.ref a))) (ρ.set i (some .exn)) := by
  refine ⟨by rw [List.length_set, List.length_set, E.len], fun j e h n => ?_, fun j h => ?_, fun c' d' h => by cases h; exact ⟨dd, u, rfl, hd, R.noxd hd, r⟩⟩
  · by_cases hij : i = j
    · subst hij
      rw [List.getElem?_set_self hi] at h
      cases h
      exact absurd rfl n
    · rw [List.getElem?_set_ne hij] at h
      obtain ⟨x, q, rx⟩ := E.val j e h n
      exact ⟨x, by rw [List.getElem?_set_ne hij]; exact q, rx⟩
  · by_cases hij : i = j
    · subst hij
      exact ⟨a, rfl, List.getElem?_set_self (by rw [← E.len]; exact hi)⟩
    · rw [List.getElem?_set_ne hij] at h
      exact absurd h (E.noex hx j)
theorem RE.unsu0 {d : Option Addr} (hx : Γ.ex = none) (hc : Γ.cur = none) (E : RE K (Γ.su none a d c v W V) w H σ ρ) : RE K Γ w H σ ρ :=
  ⟨E.len, E.val, (fun j h => by obtain ⟨b, q, _⟩ := E.ex j h; cases q), fun c' d' h => by rw [hc] at h; cases h⟩
theorem RE.unsu1 {d : Option Addr} {i : Nat} (hx : Γ.ex = none) (hc : Γ.cur = none) (E : RE K (Γ.su (some i) a d c v W V) w H σ ρ) : RE K Γ w H (σ.set i none) (ρ.set i none) := by
  have E2 := E.clr i
  refine ⟨E2.len, E2.val, fun j h => ?_, fun c' d' h => by rw [hc] at h; cases h⟩
  by_cases hij : i = j
  · subst hij
    by_cases hl : i < ρ.length
    · rw [List.getElem?_set_self hl] at h; cases h
    · rw [List.getElem?_eq_none (by rw [List.length_set]; omega)] at h; cases h
  · obtain ⟨b, q, _⟩ := E2.ex j h
    cases q
    exact absurd rfl hij
end
section
variable {X : Cx} {Γ : Ctx} {pos : Pos}

inductive HsOk (X : Cx) (Γ : Ctx) : List ExceptHandler → CHs → List Cl → Prop
  | nil : HsOk X Γ [] .nil []
  | cons {x : Str} {c : Value} {h : Nat} {n : Option Nat} {nm : Option Str} {b : CSs} {b₀ : Stmt} {suite : List Stmt} {np pos' : Pos} {hds : List ExceptHandler} {hs : CHs} {l : List Cl} (hc : Names X x c) (hm : ∀ k, PySem.W.exmOne X.K (.ref (Γ.cls k)) c = some (Γ.G.sub k h))
      (hn : (nm = none ∧ n = none) ∨ ∃ (y : Str) (i : Nat), nm = some y ∧ n = some i ∧ X.N[i]? = some y ∧ X.env.kindOf y = some .local)
      (hsu : ∀ (a : Addr) (oe : Obj) (d : Option Addr) (pn : List (Addr × Obj)) (k : Nat) (v : D), Zc (.ref (Γ.cls k)) d oe → (∃ vs, oe.data = .fields vs) → PSs (X.suite a ((a, oe) :: pn)) (b₀ :: suite) (tSs X.K (Γ.su n a d k v (fun _ _ _ _ => False) fun _ _ _ _ => False) b)) (r : HsOk X Γ hds hs l) :
      HsOk X Γ (.ExceptHandler (some (.Name x np)) nm (b₀ :: suite) pos' :: hds) (.cons h n b hs)
        ((c, n, fun a cls d Dn σ H => ∃ (k : Nat) (v : D), cls = .ref (Γ.cls k) ∧ tSs X.K (Γ.su n a d k v (fun _ _ _ _ => False) fun _ _ _ _ => False) b Dn σ H) :: l)
theorem PSs.ex2 {st : List Stmt} {α β : Type} {t : α → β → TS} {g : α → β → Prop} (h : ∀ a b, g a b → PSs X st (t a b)) : PSs X st (fun D σ H => ∃ a b, g a b ∧ t a b D σ H) := ⟨fun pins s σ H D I ⟨a, b, q, z⟩ => (h a b q).run pins s σ H D I z⟩
theorem HsOk.cls {hds : List ExceptHandler} {hs : CHs} {l : List Cl} (h : HsOk X Γ hds hs l) : ClOk X hds l := by
  induction h with
  | nil => exact .nil
  | cons hc hm hn hsu _ ih => exact .cons hc hn (fun a oe cls d pn hz hf => PSs.ex2 fun k v e => by subst e; exact hsu a oe d pn k v hz hf) ih
theorem hs_wish {hds : List ExceptHandler} {hs : CHs} {l : List Cl} (h : HsOk X Γ hds hs l) (hx : Γ.ex = none) (hcur : Γ.cur = none) {Dn : Ends} {w : Wd} {H : Hp} {σ : L2.St} {ρ : DW.Env} {S : Store} {c : Nat} {v : D} {dd : Addr} {u : V} (R : Rel X.K w H S) (E : RE X.K Γ w H σ ρ) (hd : H dd = some (.xd [(Γ.G.fld c, u)])) (r : RV X.K w H u v)
    (q : PSt X.K Γ Dn w H (exh Γ.G hs c v ρ S)) : wAll X.K Γ.W Dn l (.ref (Γ.cls c)) (some dd) σ H ∧ (Γ.G.hot c = true → wAll X.K Γ.V Dn l (.ref (Γ.cls c)) (some dd) σ H) := by
  induction h with
  | nil => exact q w H σ dd u Le.refl R E hd r
  | @cons x c' h n nm b b₀ suite np pos' hds hs l hc hm hn hsu rest ih =>
    unfold exh at q
    cases hsub : Γ.G.sub c h with
    | false =>
      rw [hsub] at q
      obtain ⟨i1, i2⟩ := ih q
      exact ⟨⟨false, by rw [hm c, hsub], nofun, fun _ => i1⟩, fun hh => ⟨false, by rw [hm c, hsub], nofun, fun _ => i2 hh⟩⟩
    | true =>
      rw [hsub, if_pos rfl] at q
      have key : ∀ a, H a = none → ∃ (k : Nat) (v : D), Value.ref (Γ.cls c) = .ref (Γ.cls k) ∧ tSs X.K (Γ.su n a (some dd) k v (fun _ _ _ _ => False) fun _ _ _ _ => False) b (endN n Dn) (setN a n σ) H := by
        intro a ha
        refine ⟨c, v, rfl, ?_⟩
        cases n with
        | none =>
          refine ⟨w, ρ, S, R, E.su0 hx R hd r, ?_⟩
          have q' : PSt X.K Γ Dn w H (match exs Γ.G (some (c, v)) b ρ S with
            | .exc _ _ _ _ => .bad "an error out of a suite"
            | r => r) := q
          show PSt X.K _ Dn w H (exs Γ.G (some (c, v)) b ρ S)
          cases z : exs Γ.G (some (c, v)) b ρ S with
          | nx ρ1 S1 => rw [z] at q'; exact fun w2 H2 σ2 l2 R2 E2 => q' w2 H2 σ2 l2 R2 (RE.unsu0 hx hcur E2)
          | bk ρ1 S1 => rw [z] at q'; exact fun w2 H2 σ2 l2 R2 E2 => q' w2 H2 σ2 l2 R2 (RE.unsu0 hx hcur E2)
          | ct ρ1 S1 => rw [z] at q'; exact fun w2 H2 σ2 l2 R2 E2 => q' w2 H2 σ2 l2 R2 (RE.unsu0 hx hcur E2)
          | rt d S1 => rw [z] at q'; exact q'
          | exc c d ρ1 S1 => rw [z] at q'; exact q'.elim
          | bad s => rw [z] at q'; exact q'.elim
        | some i =>
          simp only at q
          split at q
          · rename_i hi
            refine ⟨w, ρ.set i (some .exn), S, R, E.su1 hx R hd r hi, ?_⟩
            have q' : PSt X.K Γ Dn w H (match exs Γ.G (some (c, v)) b (ρ.set i (some .exn)) S with
              | .nx ρ S => .nx (ρ.set i none) S
              | .bk ρ S => .bk (ρ.set i none) S
              | .ct ρ S => .ct (ρ.set i none) S
              | .exc _ _ _ _ => .bad "an error out of a suite"
              | r => r) := q
            show PSt X.K _ _ w H (exs Γ.G (some (c, v)) b (ρ.set i (some .exn)) S)
            cases z : exs Γ.G (some (c, v)) b (ρ.set i (some .exn)) S with
            | nx ρ1 S1 => rw [z] at q'; exact fun w2 H2 σ2 l2 R2 E2 => q' w2 H2 _ l2 R2 (RE.unsu1 hx hcur E2)
            | bk ρ1 S1 => rw [z] at q'; exact fun w2 H2 σ2 l2 R2 E2 => q' w2 H2 _ l2 R2 (RE.unsu1 hx hcur E2)
            | ct ρ1 S1 => rw [z] at q'; exact fun w2 H2 σ2 l2 R2 E2 => q' w2 H2 _ l2 R2 (RE.unsu1 hx hcur E2)
            | rt d S1 => rw [z] at q'; exact q'
            | exc c d ρ1 S1 => rw [z] at q'; exact q'.elim
            | bad s => rw [z] at q'; exact q'.elim
          · exact q.elim
      exact ⟨⟨true, by rw [hm c, hsub], fun _ a ha => key a ha, nofun⟩, fun hh => ⟨true, by rw [hm c, hsub], fun _ a ha => key a ha, nofun⟩⟩
theorem simS_tryx {body : List Stmt} {h₀ : ExceptHandler} {hds : List ExceptHandler} {l : List Cl} {cb : CSs} {hs : CHs} (hst : X.stack = X.env :: X.outer) (hf : X.env.frame = some X.env.locals) (hN : X.N.Nodup) (hx : Γ.ex = none) (hcur : Γ.cur = none) (tk1 : L2N.Takes X Γ.W) (tk2 : L2.Takes X Γ.V)
    (hb : ∀ (V1 V2 : WX) (pn : List (Addr × Obj)) (xe : Value → Shared → Prop), L2N.Takes (X.tr pn xe) V1 → L2.Takes (X.tr pn xe) V2 → PassesOwn (model X.prog X.w) X.A X.env xe → PSs (X.tr pn xe) body (tSs X.K { Γ with W := V1, V := V2 } cb))
    (hh : HsOk X Γ (h₀ :: hds) hs l) : PS X (.Try body (h₀ :: hds) [] [] pos) (tS X.K Γ (.tryx cb hs)) := by
  refine PS.weak (try_all (tb := fun V1 V2 => tSs X.K { Γ with W := V1, V := V2 } cb) hst hf hN tk1 tk2 hb hh.cls) fun Dn σ H h => ?_
  obtain ⟨w, ρ, S, R, E, h⟩ := h
  refine ⟨w, ρ, S, R, E.inner, ?_⟩
  have h' : PSt X.K Γ Dn w H (match exs Γ.G Γ.cur cb ρ S with
    | .exc c v ρ' S' => exh Γ.G hs c v ρ' S'
    | r => r) := by unfold ex at h; exact h
  show PSt X.K _ Dn w H (exs Γ.G Γ.cur cb ρ S)
  cases z : exs Γ.G Γ.cur cb ρ S with
  | nx ρ1 S1 => rw [z] at h'; exact fun w2 H2 σ2 l2 R2 E2 => h' w2 H2 σ2 l2 R2 E2.outer
  | bk ρ1 S1 => rw [z] at h'; exact fun w2 H2 σ2 l2 R2 E2 => h' w2 H2 σ2 l2 R2 E2.outer
  | ct ρ1 S1 => rw [z] at h'; exact fun w2 H2 σ2 l2 R2 E2 => h' w2 H2 σ2 l2 R2 E2.outer
  | rt d S1 => rw [z] at h'; exact h'
  | exc c v ρ1 S1 => rw [z] at h'; exact fun w2 H2 σ2 dd u l2 R2 E2 hd ru => hs_wish hh hx hcur R2 E2.outer hd ru (PSt.base l2 h')
  | bad s => rw [z] at h'; exact h'
theorem simS_tryr {body : List Stmt} {x : Str} {c : Value} {h : Nat} {cb cs : CSs} {b₀ : Stmt} {suite : List Stmt} {np pos' : Pos} (hst : X.stack = X.env :: X.outer) (hf : X.env.frame = some X.env.locals) (hx : Γ.ex = none) (hcur : Γ.cur = none) (tk2 : L2.Takes X Γ.V)
    (hc : Names X x c) (hm : ∀ k, PySem.W.exmOne X.K (.ref (Γ.cls k)) c = some (Γ.G.sub k h)) (hpa : ∀ hd : Option Value, PassesOwnAt (model X.prog X.w) (X.A.mark hd) X.A X.env X.xe)
    (hb : ∀ (V1 V2 : WX) (pn : List (Addr × Obj)) (xe : Value → Shared → Prop), L2N.Takes (X.tr pn xe) V1 → L2.Takes (X.tr pn xe) V2 → PassesOwn (model X.prog X.w) X.A X.env xe → PSs (X.tr pn xe) body (tSs X.K { Γ with W := V1, V := V2 } cb))
    (hsu : ∀ (a : Addr) (oe : Obj) (d : Option Addr) (pn : List (Addr × Obj)) (k : Nat) (v : D), L2.Takes (L2H.suiteX X a ((a, oe) :: pn)) Γ.V → L2H.HotC (L2H.suiteX X a ((a, oe) :: pn)) → PSs (L2H.suiteX X a ((a, oe) :: pn)) (b₀ :: suite) (tSs X.K (Γ.su none a d k v (fun _ _ _ _ => True) Γ.V) cs)) :
    PS X (.Try body [.ExceptHandler (some (.Name x np)) none (b₀ :: suite) pos'] [] [] pos) (tS X.K Γ (.tryr cb h cs)) := by
  refine PS.weak (L2H.ps_try_onlyX (tb := fun W => tSs X.K { Γ with W := W, V := L2H.wPass X.K c Γ.V } cb) (ts := fun a cls d Dn σ H => ∃ (k : Nat) (v : D), cls = .ref (Γ.cls k) ∧ tSs X.K (Γ.su none a d k v (fun _ _ _ _ => True) Γ.V) cs Dn σ H) hst hf hc hpa tk2
    (fun W pn xe t1 t2 hp => hb W _ pn xe t1 t2 hp) (fun a oe cls d pn hz hfl t2 hot => PSs.ex2 fun k v e => hsu a oe d pn k v t2 hot)) fun Dn σ H q => ?_
  obtain ⟨w, ρ, S, R, E, q⟩ := q
  refine ⟨w, ρ, S, R, E.inner, ?_⟩
  have h' : PSt X.K Γ Dn w H (match exs Γ.G Γ.cur cb ρ S with
    | .exc c v ρ' S' => if Γ.G.sub c h then (if Γ.G.hot c then .bad "a hot error" else exs Γ.G (some (c, v)) cs ρ' S') else (if Γ.G.hot c then .exc c v ρ' S' else .bad "an error flies through")
    | r => r) := by unfold ex at q; exact q
  show PSt X.K _ Dn w H (exs Γ.G Γ.cur cb ρ S)
  cases z : exs Γ.G Γ.cur cb ρ S with
  | nx ρ1 S1 => rw [z] at h'; exact fun w2 H2 σ2 l2 R2 E2 => h' w2 H2 σ2 l2 R2 E2.outer
  | bk ρ1 S1 => rw [z] at h'; exact fun w2 H2 σ2 l2 R2 E2 => h' w2 H2 σ2 l2 R2 E2.outer
  | ct ρ1 S1 => rw [z] at h'; exact fun w2 H2 σ2 l2 R2 E2 => h' w2 H2 σ2 l2 R2 E2.outer
  | rt d S1 => rw [z] at h'; exact h'
  | bad s => rw [z] at h'; exact h'
  | exc k v ρ1 S1 =>
    rw [z] at h'
    intro w2 H2 σ2 dd u l2 R2 E2 hd ru
    have h2 := PSt.base l2 h'
    simp only at h2
    cases hsub : Γ.G.sub k h with
    | false =>
      rw [hsub, if_neg Bool.false_ne_true] at h2
      split at h2
      · rename_i hh
        have e := h2 w2 H2 σ2 dd u Le.refl R2 E2.outer hd ru
        exact ⟨⟨false, by rw [hm k, hsub], nofun, fun _ => e.2 hh⟩, fun _ => ⟨by rw [hm k, hsub], e.2 hh⟩⟩
      · exact h2.elim
    | true =>
      rw [hsub, if_pos rfl] at h2
      split at h2
      · exact h2.elim
      · rename_i hh
        refine ⟨⟨true, by rw [hm k, hsub], fun _ a ha => ⟨k, v, rfl, w2, ρ1, S1, R2, E2.outer.su0 hx R2 hd ru, ?_⟩, nofun⟩, fun z => absurd z hh⟩
        show PSt X.K _ Dn w2 H2 (exs Γ.G (some (k, v)) cs ρ1 S1)
        cases y : exs Γ.G (some (k, v)) cs ρ1 S1 with
        | nx ρ1 S1 => rw [y] at h2; exact fun w3 H3 σ3 l3 R3 E3 => h2 w3 H3 σ3 l3 R3 (RE.unsu0 hx hcur E3)
        | bk ρ1 S1 => rw [y] at h2; exact fun w3 H3 σ3 l3 R3 E3 => h2 w3 H3 σ3 l3 R3 (RE.unsu0 hx hcur E3)
        | ct ρ1 S1 => rw [y] at h2; exact fun w3 H3 σ3 l3 R3 E3 => h2 w3 H3 σ3 l3 R3 (RE.unsu0 hx hcur E3)
        | rt d S1 => rw [y] at h2; exact h2
        | exc c d ρ1 S1 => rw [y] at h2; exact fun w3 H3 σ3 dd u l3 R3 E3 hd ru => ⟨True.intro, (h2 w3 H3 σ3 dd u l3 R3 (RE.unsu0 hx hcur E3) hd ru).2⟩
        | bad s => rw [y] at h2; exact h2.elim
end
end DW
end

section
set_option Elab.async false
set_option linter.all false
set_option maxRecDepth 100000
set_option maxHeartbeats 4000000
namespace DW
open PySem PySem.Spec PyProof.Rows L2 C8

section
variable {K : PySem.W.Frag} {w w' : Wd} {H H' : Hp} {S S' : Store}
mutual
theorem RV.und (R : Rel K w H S) : ∀ {v : V} {d : D}, RV K w H v d → d.und S.length = true
  | _, _, .non => rfl
  | _, _, .bl b => rfl
  | _, _, .int i => rfl
  | _, _, .str x => rfl
  | _, _, .tup e n m r => by unfold D.und; exact RVs.und R r
  | _, _, .lst e n m r => by unfold D.und; exact RVs.und R r
  | _, _, .frz e r => by unfold D.und; exact RVs.und R r
  | _, _, .ref (n := n) h => by
    unfold D.und
    have : n < w.α.length := (List.getElem?_eq_some_iff.mp h).1
    rw [R.len] at this
    simpa using this
theorem RVs.und (R : Rel K w H S) : ∀ {vs : List V} {ds : List D}, RVs K w H vs ds → D.unds S.length ds = true
  | _, _, .nil => rfl
  | _, _, .cons h r => by unfold D.unds; rw [RV.und R h, RVs.und R r]; rfl
end
mutual

theorem RV.back (p : ∃ t, w'.α = w.α ++ t) (av : w'.av = w.av) : ∀ {v : V} {d : D}, RV K w' H v d → d.und w.α.length = true → RV K w H v d
  | _, _, .non, _ => .non
  | _, _, .bl b, _ => .bl b
  | _, _, .int i, _ => .int i
  | _, _, .str x, _ => .str x
  | _, _, .tup e n m r, u => .tup e (fun h => n (by obtain ⟨t, q⟩ := p; rw [q]; exact List.mem_append_left _ h)) (by rw [← av]; exact m) (RVs.back p av r (by unfold D.und at u; exact u))
  | _, _, .lst e n m r, u => .lst e (fun h => n (by obtain ⟨t, q⟩ := p; rw [q]; exact List.mem_append_left _ h)) (by rw [← av]; exact m) (RVs.back p av r (by unfold D.und at u; exact u))
  | _, _, .frz e r, u => .frz (by
      rcases e with ⟨n, o, e⟩ | e
      · exact .inl ⟨fun h => n (by obtain ⟨t, q⟩ := p; rw [q]; exact List.mem_append_left _ h), o, e⟩
      · exact .inr e) (RVs.back p av r (by unfold D.und at u; exact u))
  | _, _, .ref (n := n) h, u => .ref (by
      unfold D.und at u
      have hn : n < w.α.length := by simpa using u
      obtain ⟨t, q⟩ := p
      rw [q, List.getElem?_append_left hn] at h
      exact h)
theorem RVs.back (p : ∃ t, w'.α = w.α ++ t) (av : w'.av = w.av) : ∀ {vs : List V} {ds : List D}, RVs K w' H vs ds → D.unds w.α.length ds = true → RVs K w H vs ds
  | _, _, .nil, _ => .nil
  | _, _, .cons h r, u => by
    unfold D.unds at u
    rw [Bool.and_eq_true] at u
    exact .cons (RV.back p av h u.1) (RVs.back p av r u.2)
end
theorem Paired.imp2 {α β : Type} {F G : α → β → Prop} {l₁ : List α} {l₂ : List β} (h : Paired F l₁ l₂) {F' : α → β → Prop} (h' : Paired F' l₁ l₂) (f : ∀ a b, F a b → F' a b → G a b) : Paired G l₁ l₂ := by
  induction h with
  | nil => exact .nil
  | cons p _ ih => cases h' with
    | cons p' r' => exact .cons (f _ _ p p') (ih r')

theorem Rel.back (R : Rel K w H S) (l : Le w H w' H') (R' : Rel K w' H' S') (hs : S'.take S.length = S) : Rel K w H' S := by
  refine ⟨R.len, R.nd, fun a h => ?_, fun i a o h q => ?_⟩
  · obtain ⟨n, o, e⟩ := R.av a h
    exact ⟨n, o, l.keep a o e n⟩
  · have hi : i < S.length := (List.getElem?_eq_some_iff.mp q).1
    have q' : S'[i]? = some o := by rw [← hs, List.getElem?_take_of_lt hi] at q; exact q
    have r1 := R.ob i a o h q
    have r2 := R'.ob i a o (l.at h) q'
    cases o with
    | lst xs =>
      obtain ⟨vs, e1, s1⟩ := r1
      obtain ⟨us, e2, s2⟩ := r2
      exact ⟨us, e2, RVs.back l.pre l.av s2 (by rw [R.len]; exact RVs.und R s1)⟩
    | dct t kvs =>
      have und : ∀ (v : V) (d : D), RV K w H v d → d.und w.α.length = true := fun v d r => by rw [R.len]; exact RV.und R r
      cases t with
      | false =>
        obtain ⟨ks, e1, s1⟩ := r1
        obtain ⟨us, e2, s2⟩ := r2
        refine ⟨us, e2, ?_⟩
        have : ∀ {l1 l2 : List (Key × V)} {m : List (D × D)}, Paired (fun (p : Key × V) (q : D × D) => keyD p.1 = q.1 ∧ RV K w H p.2 q.2) l1 m → Paired (fun (p : Key × V) (q : D × D) => keyD p.1 = q.1 ∧ RV K w' H' p.2 q.2) l2 m → Paired (fun (p : Key × V) (q : D × D) => keyD p.1 = q.1 ∧ RV K w H' p.2 q.2) l2 m := by
          intro l1 l2 m h1 h2
          induction h1 generalizing l2 with
          | nil => cases h2; exact .nil
          | cons p _ ih => cases h2 with
            | cons p' r' => exact .cons ⟨p'.1, RV.back l.pre l.av p'.2 (und _ _ p.2)⟩ (ih r')
        exact this s1 s2
      | true =>
        obtain ⟨ks, e1, s1⟩ := r1
        obtain ⟨us, e2, s2⟩ := r2
        refine ⟨us, e2, ?_⟩
        have : ∀ {l1 l2 : List (List Key × V)} {m : List (D × D)}, Paired (fun (p : List Key × V) (q : D × D) => tkeyD p.1 = q.1 ∧ RV K w H p.2 q.2) l1 m → Paired (fun (p : List Key × V) (q : D × D) => tkeyD p.1 = q.1 ∧ RV K w' H' p.2 q.2) l2 m → Paired (fun (p : List Key × V) (q : D × D) => tkeyD p.1 = q.1 ∧ RV K w H' p.2 q.2) l2 m := by
          intro l1 l2 m h1 h2
          induction h1 generalizing l2 with
          | nil => cases h2; exact .nil
          | cons p _ ih => cases h2 with
            | cons p' r' => exact .cons ⟨p'.1, RV.back l.pre l.av p'.2 (und _ _ p.2)⟩ (ih r')
        exact this s1 s2
    | ins c fs => exact r2
theorem Le.back (l : Le w H w' H') : Le w H w H' := ⟨⟨[], by simp⟩, rfl, fun _ h => .inl h, l.keep⟩

theorem gc_back {d : D} {v : V} (R : Rel K w H S) (l : Le w H w' H') (R' : Rel K w' H' S') (r : RV K w' H' v d) : ∃ w'', Le w H w'' H' ∧ Rel K w'' H' (gc S S' d) ∧ RV K w'' H' v d := by
  unfold gc
  split
  · rename_i h
    rw [Bool.and_eq_true, decide_eq_true_eq] at h
    exact ⟨w, l.back, R.back l R' h.2, r.back l.pre l.av (by rw [R.len]; exact h.1)⟩
  · exact ⟨w', l, R', r⟩
end
theorem RE.atStart {K : PySem.W.Frag} {Γ : Ctx} {w : Wd} {H : Hp} {N : List Str} {vs : List V} {ds : List D} {m : Nat} (hc : Γ.cur = none) (rs : RVs K w H vs ds) (hm : N.length - vs.length = m) (hs : ∀ d ∈ ds, d ≠ .exn) : RE K Γ w H (L2.start N vs) (ds.map some ++ List.replicate m none) := by
  have hl := rs.length
  refine ⟨?_, fun i d h n => ?_, fun i h => ?_, fun c d h => by rw [hc] at h; cases h⟩
  · unfold L2.start
    rw [List.length_append, List.length_append, List.length_map, List.length_map, List.length_replicate, List.length_replicate, hl, ← hm, hl]
  · by_cases hi : i < ds.length
    · rw [List.getElem?_append_left (by rw [List.length_map]; exact hi), List.getElem?_map] at h
      cases q : ds[i]? with
      | none => rw [q] at h; cases h
      | some d' =>
        rw [q] at h
        cases h
        obtain ⟨v, hv, r⟩ := rs.get q
        refine ⟨v, ?_, r⟩
        unfold L2.start
        rw [List.getElem?_append_left (by rw [List.length_map, hl]; exact hi), List.getElem?_map, hv]; rfl
    · rw [List.getElem?_append_right (by rw [List.length_map]; omega), List.getElem?_replicate] at h
      split at h <;> cases h
  · by_cases hi : i < ds.length
    · rw [List.getElem?_append_left (by rw [List.length_map]; exact hi), List.getElem?_map] at h
      cases q : ds[i]? with
      | none => rw [q] at h; cases h
      | some d' =>
        rw [q] at h
        cases h
        exact absurd rfl (hs _ (List.mem_of_getElem? q))
    · rw [List.getElem?_append_right (by rw [List.length_map]; omega), List.getElem?_replicate] at h
      split at h <;> cases h
theorem RVs.noexn {K : PySem.W.Frag} {w : Wd} {H : Hp} : ∀ {vs : List V} {ds : List D}, RVs K w H vs ds → ∀ d ∈ ds, d ≠ .exn
  | _, _, .nil, d, h => by simp at h
  | _, _, .cons h r, d, hd => by
    rcases List.mem_cons.mp hd with z | z
    · rw [z]; intro q; rw [q] at h; exact nomatch h
    · exact RVs.noexn r d z
abbrev Ctx.ofFn (T : List Fn) (sub : Nat → Nat → Bool) (fld : Nat → Str) (hot : Nat → Bool) (cls : Nat → Addr) (k : Nat) (E : XK) : Ctx :=
  { G := ⟨run T sub fld hot k, sub, fld, hot⟩, cur := none, ex := none, xd := none, W := fun c d _ H => E c d H, V := fun c d _ H => HotV hot cls c ∧ E c d H, cls := cls }
section
variable {P : Program} {w : World} {K : PySem.W.Frag} {mg : Str → Option Value} {base : Heap} {T : List Fn} {sub : Nat → Nat → Bool} {fld : Nat → Str} {hot : Nat → Bool} {cls : Nat → Addr}
theorem run_len {k fi : Nat} {fn : Fn} (hT : T[fi]? = some fn) {ds : List D} {S : Store} (h : ds.length ≠ fn.par) : ∃ z, run T sub fld hot k fi ds S = .bad z := by
  cases k with
  | zero => exact ⟨_, rfl⟩
  | succ k => unfold run; rw [hT]; simp only; rw [if_neg h]; exact ⟨_, rfl⟩
theorem sp_len {k fi : Nat} {fn : Fn} {n : Nat} (hT : T[fi]? = some fn) (hp : fn.par = n) : ∀ vs H Q E, spOf K fld cls (run T sub fld hot k fi) vs H Q E → vs.length = n := by
  intro vs H Q E ⟨w, S, ds, R, rs, h⟩
  rw [rs.length]
  by_cases hl : ds.length = fn.par
  · rw [hl, hp]
  · obtain ⟨z, q⟩ := run_len (sub := sub) (fld := fld) (hot := hot) (k := k) hT (S := S) hl
    rw [q] at h
    exact h.elim
theorem fn_gen {k fi : Nat} {fn : Fn} {x qual : Str} {st : Stmt} {f : Addr} {fd : FuncData} {N ps : List Str} (hT : T[fi]? = some fn) (F : C8.Fun K x qual st f fd) (S : FnScope N ps (fnScope st)) (hp : fn.par = ps.length) (hsl : fn.slots = N.length)
    (hbody : ∀ (cdv : Value) (A : Around) (outer : List PySem.Env) (s : Shared) (H : Hp) (E : XK), Room k (A.deeper (envOfC qual (fnScope st) s.heap.objs.size f cdv)) →
      PSs (cxOf (CXm P w hot cls) P w K mg base N qual (fnScope st) f cdv A outer s H E) (fnBody st) (tSs K (Ctx.ofFn T sub fld hot cls k E) fn.body)) :
    FnOk P w K mg base (CXm P w hot cls) (k + 1) f fd ps (spOf K fld cls (run T sub fld hot (k + 1) fi)) := by
  obtain ⟨oc, od, dV, kV, doc, pm, an, cdv, ct, osl, rfl, lk, hcd⟩ := F.ex
  refine fn_of lk hcd S (sp_len hT hp) fun A outer s H vs Q E hr hsp => ⟨_, hbody cdv A outer s H E hr, ?_⟩
  obtain ⟨w0, S0, ds, R, rs, h⟩ := hsp
  unfold run at h
  rw [hT] at h
  simp only at h
  split at h
  · rename_i hl
    refine ⟨w0, _, S0, R, RE.atStart (m := fn.slots - fn.par) rfl rs (by rw [rs.length, hl, hsl]) rs.noexn, ?_⟩
    show PSt K _ _ w0 H (exs _ none fn.body (ds.map some ++ List.replicate (fn.slots - fn.par) none) S0)
    have hnl : fn.slots - fn.par = N.length - vs.length := by rw [rs.length, hl, hsl]
    cases q : exs ⟨run T sub fld hot k, sub, fld, hot⟩ none fn.body (ds.map some ++ List.replicate (fn.slots - fn.par) none) S0 with
    | nx ρ S1 =>
      rw [q] at h
      intro w1 H1 σ1 l R1 E1
      obtain ⟨w2, l2, R2, r2⟩ := gc_back (d := .non) (v := .non) R l R1 .non
      exact h w2 H1 .non l2 R2 r2
    | rt d S1 =>
      rw [q] at h
      unfold fin at h
      simp only at h
      split at h
      · intro w1 H1 v l R1 r
        obtain ⟨w2, l2, R2, r2⟩ := gc_back R l R1 r
        exact h w2 H1 v l2 R2 r2
      · exact h.elim
    | exc c d ρ S1 =>
      rw [q] at h
      unfold fin at h
      simp only at h
      split at h
      · intro w1 H1 σ1 dd u l R1 E1 hd r
        obtain ⟨w2, l2, R2, r2⟩ := gc_back R l R1 r
        have e := h w2 H1 dd u l2 R2 hd r2
        exact ⟨e, fun hh => ⟨⟨c, rfl, hh⟩, e⟩⟩
      · exact h.elim
    | bk ρ S1 => rw [q] at h; exact h.elim
    | ct ρ S1 => rw [q] at h; exact h.elim
    | bad z => rw [q] at h; exact h.elim
  · exact h.elim

theorem fn_zero {fi : Nat} {f : Addr} {fd : FuncData} {ps : List Str} : FnOk P w K mg base (CXm P w hot cls) 0 f fd ps (spOf K fld cls (run T sub fld hot 0 fi)) :=
  ⟨fun vs H Q E ⟨_, _, _, _, _, h⟩ => h.elim, fun A outer s H args us vs Q E _ _ _ _ ⟨_, _, _, _, _, h⟩ => h.elim⟩

theorem takes_fn {k : Nat} {qual : Str} {scope : Scope} {N : List Str} {f : Addr} {cdv : Value} {A : Around} {outer : List PySem.Env} {s : Shared} {H : Hp} {E : XK} :
    L2N.Takes (cxOf (CXm P w hot cls) P w K mg base N qual scope f cdv A outer s H E) (Ctx.ofFn T sub fld hot cls k E).W ∧ L2.Takes (cxOf (CXm P w hot cls) P w K mg base N qual scope f cdv A outer s H E) (Ctx.ofFn T sub fld hot cls k E).V := by
  constructor
  · intro u s' x
    exact wpAny_mono (L2N.XE.leave (E := E) (E₁ := fun _ _ => False) (X := cxOf (CXm P w hot cls) P w K mg base N qual scope f cdv A outer s H E) rfl rfl rfl (fun _ _ _ _ h => h) x) (fun _ s'' q => .inl q) (fun _ _ z => z.elim)
  · intro u s' x
    exact wpAny_mono (L2.XE.leave (E := fun c d H => HotV hot cls c ∧ E c d H) (E₁ := fun _ _ => False) (X := cxOf (CXm P w hot cls) P w K mg base N qual scope f cdv A outer s H E) rfl rfl rfl (fun _ _ _ _ h => h) x) (fun _ s'' q => .inr q) (fun _ _ z => z.elim)
end
end DW
end

section
set_option Elab.async false
set_option linter.all false
set_option maxRecDepth 100000
set_option maxHeartbeats 4000000
namespace DW
open PySem PySem.Spec PyProof.Rows L2 C8

def biNames : List Str := ["len", "abs", "sum", "all", "any", "int", "str", "tuple", "list", "min", "max", "range", "enumerate", "zip", "isinstance", "bool", "dict"]
structure XOk (c : Cfg) (X : Cx) (Γ : Ctx) : Prop where
  N : X.N = c.N
  nd : c.N.Nodup
  sc : X.env.scope = c.sc
  kind : c.sc.kind = .function
  hu : X.A.units + 65 < cLine
  dp : X.A.depth + 5 < recursionLimit
  bi : ∀ x ∈ biNames, X.mg x = none
  cons : ∀ x d, c.cons.lookup x = some d → ∃ (u : Value) (v : V), X.mg x = some u ∧ RelV v u ∧ ∀ w H, RV X.K w H v d
  hi : ∀ a b, Γ.cls a = Γ.cls b → Γ.G.hot a = Γ.G.hot b
  fns : c.calm = true → ∀ x fi ps, c.fns.lookup x = some (fi, ps) → ∃ (k : Nat) (f : Addr) (fd : FuncData), Room k X.A ∧ X.mg x = some (.ref f) ∧ PySem.W.keepIn X.K (.ref f) = true ∧ Binds X.K fd ps [] ∧
    (∀ ws : List Value, ws.length = ps.length → bindArgs fd ⟨[], ps.zip ws⟩ = pure (ps.zip ws)) ∧ FnOk X.prog X.w X.K X.mg X.base (CXm X.prog X.w Γ.G.hot Γ.cls) k f fd ps (spOf X.K Γ.G.fld Γ.cls (Γ.G.call fi))
  calm : c.calm = true → X.calm = true ∧ L2N.Takes X Γ.W ∧ L2.Takes X Γ.V ∧ Γ.cur = none ∧ Γ.ex = none
  held : HeldOk X Γ
theorem star_of_plain {e : Expr} (h : plainE e = true) : starOk e = true := by cases e <;> first | rfl | cases h
section
variable {c : Cfg} {X : Cx} {Γ : Ctx}
theorem ix_of {N : List Str} {x : Str} {i : Nat} (h : N.findIdx? (fun y => decide (y = x)) = some i) : N[i]? = some x := by
  obtain ⟨hi, h1, _⟩ := List.findIdx?_eq_some_iff_getElem.mp h
  rw [List.getElem?_eq_getElem hi, of_decide_eq_true h1]
theorem vis_of {sc : Scope} {x : Str} (h : visB sc x = true) : Vis sc x ∧ (x == ("__debug__" : Str)) = false ∧ (x == ("__classdict__" : Str)) = false := by
  unfold visB at h
  simp only [Bool.and_eq_true, Bool.not_eq_true'] at h
  obtain ⟨⟨h1, h2⟩, h3⟩ := h
  refine ⟨?_, h2, h3⟩
  split at h1 <;> first | exact .inl (by assumption) | exact .inr (.inl (by assumption)) | exact .inr (.inr (by assumption)) | cases h1
theorem glob_of {x : Str} (o : XOk c X Γ) (h : globB c.sc x = true) : Gl X x ∧ (x == ("__debug__" : Str)) = false := by
  unfold globB at h
  simp only [Bool.and_eq_true, Bool.not_eq_true'] at h
  refine ⟨?_, h.2⟩
  show X.env.scope.names.lookup x = _
  rw [o.sc]
  have h1 := h.1
  split at h1
  · assumption
  · cases h1
theorem slot_of {x : Str} {i : Nat} (o : XOk c X Γ) (h : slotOf c x = some i) : X.N[i]? = some x ∧ Vis X.env.scope x ∧ (x == ("__debug__" : Str)) = false ∧ (x == ("__classdict__" : Str)) = false := by
  unfold slotOf at h
  obtain ⟨u, h1, h2⟩ := Option.bind_eq_some_iff.mp h
  obtain ⟨v1, v2, v3⟩ := vis_of (ck_some h1)
  rw [o.N, o.sc]
  exact ⟨ix_of h2, v1, v2, v3⟩
theorem opOf_opB {o : Operator} {b : BOp} (h : opB o = some b) : opOf b = o := by cases o <;> cases h <;> rfl
theorem copOf_opC (o : CmpOp) : copOf (opC o) = o := by cases o <;> rfl
theorem plain_ix {b : Expr} (h : plainE b = true) : PlainIx b := by
  intro o i
  cases b <;> first | rfl | cases h
theorem plain_marks {b : Expr} (op : CmpOp) (h : plainE b = true) : behindInMarks op b = false := by cases b <;> first | rfl | cases h
theorem plain_last {a b : Expr} (p q : CmpOp) (h : plainE b = true) : lastMarks [p, q] [a, b] = false := by
  show lastMarks [q] [b] = false
  exact plain_marks q h
theorem plain_fold {e : Expr} (h : plainE e = true) (env : PySem.Env) (x : Value) : foldedSetIterable e env x = pure x := by cases e <;> first | rfl | cases h
theorem recv_base {o : Expr} (h : recvB o = true) (name : Str) (env : PySem.Env) : attributeBase o name env (eval o env) = eval o env := by
  cases o with
  | Call f args kws pos =>
    cases args with
    | nil =>
      cases kws with
      | nil => cases h
      | cons k ks => cases f <;> rfl
    | cons a as => cases f <;> rfl
  | _ => rfl

def Snd (X : Cx) (Γ : Ctx) (e : Expr) (ce : CE) : Prop := PE X e (tE X.K Γ ce) ∧ plainE e = true ∧ (notIf e = true → PT X e (tT X.K Γ ce))
theorem map_snd {f : Expr → Option CE} {es : List Expr} (hf : ∀ e ce, f e = some ce → Snd X Γ e ce) : ∀ {cs : CEs}, mapE f es = some cs → PA X es (tA X.K Γ cs) ∧ es.all starOk = true := by
  induction es with
  | nil => intro cs h; cases h; exact ⟨simA_nil, rfl⟩
  | cons e es ih =>
    intro cs h
    obtain ⟨a, ha, h⟩ := Option.bind_eq_some_iff.mp h
    obtain ⟨b, hb, h⟩ := Option.bind_eq_some_iff.mp h
    cases h
    obtain ⟨h1, h2, _⟩ := hf e a ha
    obtain ⟨h3, h4⟩ := ih hb
    exact ⟨simA_cons h1 h3 (star_of_plain h2), by rw [List.all_cons, star_of_plain h2, h4]; rfl⟩
theorem mapE_len {f : Expr → Option CE} : ∀ {es : List Expr} {cs : CEs}, mapE f es = some cs → (es = [] ↔ cs = .nil)
  | [], _, h => by cases h; simp
  | e :: es, _, h => by
    obtain ⟨a, ha, h⟩ := Option.bind_eq_some_iff.mp h
    obtain ⟨b, hb, h⟩ := Option.bind_eq_some_iff.mp h
    cases h; simp
theorem fold_and {f : Expr → Option CE} {pos : Pos} (hf : ∀ e ce, f e = some ce → Snd X Γ e ce) : ∀ {vs : List Expr} {ce : CE}, foldE .and f vs = some ce → vs ≠ [] ∧ PE X (.BoolOp .And vs pos) (tE X.K Γ ce) ∧ L2.PW X (.BoolOp .And vs pos) (tT X.K Γ ce)
  | [], ce, h => by cases h
  | [e], ce, h => by
    obtain ⟨u, hu, h⟩ := Option.bind_eq_some_iff.mp h
    obtain ⟨h1, h2, h3⟩ := hf e ce h
    exact ⟨by simp, pe_one h1, pw_and1 (h3 (ck_some hu))⟩
  | e :: e2 :: r, ce, h => by
    obtain ⟨u, hu, h⟩ := Option.bind_eq_some_iff.mp h
    obtain ⟨a, ha, h⟩ := Option.bind_eq_some_iff.mp h
    obtain ⟨b, hb, h⟩ := Option.bind_eq_some_iff.mp h
    cases h
    obtain ⟨h1, h2, h3⟩ := hf e a ha
    obtain ⟨_, i1, i2⟩ := fold_and hf hb
    exact ⟨by simp, sim_and h1 i1, simW_and (h3 (ck_some hu)) i2⟩
theorem fold_or {f : Expr → Option CE} {pos : Pos} (hf : ∀ e ce, f e = some ce → Snd X Γ e ce) : ∀ {vs : List Expr} {ce : CE}, foldE .or f vs = some ce → vs ≠ [] ∧ PE X (.BoolOp .Or vs pos) (tE X.K Γ ce) ∧ L2.PW X (.BoolOp .Or vs pos) (tT X.K Γ ce)
  | [], ce, h => by cases h
  | [e], ce, h => by
    obtain ⟨u, hu, h⟩ := Option.bind_eq_some_iff.mp h
    obtain ⟨h1, h2, h3⟩ := hf e ce h
    exact ⟨by simp, pe_one h1, pw_or1 (h3 (ck_some hu))⟩
  | e :: e2 :: r, ce, h => by
    obtain ⟨u, hu, h⟩ := Option.bind_eq_some_iff.mp h
    obtain ⟨a, ha, h⟩ := Option.bind_eq_some_iff.mp h
    obtain ⟨b, hb, h⟩ := Option.bind_eq_some_iff.mp h
    cases h
    obtain ⟨h1, h2, h3⟩ := hf e a ha
    obtain ⟨_, i1, i2⟩ := fold_or hf hb
    exact ⟨by simp, sim_or h1 i1, simW_or (h3 (ck_some hu)) i2⟩
theorem plainT {e : Expr} {ce : CE} (h : PE X e (tE X.K Γ ce)) (he : ∀ whole, isTrue e X.env whole = (do let v ← whole; standAt e.pos; holding [v] (truthy v))) : notIf e = true → PT X e (tT X.K Γ ce) := fun _ => simT_val h he

def AlOk (X : Cx) (l : List (Str × Nat)) : Prop := ∀ x i, l.lookup x = some i → X.N[i]? = some x ∧ Loc X.env.scope x ∧ (X.fn x = true ∨ X.env.scope.names.lookup x = some .local)
theorem map_lk {l : List (Str × Nat)} {x : Str} {t : Tg} (h : (l.lookup x).map Tg.nm = some t) : ∃ i, l.lookup x = some i ∧ t = .nm i := by
  obtain ⟨i, h1, h2⟩ := Option.map_eq_some_iff.mp h
  exact ⟨i, h1, h2.symm⟩
mutual
theorem tg_snd {l : List (Str × Nat)} (hN : X.N.Nodup) (hc : X.calm = true) (al : AlOk X l) : ∀ (n : Nat) {e : Expr} {t : Tg}, cT l n e = some t → L2.PG X e (gT X.K t) ∧ (∀ i ∈ t.slots, ∃ x, l.lookup x = some i) ∧ starOk e = true
  | 0, _, _, h => by cases h
  | n + 1, e, t, h => by
    cases e with
    | Name x p =>
      obtain ⟨i, h1, rfl⟩ := map_lk (by unfold cT at h; exact h)
      obtain ⟨a1, a2, a3⟩ := al x i h1
      exact ⟨by unfold gT; exact pg_name hN a1 a2 a3, fun j hj => ⟨x, by unfold Tg.slots at hj; rw [List.mem_singleton.mp hj]; exact h1⟩, rfl⟩
    | Tuple es k p =>
      have h' : (cTs l n es).map Tg.tp = some t := by unfold cT at h; exact h
      obtain ⟨ts, h1, rfl⟩ := Option.map_eq_some_iff.mp h'
      obtain ⟨g1, g2, g3, g4⟩ := tgs_snd hN hc al n h1
      refine ⟨by unfold gT; exact pg_tup hc g1 g3 g4, fun i hi => g2 i (by unfold Tg.slots at hi; exact hi), rfl⟩
    | _ => unfold cT at h; cases h
theorem tgs_snd {l : List (Str × Nat)} (hN : X.N.Nodup) (hc : X.calm = true) (al : AlOk X l) : ∀ (n : Nat) {es : List Expr} {ts : List Tg}, cTs l n es = some ts → PGs X es (gTs X.K ts) ∧ (∀ i ∈ Tg.slotss ts, ∃ x, l.lookup x = some i) ∧ (assignEach es X.env).length = ts.length ∧ (assignEach es X.env).findIdx? (·.1) = none
  | 0, _, _, h => by cases h
  | n + 1, [], ts, h => by
    cases h
    exact ⟨by unfold gTs; exact pgs_nil, fun i hi => by simp [Tg.slotss] at hi, rfl, rfl⟩
  | n + 1, e :: es, ts, h => by
    have h' : ((cT l n e).bind fun a => (cTs l n es).bind fun b => some (a :: b)) = some ts := by unfold cTs at h; exact h
    obtain ⟨a, ha, h'⟩ := Option.bind_eq_some_iff.mp h'
    obtain ⟨b, hb, h'⟩ := Option.bind_eq_some_iff.mp h'
    cases h'
    obtain ⟨g1, g2, g3⟩ := tg_snd hN hc al n ha
    obtain ⟨i1, i2, i3, i4⟩ := tgs_snd hN hc al n hb
    have hae : assignEach (e :: es) X.env = (false, assign e X.env) :: assignEach es X.env := by cases e <;> first | rfl | cases g3
    refine ⟨by unfold gTs; exact pgs_cons g1 i1 (by rw [hae]; rfl), fun i hi => ?_, by rw [hae, List.length_cons, List.length_cons, i3], by rw [hae]; simp [List.findIdx?_cons, i4]⟩
    unfold Tg.slotss at hi
    rcases List.mem_append.mp hi with z | z
    · exact g2 i z
    · exact i2 i z
end
theorem own_mem {N : List Str} {sc : Scope} {x : Str} {i : Nat} (h : (ownOf N sc).lookup x = some i) : ∃ k, (x, k) ∈ sc.names ∧ (k = .local ∨ k = .cell) ∧ N[i]? = some x := by
  have hm := PySem.mem_of_lookup h
  unfold ownOf at hm
  obtain ⟨y, hy, e⟩ := List.mem_filterMap.mp hm
  obtain ⟨y1, y2⟩ := y
  cases y2 with
  | «local» =>
    simp only at e
    obtain ⟨j, hj, e⟩ := Option.map_eq_some_iff.mp e
    cases e
    exact ⟨_, hy, .inl rfl, ix_of hj⟩
  | cell =>
    simp only at e
    obtain ⟨j, hj, e⟩ := Option.map_eq_some_iff.mp e
    cases e
    exact ⟨_, hy, .inr rfl, ix_of hj⟩
  | _ => cases e
theorem scope_blk {scope : Scope} {cl : List (Str × Addr)} {C : Addr} {env : PySem.Env} : (compEnvC scope cl C env).scope = L2.relS scope env.scope := rfl
theorem al_blk {scope : Scope} (o : XOk c X Γ) (hb : BlkOk c.N c.sc scope (ownOf c.N scope)) {s : Shared} {H : Hp} {C : Addr} {cl : List (Str × Addr)} {fp : List Addr} : AlOk (X.blk s H scope (compEnvC scope cl C X.env) fp) (ownOf c.N scope) := by
  intro x i h
  obtain ⟨k, hk, hl, hi⟩ := own_mem h
  have lk : scope.names.lookup x = some k := hb.uniq _ hk
  refine ⟨by show X.N[i]? = some x; rw [o.N]; exact hi, ?_, ?_⟩
  · show Loc (L2.relS scope X.env.scope) x
    rcases hl with rfl | rfl
    · exact .inl (lookup_relS_keep nofun lk)
    · exact .inr (lookup_relS_keep nofun lk)
  · rcases hl with rfl | rfl
    · exact .inr (lookup_relS_keep (sc := X.env.scope) nofun lk)
    · left
      show (scope.names.lookup x == some .cell) = true
      rw [lk]; rfl
theorem ok_blk {scope : Scope} (o : XOk c X Γ) (hc : c.calm = true) (hb : BlkOk c.N c.sc scope (ownOf c.N scope)) {s : Shared} {H : Hp} {C : Addr} {cl : List (Str × Addr)} {fp : List Addr} : XOk { c with sc := L2.relS scope c.sc } (X.blk s H scope (compEnvC scope cl C X.env) fp) Γ.blk where
  N := o.N
  nd := o.nd
  sc := by show L2.relS scope X.env.scope = _; rw [o.sc]
  kind := hb.kind
  hu := o.hu
  dp := o.dp
  bi := o.bi
  cons := o.cons
  hi := o.hi
  fns := o.fns
  calm := fun h => by
    obtain ⟨h1, _, _, h4, h5⟩ := o.calm h
    exact ⟨h1, fun u s' x => by obtain ⟨_, _, _, _, _, _, _, _, _, _, _, _, _, _, _, _, w⟩ := x; exact w.elim, fun u s' x => by obtain ⟨_, _, _, _, _, _, _, _, _, _, _, _, _, _, _, _, w⟩ := x; exact w.elim, h4, h5⟩
  held := ⟨fun i a h => by
    have h' : Γ.ex = some (i, a) := h
    rw [(o.calm hc).2.2.2.2] at h'; cases h'⟩
theorem walk_back (e : Expr) : (walkOf e).back = e := by
  unfold walkOf
  split
  · split
    · rename_i h; rw [h]; rfl
    · split
      · rename_i h; rw [h]; rfl
      · rfl
  · split
    · rename_i h; rw [h]; rfl
    · split
      · rename_i h; rw [h]; rfl
      · rfl
  · rfl
theorem walk_snd (o : XOk c X Γ) {f : Expr → Option CE} (hf : ∀ e ce, f e = some ce → Snd X Γ e ce) {tg : Expr} : ∀ {W : WalkE} {k : IK} {cs : CEs}, cWalk c f tg W = some (k, cs) → PI X tg W.back (tI X.K Γ k cs)
  | .seq e, k, cs, h => by
    obtain ⟨a, ha, h⟩ := Option.bind_eq_some_iff.mp h
    cases h
    exact simI_seq (hf e a ha).1
  | .rng1 p pos e, k, cs, h => by
    obtain ⟨u, hu, h⟩ := Option.bind_eq_some_iff.mp h
    obtain ⟨a, ha, h⟩ := Option.bind_eq_some_iff.mp h
    cases h
    obtain ⟨h1, h2, _⟩ := hf e a ha
    exact simI_rng1 (glob_of o (ck_some hu)).1 (o.bi _ (by decide)) h1 (star_of_plain h2)
  | .rng2 p pos e e2, k, cs, h => by
    obtain ⟨u, hu, h⟩ := Option.bind_eq_some_iff.mp h
    obtain ⟨a, ha, h⟩ := Option.bind_eq_some_iff.mp h
    obtain ⟨b, hb, h⟩ := Option.bind_eq_some_iff.mp h
    cases h
    obtain ⟨h1, h2, _⟩ := hf e a ha
    obtain ⟨i1, i2, _⟩ := hf e2 b hb
    exact simI_rng2 (glob_of o (ck_some hu)).1 (o.bi _ (by decide)) h1 i1 (star_of_plain h2) (star_of_plain i2)
  | .enum p pos e, k, cs, h => by
    obtain ⟨u, hu, h⟩ := Option.bind_eq_some_iff.mp h
    obtain ⟨a, ha, h⟩ := Option.bind_eq_some_iff.mp h
    cases h
    obtain ⟨h1, h2, _⟩ := hf e a ha
    have hu := ck_some hu
    rw [Bool.and_eq_true] at hu
    cases tg with
    | Tuple es kk tp => exact simI_enum (glob_of o hu.1).1 (o.bi _ (by decide)) h1 (star_of_plain h2)
    | _ => cases hu.2
  | .zip _ _ _ _, k, cs, h => by cases h
theorem lookup_mem {α : Type} [DecidableEq α] {l : List (Str × α)} {x : Str} {v : α} (h : l.lookup x = some v) : (x, v) ∈ l := PySem.mem_of_lookup h
theorem bi_facts {x : Str} {n : Nat} {b : BI} (h : biOf x n = some b) : bootBuiltins x = some (biId b) ∧ x ∈ biNames ∧ x ≠ "__name__" ∧ n ≠ 0 := by
  unfold biOf at h
  split at h
  · rename_i hn
    have hm := PySem.mem_of_lookup h
    simp only [biTab1, List.mem_cons, Prod.mk.injEq, List.not_mem_nil, or_false] at hm
    rcases hm with ⟨rfl, rfl⟩ | ⟨rfl, rfl⟩ | ⟨rfl, rfl⟩ | ⟨rfl, rfl⟩ | ⟨rfl, rfl⟩ | ⟨rfl, rfl⟩ | ⟨rfl, rfl⟩ | ⟨rfl, rfl⟩ | ⟨rfl, rfl⟩ <;> exact ⟨rfl, by decide, by decide, by omega⟩
  · split at h
    · rename_i hn
      have hm := PySem.mem_of_lookup h
      simp only [biTab2, List.mem_cons, Prod.mk.injEq, List.not_mem_nil, or_false] at hm
      rcases hm with ⟨rfl, rfl⟩ | ⟨rfl, rfl⟩ <;> exact ⟨rfl, by decide, by decide, by omega⟩
    · cases h
theorem mt_facts {x : Str} {n : Nat} {m : Mt} (h : mtOf x n = some m) : (∃ T id, MtAt m x T id) ∧ n ≠ 0 ∧ n < 20 := by
  unfold mtOf at h
  split at h
  · rename_i hn
    have hm := PySem.mem_of_lookup h
    simp only [mtTab1, List.mem_cons, Prod.mk.injEq, List.not_mem_nil, or_false] at hm
    rcases hm with ⟨rfl, rfl⟩ | ⟨rfl, rfl⟩ | ⟨rfl, rfl⟩ | ⟨rfl, rfl⟩
    · exact ⟨⟨_, _, .split⟩, by omega, by omega⟩
    · exact ⟨⟨_, _, .join⟩, by omega, by omega⟩
    · exact ⟨⟨_, _, .index⟩, by omega, by omega⟩
    · exact ⟨⟨_, _, .count⟩, by omega, by omega⟩
  · split at h
    · rename_i hn
      have hm := PySem.mem_of_lookup h
      simp only [mtTab2, List.mem_cons, Prod.mk.injEq, List.not_mem_nil, or_false] at hm
      obtain ⟨rfl, rfl⟩ := hm
      exact ⟨⟨_, _, .index2⟩, by omega, by omega⟩
    · cases h
theorem ty_facts {t : Str} {T : String} (h : tyNames.lookup t = some T) : T ∈ tyL ∧ bootBuiltins t = some (.type T) ∧ t ∈ biNames := by
  have hm := PySem.mem_of_lookup h
  simp only [tyNames, List.mem_cons, Prod.mk.injEq, List.not_mem_nil, or_false] at hm
  rcases hm with ⟨rfl, rfl⟩ | ⟨rfl, rfl⟩ | ⟨rfl, rfl⟩ | ⟨rfl, rfl⟩ | ⟨rfl, rfl⟩ | ⟨rfl, rfl⟩ <;> exact ⟨by decide, rfl, by decide⟩
theorem kwOf_back : ∀ {kws : List Keyword} {l : List (Str × Expr × Pos)}, kwOf kws = some l → kws = kwsOf l
  | [], _, h => by cases h; rfl
  | ⟨some k, e, p⟩ :: r, l, h => by
    obtain ⟨m, hm, h⟩ := Option.bind_eq_some_iff.mp h
    cases h
    rw [kwOf_back hm]; rfl
  | ⟨none, _, _⟩ :: _, _, h => by cases h
theorem pks_snd {f : Expr → Option CE} (hf : ∀ e ce, f e = some ce → Snd X Γ e ce) : ∀ {l : List (Str × Expr × Pos)} {cs : CEs}, mapE f (l.map fun (z : Str × Expr × Pos) => z.2.1) = some cs → PKs X Γ l cs
  | [], _, h => by cases h; exact .nil
  | (y, e, q) :: l, cs, h => by
    obtain ⟨a, ha, h⟩ := Option.bind_eq_some_iff.mp h
    obtain ⟨b, hb, h⟩ := Option.bind_eq_some_iff.mp h
    cases h
    exact .cons (hf e a ha).1 (pks_snd hf hb)
theorem callN_snd (o : XOk c X Γ) {f : Expr → Option CE} (hf : ∀ e ce, f e = some ce → Snd X Γ e ce) {x : Str} {args : List Expr} {kws : List Keyword} {p pos : Pos} {ce : CE} (h : cCallN c f x args kws = some ce) : PE X (.Call (.Name x p) args kws pos) (tE X.K Γ ce) := by
  unfold cCallN at h
  obtain ⟨u, hu, h2⟩ := Option.bind_eq_some_iff.mp h
  clear h
  have h := h2
  clear h2
  have hu := ck_some hu
  rw [Bool.and_eq_true] at hu
  obtain ⟨hg, hdb⟩ := glob_of o hu.1
  obtain ⟨hc, tk1, tk2, hcur, hex⟩ := o.calm hu.2
  cases hl : c.fns.lookup x with
  | some q =>
    obtain ⟨fi, ps⟩ := q
    rw [hl] at h
    simp only at h
    obtain ⟨k, fa, fd, hr, hm, hk, hb, hkb, hF⟩ := o.fns hu.2 x fi ps hl
    cases kws with
    | nil =>
      simp only at h
      obtain ⟨v, hv, h⟩ := Option.bind_eq_some_iff.mp h
      obtain ⟨cs, hcs, rfl⟩ := Option.map_eq_some_iff.mp h
      obtain ⟨pa, sa⟩ := map_snd hf hcs
      cases args with
      | nil => cases ck_some hv
      | cons e es => exact sim_call hF hr hg hm hk hb tk1 tk2 o.hi pa hdb sa
    | cons kw kws =>
      simp only at h
      obtain ⟨l, hl', h⟩ := Option.bind_eq_some_iff.mp h
      obtain ⟨v, hv, h⟩ := Option.bind_eq_some_iff.mp h
      obtain ⟨cs, hcs, rfl⟩ := Option.map_eq_some_iff.mp h
      have hv := ck_some hv
      rw [Bool.and_eq_true, decide_eq_true_eq] at hv
      cases args with
      | cons e es => cases hv.1
      | nil =>
        rw [kwOf_back hl']
        exact sim_callK0 hF hr hg hm hk (by rw [show l.map (·.1) = ps from hv.2]; exact hkb) tk1 tk2 o.hi (pks_snd hf hcs) hdb
  | none =>
    rw [hl] at h
    simp only at h
    cases kws with
    | cons kw kws => cases h
    | nil =>
      simp only at h
      by_cases hx : x = ("isinstance" : Str)
      · rw [if_pos hx] at h
        subst hx
        cases args with
        | nil => cases h
        | cons a r => cases r with
          | nil => cases h
          | cons b r2 => cases r2 with
            | cons _ _ => cases b <;> cases h
            | nil => cases b with
              | Name t p2 =>
                have h' : ((ck (globB c.sc t && !(t == ("__name__" : Str)))).bind fun _ => (tyNames.lookup t).bind fun t => (f a).map fun a => CE.isi a t) = some ce := h
                obtain ⟨v, hv, h'⟩ := Option.bind_eq_some_iff.mp h'
                obtain ⟨T, hT, h'⟩ := Option.bind_eq_some_iff.mp h'
                obtain ⟨ca, ha, rfl⟩ := Option.map_eq_some_iff.mp h'
                obtain ⟨h1, h2, _⟩ := hf a ca ha
                have hv := ck_some hv
                simp only [Bool.and_eq_true, Bool.not_eq_true'] at hv
                obtain ⟨hgt, hdt⟩ := glob_of o hv.1
                obtain ⟨t1, t2, t3⟩ := ty_facts hT
                exact sim_isi t1 hg (o.bi _ (by decide)) hgt (o.bi _ t3) t2 (by simpa using hv.2) hdt h1 (star_of_plain h2)
              | _ => cases h
      · rw [if_neg hx] at h
        obtain ⟨b, hb, h⟩ := Option.bind_eq_some_iff.mp h
        obtain ⟨cs, hcs, rfl⟩ := Option.map_eq_some_iff.mp h
        obtain ⟨b1, b2, b3, b4⟩ := bi_facts hb
        obtain ⟨pa, sa⟩ := map_snd hf hcs
        cases args with
        | nil => exact absurd rfl b4
        | cons e es => exact sim_bi hc hg (o.bi _ b2) b1 b3 hdb pa sa
theorem callM_snd {f : Expr → Option CE} (hf : ∀ e ce, f e = some ce → Snd X Γ e ce) {ob : Expr} {x : Str} {args : List Expr} {ap cp : Pos} {ce : CE} (h : cCallM f ob x ap cp args = some ce) : PE X (.Call (.Attribute ob x ap) args [] cp) (tE X.K Γ ce) := by
  unfold cCallM at h
  obtain ⟨u, hu, h2⟩ := Option.bind_eq_some_iff.mp h
  clear h
  have h := h2
  clear h2
  have hu := ck_some hu
  rw [Bool.and_eq_true] at hu
  by_cases hx : x = ("append" : Str)
  · rw [if_pos hx] at h
    subst hx
    cases args with
    | nil => cases h
    | cons e r => cases r with
      | cons _ _ => cases h
      | nil =>
        have h' : ((f ob).bind fun o => (f e).bind fun e => some (CE.app o e)) = some ce := h
        obtain ⟨a, ha, h'⟩ := Option.bind_eq_some_iff.mp h'
        obtain ⟨b, hb, h'⟩ := Option.bind_eq_some_iff.mp h'
        cases h'
        obtain ⟨h1, _, _⟩ := hf ob a ha
        obtain ⟨i1, i2, _⟩ := hf e b hb
        exact sim_app h1 i1 (star_of_plain i2) (recv_base hu.1 _ _) hu.2
  · rw [if_neg hx] at h
    obtain ⟨m, hm, h⟩ := Option.bind_eq_some_iff.mp h
    obtain ⟨a, ha, h⟩ := Option.bind_eq_some_iff.mp h
    obtain ⟨cs, hcs, rfl⟩ := Option.map_eq_some_iff.mp h
    obtain ⟨⟨T, id, mt⟩, n0, n20⟩ := mt_facts hm
    obtain ⟨h1, _, _⟩ := hf ob a ha
    obtain ⟨pa, sa⟩ := map_snd hf hcs
    cases args with
    | nil => exact absurd rfl n0
    | cons e es => exact sim_mt mt h1 pa sa (by simp at n20; omega) (recv_base hu.1 _ _) hu.2
theorem csts_eq : ∀ ds : List D, csts ds = cstsOf ds
  | [] => rfl
  | d :: ds => by show CEs.cons _ (csts ds) = CEs.cons _ (cstsOf ds); rw [csts_eq ds]
theorem newIf_snd {e : Expr} {ce : CE} (b : Bool) (h : PE X e (tE X.K Γ ce)) : PE X e (tE X.K Γ (newIf b ce)) := by
  cases b with
  | false => exact h
  | true => exact sim_new h
theorem key_snd {k : Option Expr} {d : D} (h : keyC k = some d) : ∃ (e : Expr) (q : Key), k = some e ∧ d = keyD q ∧ PE X e (tC (kV q)) := by
  unfold keyC at h
  split at h
  · cases h
    exact ⟨_, .inl _, rfl, rfl, pe_int⟩
  · cases h
    exact ⟨_, .inr _, rfl, rfl, pe_str⟩
  · cases h
theorem dp_snd {f : Expr → Option CE} (hf : ∀ e ce, f e = some ce → PE X e (tE X.K Γ ce)) : ∀ {ks : List (Option Expr)} {vs : List Expr} {ds : List D} {cs : CEs}, mapO ks = some ds → mapE f vs = some cs → ks.length = vs.length → ∃ qs trs, DP X Γ ks vs qs cs trs ∧ ds = qs.map keyD
  | [], [], ds, cs, h1, h2, _ => by cases h1; cases h2; exact ⟨[], [], .nil, rfl⟩
  | [], v :: vs, _, _, _, _, h => by simp at h
  | k :: ks, [], _, _, _, _, h => by simp at h
  | k :: ks, v :: vs, ds, cs, h1, h2, h => by
    obtain ⟨a, ha, h1⟩ := Option.bind_eq_some_iff.mp h1
    obtain ⟨b, hb, h1⟩ := Option.bind_eq_some_iff.mp h1
    cases h1
    obtain ⟨p, hp, h2⟩ := Option.bind_eq_some_iff.mp h2
    obtain ⟨r, hr, h2⟩ := Option.bind_eq_some_iff.mp h2
    cases h2
    obtain ⟨e, q, rfl, rfl, hk⟩ := key_snd (X := X) ha
    obtain ⟨qs, trs, hd, rfl⟩ := dp_snd hf hb hr (by simpa using h)
    exact ⟨q :: qs, _, .cons hk (hf v p hp) hd, rfl⟩
theorem part_snd {f : Expr → Option CE} (hf : ∀ e ce, f e = some ce → Snd X Γ e ce) {lo : Option Expr} {cl : CE} (h : (match lo with | some e => (f e).bind fun l => (ck (!noPart l)).bind fun _ => some l | none => some (.cst .non)) = some cl) : PO X lo (tO X.K Γ cl) := by
  cases lo with
  | none => cases h; exact simO_non
  | some e =>
    have h' : ((f e).bind fun l => (ck (!noPart l)).bind fun _ => some l) = some cl := h
    obtain ⟨a, ha, h'⟩ := Option.bind_eq_some_iff.mp h'
    obtain ⟨u, hu, h'⟩ := Option.bind_eq_some_iff.mp h'
    cases h'
    exact simO_some (hf e _ ha).1 (by simpa using ck_some hu)
theorem const_snd {k : Const} {d : D} {j : Nat} {pos : Pos} (h : constD k = some d) : PE X (.Constant k j pos) (tE X.K Γ (.cst d)) := by
  cases k with
  | none => cases h; exact sim_cst pe_non fun _ _ => .non
  | bool b => cases h; exact sim_cst pe_bl fun _ _ => .bl b
  | int i => cases h; exact sim_cst pe_int fun _ _ => .int i
  | str x => cases h; exact sim_cst pe_str fun _ _ => .str x
  | _ => cases h
theorem ifs_snd {X' : Cx} {Γ' : Ctx} {f : Expr → Option CE} (hf : ∀ e ce, f e = some ce → Snd X' Γ' e ce) {ifs : List Expr} {cb : CE} (h : (match ifs with | [] => some (CE.cst (.bl true)) | [b] => (ck (notIf b)).bind fun _ => f b | _ => none) = some cb) : PTs X' ifs (tT X'.K Γ' cb) := by
  cases ifs with
  | nil =>
    cases h
    exact ⟨fun pins s σ H Q I ⟨w, ρ, S, R, E, q⟩ => pts_nil.run pins s σ H Q I (q w H Le.refl R)⟩
  | cons b r =>
    cases r with
    | nil =>
      have h' : ((ck (notIf b)).bind fun _ => f b) = some cb := h
      obtain ⟨u, hu, h'⟩ := Option.bind_eq_some_iff.mp h'
      exact pts_one ((hf b cb h').2.2 (ck_some hu))
    | cons _ _ => cases h
end
mutual
theorem tg_slots {l : List (Str × Nat)} : ∀ (n : Nat) {e : Expr} {t : Tg}, cT l n e = some t → ∀ i ∈ t.slots, ∃ x, l.lookup x = some i
  | 0, _, _, h => by cases h
  | n + 1, e, t, h => by
    cases e with
    | Name x p =>
      obtain ⟨i, h1, rfl⟩ := map_lk (by unfold cT at h; exact h)
      exact fun j hj => ⟨x, by unfold Tg.slots at hj; rw [List.mem_singleton.mp hj]; exact h1⟩
    | Tuple es k p =>
      have h' : (cTs l n es).map Tg.tp = some t := by unfold cT at h; exact h
      obtain ⟨ts, h1, rfl⟩ := Option.map_eq_some_iff.mp h'
      exact fun i hi => tgs_slots n h1 i (by unfold Tg.slots at hi; exact hi)
    | _ => unfold cT at h; cases h
theorem tgs_slots {l : List (Str × Nat)} : ∀ (n : Nat) {es : List Expr} {ts : List Tg}, cTs l n es = some ts → ∀ i ∈ Tg.slotss ts, ∃ x, l.lookup x = some i
  | 0, _, _, h => by cases h
  | n + 1, [], ts, h => by
    cases h
    exact fun i hi => by simp [Tg.slotss] at hi
  | n + 1, e :: es, ts, h => by
    have h' : ((cT l n e).bind fun a => (cTs l n es).bind fun b => some (a :: b)) = some ts := by unfold cTs at h; exact h
    obtain ⟨a, ha, h'⟩ := Option.bind_eq_some_iff.mp h'
    obtain ⟨b, hb, h'⟩ := Option.bind_eq_some_iff.mp h'
    cases h'
    intro i hi
    unfold Tg.slotss at hi
    rcases List.mem_append.mp hi with z | z
    · exact tg_slots n ha i z
    · exact tgs_slots n hb i z
end
theorem lc_snd {c : Cfg} {X : Cx} {Γ : Ctx} (o : XOk c X Γ) {n : Nat} (ih : ∀ (c : Cfg) (X : Cx) (Γ : Ctx) (e : Expr) (ce : CE), XOk c X Γ → cE n c e = some ce → Snd X Γ e ce) {el t it : Expr} {ifs : List Expr} {scope : Scope} {pos : Pos} {ce : CE} (h : cE (n + 1) c (.ListComp el [⟨t, it, ifs, 0⟩] scope pos) = some ce) :
    ∃ (tg : Tg) (k : IK) (its : CEs) (cc ec : CE), ce = .comp ((ownOf c.N scope).map fun (z : Str × Nat) => z.2) tg k its cc ec ∧ X.calm = true ∧ X.N.Nodup ∧ PI X t it (tI X.K Γ k its) ∧ BlkOk X.N X.env.scope scope (ownOf c.N scope) ∧
      (∀ (s : Shared) (H : Hp) (C : Addr) (cl : List (Str × Addr)) (fp : List Addr), L2.PG (X.blk s H scope (compEnvC scope cl C X.env) fp) t (gT X.K tg)) ∧ (∀ (s : Shared) (H : Hp) (C : Addr) (cl : List (Str × Addr)) (fp : List Addr), PTs (X.blk s H scope (compEnvC scope cl C X.env) fp) ifs (tT X.K Γ.blk cc)) ∧
      (∀ (s : Shared) (H : Hp) (C : Addr) (cl : List (Str × Addr)) (fp : List Addr), PE (X.blk s H scope (compEnvC scope cl C X.env) fp) el (tE X.K Γ.blk ec)) ∧ (∀ x, foldedSetIterable it X.env x = pure x) ∧ (∀ i ∈ tg.slots, i ∈ (ownOf c.N scope).map (·.2)) := by
  unfold cE at h
  obtain ⟨u, hu, h⟩ := Option.bind_eq_some_iff.mp h
  obtain ⟨w, hw, h⟩ := Option.bind_eq_some_iff.mp h
  obtain ⟨tg, htg, h⟩ := Option.bind_eq_some_iff.mp h
  obtain ⟨cb, hcb, h⟩ := Option.bind_eq_some_iff.mp h
  obtain ⟨ec, hec, h⟩ := Option.bind_eq_some_iff.mp h
  have hu := ck_some hu
  simp only [Bool.and_eq_true] at hu
  obtain ⟨⟨hc, hb⟩, hp⟩ := hu
  have ok := blkOk_by hb
  have oc := o.calm hc
  have nd : X.N.Nodup := by rw [o.N]; exact o.nd
  obtain ⟨k, its⟩ := w
  refine ⟨tg, k, its, cb, ec, (Option.some.inj h).symm, oc.1, nd, ?_, by rw [o.N, o.sc]; exact ok, fun s H C cl fp => (tg_snd (X := X.blk s H scope (compEnvC scope cl C X.env) fp) nd oc.1 (al_blk o ok) 9 htg).1,
    fun s H C cl fp => ifs_snd (X' := X.blk s H scope (compEnvC scope cl C X.env) fp) (fun e ce he => ih _ _ _ e ce (ok_blk o hc ok) he) hcb, fun s H C cl fp => (ih _ _ _ el ec (ok_blk o hc ok) hec).1, plain_fold hp X.env, fun i hi => ?_⟩
  · have := walk_snd o (fun e ce he => ih c X Γ e ce o he) hw
    rw [walk_back] at this
    exact this
  · obtain ⟨x, hx⟩ := tg_slots 9 htg i hi
    exact List.mem_map.mpr ⟨(x, i), PySem.mem_of_lookup hx, rfl⟩
theorem cE_snd : ∀ (n : Nat) (c : Cfg) (X : Cx) (Γ : Ctx) (e : Expr) (ce : CE), XOk c X Γ → cE n c e = some ce → Snd X Γ e ce
  | 0, c, X, Γ, e, ce, o, h => by cases h
  | n + 1, c, X, Γ, e, ce, o, h => by
    have ih := cE_snd n
    have hf : ∀ e ce, cE n c e = some ce → Snd X Γ e ce := fun e ce he => ih c X Γ e ce o he
    cases e with
    | Name x p =>
      have h' : (match slotOf c x with
        | some i => some (CE.var i)
        | none => (ck (globB c.sc x)).bind fun _ => (c.cons.lookup x).map .cst) = some ce := by unfold cE at h; exact h
      cases hs : slotOf c x with
      | some i =>
        rw [hs] at h'
        cases h'
        obtain ⟨s1, s2, s3, s4⟩ := slot_of o hs
        have pe : PE X (.Name x p) (tE X.K Γ (.var i)) := sim_var s1 s2 s3 s4
        exact ⟨pe, rfl, plainT pe fun _ => rfl⟩
      | none =>
        rw [hs] at h'
        obtain ⟨u, hu, h'⟩ := Option.bind_eq_some_iff.mp h'
        obtain ⟨d, hd, rfl⟩ := Option.map_eq_some_iff.mp h'
        obtain ⟨hg, hdb⟩ := glob_of o (ck_some hu)
        obtain ⟨u, v, hm, r, rv⟩ := o.cons x d hd
        have pe : PE X (.Name x p) (tE X.K Γ (.cst d)) := sim_cst (pe_glob hg hm r hdb) rv
        exact ⟨pe, rfl, plainT pe fun _ => rfl⟩
    | Constant k j p =>
      have h' : (constD k).map CE.cst = some ce := by unfold cE at h; exact h
      obtain ⟨d, hd, rfl⟩ := Option.map_eq_some_iff.mp h'
      have pe : PE X (.Constant k j p) (tE X.K Γ (.cst d)) := const_snd hd
      exact ⟨pe, rfl, plainT pe fun _ => rfl⟩
    | BinOp a op b p =>
      have h' : ((opB op).bind fun o => (cE n c a).bind fun a => (cE n c b).bind fun b => some (CE.bin o a b)) = some ce := by unfold cE at h; exact h
      obtain ⟨o1, h1, h'⟩ := Option.bind_eq_some_iff.mp h'
      obtain ⟨ca, ha, h'⟩ := Option.bind_eq_some_iff.mp h'
      obtain ⟨cb, hb, h'⟩ := Option.bind_eq_some_iff.mp h'
      cases h'
      have pe : PE X (.BinOp a op b p) (tE X.K Γ (.bin o1 ca cb)) := by rw [← opOf_opB h1]; exact sim_bin o1 (hf a ca ha).1 (hf b cb hb).1
      exact ⟨pe, rfl, plainT pe fun _ => rfl⟩
    | UnaryOp op a p =>
      cases op with
      | Not =>
        have h' : ((ck (notIf a)).bind fun _ => (cE n c a).map CE.not) = some ce := by unfold cE at h; exact h
        obtain ⟨u, hu, h'⟩ := Option.bind_eq_some_iff.mp h'
        obtain ⟨ca, ha, rfl⟩ := Option.map_eq_some_iff.mp h'
        obtain ⟨h1, _, h3⟩ := hf a ca ha
        exact ⟨sim_not h1, rfl, fun _ => simT_not (h3 (ck_some hu))⟩
      | USub =>
        have h' : (cE n c a).map CE.neg = some ce := by unfold cE at h; exact h
        obtain ⟨ca, ha, rfl⟩ := Option.map_eq_some_iff.mp h'
        have pe : PE X (.UnaryOp .USub a p) (tE X.K Γ (.neg ca)) := sim_neg (hf a ca ha).1
        exact ⟨pe, rfl, plainT pe fun _ => rfl⟩
      | _ => unfold cE at h; cases h
    | BoolOp op vs p =>
      cases op with
      | And =>
        have h' : foldE CE.and (cE n c) vs = some ce := by unfold cE at h; exact h
        obtain ⟨_, h1, h2⟩ := fold_and (pos := p) hf h'
        exact ⟨h1, rfl, fun _ => h2.pt⟩
      | Or =>
        have h' : foldE CE.or (cE n c) vs = some ce := by unfold cE at h; exact h
        obtain ⟨_, h1, h2⟩ := fold_or (pos := p) hf h'
        exact ⟨h1, rfl, fun _ => h2.pt⟩
    | Compare a ops bs p =>
      cases ops with
      | nil => unfold cE at h; cases h
      | cons op ops => cases bs with
        | nil => unfold cE at h; cases ops <;> first | cases h | (rename_i x y; cases y <;> cases h)
        | cons b bs => cases ops with
          | nil => cases bs with
            | nil =>
              have h' : ((cE n c a).bind fun a => (cE n c b).bind fun b => some (CE.cmp (opC op) a b)) = some ce := by unfold cE at h; exact h
              obtain ⟨ca, ha, h'⟩ := Option.bind_eq_some_iff.mp h'
              obtain ⟨cb, hb, h'⟩ := Option.bind_eq_some_iff.mp h'
              cases h'
              obtain ⟨h1, h2, _⟩ := hf a ca ha
              obtain ⟨i1, i2, _⟩ := hf b cb hb
              rw [← copOf_opC op, show opC (copOf (opC op)) = opC op by rw [copOf_opC]]
              exact ⟨sim_cmp (opC op) o.hu h1 i1 (plain_marks _ i2), rfl, fun _ => simT_cmp (opC op) o.hu h1 i1 (plain_marks _ i2)⟩
            | cons _ _ => unfold cE at h; cases h
          | cons op2 ops => cases ops with
            | cons _ _ => unfold cE at h; cases h
            | nil => cases bs with
              | nil => unfold cE at h; cases h
              | cons d bs => cases bs with
                | cons _ _ => unfold cE at h; cases h
                | nil =>
                  have h' : ((cE n c a).bind fun a => (cE n c b).bind fun b => (cE n c d).bind fun d => some (CE.chn (opC op) (opC op2) a b d)) = some ce := by unfold cE at h; exact h
                  obtain ⟨ca, ha, h'⟩ := Option.bind_eq_some_iff.mp h'
                  obtain ⟨cb, hb, h'⟩ := Option.bind_eq_some_iff.mp h'
                  obtain ⟨cd, hd, h'⟩ := Option.bind_eq_some_iff.mp h'
                  cases h'
                  obtain ⟨h1, h2, _⟩ := hf a ca ha
                  obtain ⟨i1, i2, _⟩ := hf b cb hb
                  obtain ⟨j1, j2, _⟩ := hf d cd hd
                  have e1 := copOf_opC op
                  have e2 := copOf_opC op2
                  have A := sim_chn (X := X) (Γ := Γ) (pos := p) (opC op) (opC op2) o.hu h1 i1 j1 (plain_last _ _ j2)
                  have B := simT_chn (X := X) (Γ := Γ) (pos := p) (opC op) (opC op2) o.hu h1 i1 j1 (plain_last _ _ j2)
                  rw [e1, e2] at A B
                  exact ⟨A, rfl, fun _ => B⟩
    | IfExp t a b p =>
      have h' : ((ck (notIf t)).bind fun _ => (cE n c t).bind fun t => (cE n c a).bind fun a => (cE n c b).bind fun b => some (CE.ite t a b)) = some ce := by unfold cE at h; exact h
      obtain ⟨u, hu, h'⟩ := Option.bind_eq_some_iff.mp h'
      obtain ⟨ct, ht, h'⟩ := Option.bind_eq_some_iff.mp h'
      obtain ⟨ca, ha, h'⟩ := Option.bind_eq_some_iff.mp h'
      obtain ⟨cb, hb, h'⟩ := Option.bind_eq_some_iff.mp h'
      cases h'
      exact ⟨sim_ite ((hf t ct ht).2.2 (ck_some hu)) (hf a ca ha).1 (hf b cb hb).1, rfl, nofun⟩
    | Tuple es k p =>
      have h' : (mapE (cE n c) es).map CE.tup = some ce := by unfold cE at h; exact h
      obtain ⟨cs, hcs, rfl⟩ := Option.map_eq_some_iff.mp h'
      have pe : PE X (.Tuple es k p) (tE X.K Γ (.tup cs)) := sim_tup (map_snd hf hcs).1
      exact ⟨pe, rfl, plainT pe fun _ => rfl⟩
    | List es p =>
      have h' : (mapE (cE n c) es).map CE.lst = some ce := by unfold cE at h; exact h
      obtain ⟨cs, hcs, rfl⟩ := Option.map_eq_some_iff.mp h'
      have pe : PE X (.List es p) (tE X.K Γ (.lst cs)) := sim_lst (map_snd hf hcs).1
      exact ⟨pe, rfl, plainT pe fun _ => rfl⟩
    | Dict ks vs p =>
      have key : (ks = [] ∧ vs = [] ∧ ce = .dct (decide ((p.line, p.col) ∈ c.tupd)) .nil .nil) ∨ ((ks ≠ [] ∨ vs ≠ []) ∧ ((mapO ks).bind fun ds => (ck (decide (ks.length = vs.length) && decide (ks.length ≤ 15))).bind fun _ => (mapE (fun e => (cE n c e).map (newIf (prod 9 e))) vs).bind fun vs => some (CE.dct false (csts ds) vs)) = some ce) := by
        unfold cE at h
        cases ks with
        | nil => cases vs with
          | nil => left; exact ⟨rfl, rfl, (Option.some.inj h).symm⟩
          | cons v vs => right; exact ⟨.inr (by simp), h⟩
        | cons k ks => right; exact ⟨.inl (by simp), h⟩
      have pe : PE X (.Dict ks vs p) (tE X.K Γ ce) := by
        rcases key with ⟨rfl, rfl, rfl⟩ | ⟨hne, h'⟩
        · exact sim_dct0
        · obtain ⟨ds, hds, h'⟩ := Option.bind_eq_some_iff.mp h'
          obtain ⟨u, hu, h'⟩ := Option.bind_eq_some_iff.mp h'
          obtain ⟨cs, hcs, h'⟩ := Option.bind_eq_some_iff.mp h'
          cases h'
          have hu := ck_some hu
          simp only [Bool.and_eq_true, decide_eq_true_eq] at hu
          obtain ⟨qs, trs, hd, rfl⟩ := dp_snd (X := X) (Γ := Γ) (f := fun e => (cE n c e).map (newIf (prod 9 e))) (fun e ce he => by
            obtain ⟨a, ha, rfl⟩ := Option.map_eq_some_iff.mp he
            exact newIf_snd _ (hf e a ha).1) hds hcs hu.1
          rw [csts_eq]
          refine sim_dct hd (fun z => ?_) hu.2
          rcases hne with q | q
          · exact q z
          · rw [z] at hu
            exact q (List.length_eq_zero_iff.mp hu.1.symm)
      exact ⟨pe, rfl, plainT pe fun _ => rfl⟩
    | Subscript a i p =>
      have key : (∃ lo hi p2, i = .Slice lo hi none p2 ∧ ((cE n c a).bind fun a => (match lo with | some e => (cE n c e).bind fun l => (ck (!noPart l)).bind fun _ => some l | none => some (.cst .non)).bind fun l =>
        (match hi with | some e => (cE n c e).bind fun l => (ck (!noPart l)).bind fun _ => some l | none => some (.cst .non)).bind fun h => some (CE.sl a l h)) = some ce) ∨ ((cE n c a).bind fun a => (cE n c i).bind fun i => some (CE.ix a i)) = some ce := by
        unfold cE at h
        cases i with
        | Slice lo hi st p2 => cases st with
          | none => left; exact ⟨lo, hi, p2, rfl, h⟩
          | some s => right; exact h
        | _ => right; exact h
      have pe : PE X (.Subscript a i p) (tE X.K Γ ce) := by
        rcases key with ⟨lo, hi, p2, rfl, h'⟩ | h'
        · obtain ⟨ca, ha, h'⟩ := Option.bind_eq_some_iff.mp h'
          obtain ⟨cl, hl, h'⟩ := Option.bind_eq_some_iff.mp h'
          obtain ⟨ch, hh, h'⟩ := Option.bind_eq_some_iff.mp h'
          cases h'
          exact sim_sl (hf a ca ha).1 (part_snd hf hl) (part_snd hf hh)
        · obtain ⟨ca, ha, h'⟩ := Option.bind_eq_some_iff.mp h'
          obtain ⟨ci, hi, h'⟩ := Option.bind_eq_some_iff.mp h'
          cases h'
          obtain ⟨i1, i2, _⟩ := hf i ci hi
          exact sim_ix o.hu (hf a ca ha).1 i1 (plain_ix i2)
      exact ⟨pe, rfl, plainT pe fun _ => rfl⟩
    | Attribute ob f p =>
      cases ob with
      | Name x p2 =>
        have h' : ((ck c.xf).bind fun _ => (slotOf c x).map fun i => CE.xfld i f) = some ce := by unfold cE at h; exact h
        obtain ⟨u, hu, h'⟩ := Option.bind_eq_some_iff.mp h'
        obtain ⟨i, hi, rfl⟩ := Option.map_eq_some_iff.mp h'
        obtain ⟨s1, s2, s3, s4⟩ := slot_of o hi
        have pe : PE X (.Attribute (.Name x p2) f p) (tE X.K Γ (.xfld i f)) := sim_xfld o.held s1 s2 s3 s4 rfl
        exact ⟨pe, rfl, plainT pe fun _ => rfl⟩
      | _ => unfold cE at h; cases h
    | Call f args kws p =>
      cases f with
      | Name x p2 =>
        have h' : cCallN c (cE n c) x args kws = some ce := by unfold cE at h; exact h
        have pe : PE X (.Call (.Name x p2) args kws p) (tE X.K Γ ce) := callN_snd o hf h'
        exact ⟨pe, rfl, plainT pe fun _ => rfl⟩
      | Attribute ob x ap =>
        cases kws with
        | nil =>
          have h' : cCallM (cE n c) ob x ap p args = some ce := by unfold cE at h; exact h
          have pe : PE X (.Call (.Attribute ob x ap) args [] p) (tE X.K Γ ce) := callM_snd hf h'
          exact ⟨pe, rfl, plainT pe fun _ => rfl⟩
        | cons _ _ => unfold cE at h; cases h
      | _ => unfold cE at h; cases h
    | ListComp el gs scope p =>
      have key : ∃ t it ifs, gs = [⟨t, it, ifs, 0⟩] := by
        unfold cE at h
        cases gs with
        | nil => cases h
        | cons g gs => cases gs with
          | cons g2 gs2 =>
            obtain ⟨t, it, ifs, a⟩ := g
            cases a with
            | ofNat m => cases m <;> cases h
            | negSucc m => cases h
          | nil =>
            obtain ⟨t, it, ifs, a⟩ := g
            cases a with
            | ofNat m => cases m with
              | zero => exact ⟨t, it, ifs, rfl⟩
              | succ m => cases h
            | negSucc m => cases h
      obtain ⟨t, it, ifs, rfl⟩ := key
      obtain ⟨tg, k, its, cc, ec, rfl, hc, nd, hi, ok, hg, ht, he, hs, htg⟩ := lc_snd o ih h
      have pe : PE X (.ListComp el [⟨t, it, ifs, 0⟩] scope p) (tE X.K Γ (.comp ((ownOf c.N scope).map (·.2)) tg k its cc ec)) := sim_lc hc nd hi ok hg ht he hs htg
      exact ⟨pe, rfl, plainT pe fun _ => rfl⟩
    | _ => unfold cE at h; cases h
end DW
end

section
set_option Elab.async false
set_option linter.all false
set_option maxRecDepth 100000
set_option maxHeartbeats 4000000
namespace DW
open PySem PySem.Spec PyProof.Rows L2 C8

structure SOk (c : Cfg) (X : Cx) (Γ : Ctx) : Prop extends XOk c X Γ where
  uniq : ∀ y ∈ c.sc.names, c.sc.names.lookup y.1 = some y.2
  fnT : ∀ x, X.fn x = true
  st : X.stack = X.env :: X.outer
  fr : X.env.frame = some X.env.locals
  po : c.calm = true → PassesOwn (model X.prog X.w) X.A X.env X.xe
  poa : c.top = true → ∀ hd : Option Value, PassesOwnAt (model X.prog X.w) (X.A.mark hd) X.A X.env X.xe
  exc : ∀ x k, c.exc.lookup x = some k → ∃ fI B newId initId bmB, XTxt X.prog X.K X.mg (Γ.cls k) fI x (Γ.G.fld k) B newId initId bmB
  hnd : ∀ x h, c.hnd.lookup x = some h → ∃ v, X.mg x = some v ∧ ∀ k, PySem.W.exmOne X.K (.ref (Γ.cls k)) v = some (Γ.G.sub k h)
  xfc : ∀ k, XfC X.K (Γ.cls k) ∧ PySem.W.findIn X.K (.ref (Γ.cls k)) (Γ.G.fld k) = some none
section
variable {c : Cfg} {X : Cx} {Γ : Ctx}
theorem al_fn (o : SOk c X Γ) : AlOk X (ownOf c.N c.sc) := by
  intro x i h
  obtain ⟨k, hk, hl, hi⟩ := own_mem h
  have lk := o.uniq _ hk
  refine ⟨by rw [o.N]; exact hi, ?_, .inl (o.fnT x)⟩
  rw [o.sc]
  rcases hl with rfl | rfl
  · exact .inl lk
  · exact .inr lk
theorem ok_tr (o : SOk c X Γ) (hc : c.calm = true) {V1 V2 : WX} {pn : List (Addr × Obj)} {xe : Value → Shared → Prop} (t1 : L2N.Takes (X.tr pn xe) V1) (t2 : L2.Takes (X.tr pn xe) V2) (hp : PassesOwn (model X.prog X.w) X.A X.env xe) : SOk { c with top := false } (X.tr pn xe) { Γ with W := V1, V := V2 } where
  N := o.N
  nd := o.nd
  sc := o.sc
  kind := o.kind
  hu := o.hu
  dp := o.dp
  bi := o.bi
  cons := o.cons
  hi := o.hi
  fns := o.fns
  calm := fun h => ⟨(o.calm h).1, t1, t2, (o.calm h).2.2.2.1, (o.calm h).2.2.2.2⟩
  held := ⟨fun i a h => by
    have h' : Γ.ex = some (i, a) := h
    rw [(o.calm hc).2.2.2.2] at h'; cases h'⟩
  uniq := o.uniq
  fnT := o.fnT
  st := o.st
  fr := o.fr
  po := fun _ => hp
  poa := nofun
  exc := o.exc
  hnd := o.hnd
  xfc := o.xfc
theorem ok_su (o : SOk c X Γ) {n : Option Nat} {a : Addr} {oe : Obj} {d : Option Addr} {pn : List (Addr × Obj)} {k : Nat} {v : D} {W V : WX} (hz : Zc (.ref (Γ.cls k)) d oe) (hf : ∃ vs, oe.data = .fields vs) : SOk { c with calm := false, xf := true, top := false } (X.suite a ((a, oe) :: pn)) (Γ.su n a d k v W V) where
  N := o.N
  nd := o.nd
  sc := o.sc
  kind := o.kind
  hu := o.hu
  dp := o.dp
  bi := o.bi
  cons := o.cons
  hi := o.hi
  fns := nofun
  calm := nofun
  held := ⟨fun i b h c' d' h2 => by
    cases h2
    have hb : b = a := by
      cases n with
      | none => cases h
      | some j => cases h; rfl
    subst hb
    exact ⟨X, oe, pn, rfl, hz, hf, (o.xfc k).1, (o.xfc k).2⟩⟩
  uniq := o.uniq
  fnT := o.fnT
  st := o.st
  fr := o.fr
  po := nofun
  poa := nofun
  exc := o.exc
  hnd := o.hnd
  xfc := o.xfc
theorem ok_sx (o : SOk c X Γ) {a : Addr} {oe : Obj} {d : Option Addr} {pn : List (Addr × Obj)} {k : Nat} {v : D} {W V : WX} : XOk { c with calm := false, xf := false } (L2H.suiteX X a ((a, oe) :: pn)) (Γ.su none a d k v W V) where
  N := o.N
  nd := o.nd
  sc := o.sc
  kind := o.kind
  hu := o.hu
  dp := o.dp
  bi := o.bi
  cons := o.cons
  hi := o.hi
  fns := nofun
  calm := nofun
  held := ⟨fun i b h => by cases h⟩
theorem swaps_no {e : Expr} (h : isComp e = false) (t : Option Expr) (l : Nat) (env : PySem.Env) : swapsWith e t l env = pure false := by cases e <;> first | rfl | cases h
theorem sole_tup {e : Expr} {ts : List Expr} {k p} {l : Nat} {env : PySem.Env} : swapsWithSole [.Tuple ts k p] e l env = pure false := by cases e <;> rfl
theorem sole_sub {e a i : Expr} {p} {l : Nat} {env : PySem.Env} : swapsWithSole [.Subscript a i p] e l env = pure false := by cases e <;> rfl
theorem sw_sub {e a i : Expr} {p} {env : PySem.Env} : swappedStores [.Subscript a i p] e env = pure none := by cases e <;> rfl
theorem swaps_cell {x : Str} {e : Expr} {p : Pos} {l : Nat} {env : PySem.Env} (h : env.kindOf x = some .cell) : swapsWith e (some (.Name x p)) l env = pure false := by
  have h2 : (env.kindOf x == some NameKind.local) = false := by rw [h]; rfl
  cases e <;> first
    | rfl
    | (show (pure (env.blockKind == .function && env.kindOf x == some NameKind.local && _ && _) : Sem Bool) = pure false
       rw [h2, Bool.and_false, Bool.false_and, Bool.false_and])
theorem ifs5 {α : Type} {b1 b2 b3 b4 b5 : Bool} {n : List Str} {r : Option (List Str)} {U : Sem (Option (List Str))} (h : (if b1 = true then some none else if b2 = true then some none else if b3 = true then some none else if b4 = true then some none else if b5 = true then none else some (some n)) = some r) :
    (if (b1 || false) = true then (pure none : Sem (Option (List Str))) else if b2 = true then pure none else if b3 = true then pure none else if b4 = true then pure none else if b5 = true then U else pure (some n)) = pure r := by
  cases b1 <;> cases b2 <;> cases b3 <;> cases b4 <;> cases b5 <;> simp at h ⊢ <;> rw [h]
theorem sw_snd {sc : Scope} {env : PySem.Env} (hs : env.scope = sc) (hk : sc.kind = .function) {ts vs : List Expr} {k p k2 p2} {r : Option (List Str)} (h : swN sc ts vs = some r) : swappedStores [.Tuple ts k p] (.Tuple vs k2 p2) env = pure r := by
  have hb : env.blockKind = .function := by unfold Env.blockKind; rw [hs, hk]; rfl
  have hkk : ∀ id, env.kindOf id = sc.names.lookup id := fun id => by unfold Env.kindOf; rw [hs]
  unfold swappedStores
  unfold swN at h
  simp only [hb, hkk]
  rw [show (ScopeKind.function != ScopeKind.function) = false from rfl]
  exact ifs5 (α := Unit) h
theorem cV_snd (o : XOk c X Γ) {b : Bool} {e : Expr} {ce : CE} (h : cV c b e = some ce) : PE X e (tE X.K Γ ce) ∧ plainE e = true := by
  unfold cV at h
  obtain ⟨a, ha, rfl⟩ := Option.map_eq_some_iff.mp h
  obtain ⟨h1, h2, _⟩ := cE_snd 40 c X Γ e a o ha
  exact ⟨newIf_snd _ h1, h2⟩
theorem cVs_snd (o : XOk c X Γ) : ∀ {ts es : List Expr} {cs : CEs}, cVs c ts es = some cs → PA X es (tA X.K Γ cs) ∧ ts.length = es.length
  | [], [], cs, h => by cases h; exact ⟨simA_nil, rfl⟩
  | [], _ :: _, _, h => by cases h
  | _ :: _, [], _, h => by cases h
  | t :: ts, e :: es, cs, h => by
    obtain ⟨a, ha, h⟩ := Option.bind_eq_some_iff.mp h
    obtain ⟨b, hb, h⟩ := Option.bind_eq_some_iff.mp h
    cases h
    obtain ⟨h1, h2⟩ := cV_snd o ha
    obtain ⟨i1, i2⟩ := cVs_snd o hb
    exact ⟨simA_cons h1 i1 (star_of_plain h2), by rw [List.length_cons, List.length_cons, i2]⟩
theorem cTs_nm {l : List (Str × Nat)} {n : Nat} {x : Str} {p : Pos} {r : List Expr} {i : Nat} {tr : List Tg} (h : cTs l (n + 2) (.Name x p :: r) = some (.nm i :: tr)) : l.lookup x = some i ∧ cTs l (n + 1) r = some tr := by
  have h' : ((cT l (n + 1) (.Name x p)).bind fun a => (cTs l (n + 1) r).bind fun b => some (a :: b)) = some (.nm i :: tr) := by unfold cTs at h; exact h
  obtain ⟨a, ha, h'⟩ := Option.bind_eq_some_iff.mp h'
  obtain ⟨b, hb, h'⟩ := Option.bind_eq_some_iff.mp h'
  cases h'
  obtain ⟨j, hj, e⟩ := map_lk (l := l) (x := x) (t := .nm i) (by unfold cT at ha; exact ha)
  cases e
  exact ⟨hj, hb⟩
theorem cPar_snd (o : SOk c X Γ) {ts es : List Expr} {cs : CS} {k p k2 p2} {pos : Pos} (h : cPar c ts es = some cs) : PS X (.Assign [.Tuple ts k p] (.Tuple es k2 p2) pos) (tS X.K Γ cs) := by
  unfold cPar at h
  obtain ⟨tg, htg, h2⟩ := Option.bind_eq_some_iff.mp h
  clear h
  obtain ⟨vs, hvs, h⟩ := Option.bind_eq_some_iff.mp h2
  clear h2
  obtain ⟨sw, hsw, h2⟩ := Option.bind_eq_some_iff.mp h
  clear h
  obtain ⟨u, hu, h⟩ := Option.bind_eq_some_iff.mp h2
  clear h2
  have oc := o.calm (ck_some hu)
  have nd : X.N.Nodup := by rw [o.N]; exact o.nd
  have al := al_fn o
  obtain ⟨pa, hlen⟩ := cVs_snd o.toXOk hvs
  have hst := sw_snd (k := k) (p := p) (k2 := k2) (p2 := p2) o.sc o.kind hsw
  cases sw with
  | none =>
    have h' : some (CS.asg (.tp tg) (.tup vs)) = some cs := h
    cases h'
    have hg : L2.PG X (.Tuple ts k p) (gT X.K (.tp tg)) := by
      obtain ⟨g1, _, g3, g4⟩ := tgs_snd nd oc.1 al 9 htg
      unfold gT
      exact pg_tup oc.1 g1 g3 g4
    exact simS_asg (sim_tup pa) hg sole_tup hst rfl
  | some ns =>
    dsimp only at h
    split at h
    · rename_i x px y py i j e1 e2
      obtain ⟨v, hv, h'⟩ := Option.bind_eq_some_iff.mp h
      cases h'
      have hv := ck_some hv
      simp only [Bool.and_eq_true, decide_eq_true_eq, bne_iff_ne] at hv
      obtain ⟨⟨⟨hij, rfl⟩, lx⟩, ly⟩ := hv
      obtain ⟨l1, r1⟩ := cTs_nm (n := 7) htg
      obtain ⟨l2, _⟩ := cTs_nm (n := 6) r1
      exact simS_par2 oc.1 nd (al x i l1).1 (al y j l2).1 hij (by rw [o.sc]; exact lx) (by rw [o.sc]; exact ly) pa hst
    · rename_i x px y py z pz i j kk e1 e2 e3
      obtain ⟨v, hv, h'⟩ := Option.bind_eq_some_iff.mp h
      cases h'
      have hv := ck_some hv
      simp only [Bool.and_eq_true, decide_eq_true_eq, bne_iff_ne] at hv
      obtain ⟨⟨⟨⟨⟨⟨hij, hik⟩, hjk⟩, rfl⟩, lx⟩, ly⟩, lz⟩ := hv
      obtain ⟨l1, r1⟩ := cTs_nm (n := 7) htg
      obtain ⟨l2, r2⟩ := cTs_nm (n := 6) r1
      obtain ⟨l3, _⟩ := cTs_nm (n := 5) r2
      exact simS_par3 oc.1 nd (al x i l1).1 (al y j l2).1 (al z kk l3).1 hij hik hjk (by rw [o.sc]; exact lx) (by rw [o.sc]; exact ly) (by rw [o.sc]; exact lz) pa hst
    · cases h

theorem cNm_snd (o : SOk c X Γ) {x : Str} {p pos : Pos} {e : Expr} {i : Nat} {b : Bool} {ce : CE} (hl : (ownOf c.N c.sc).lookup x = some i) (hv : cV c b e = some ce) (hk : (!isComp e || decide (c.sc.names.lookup x = some PySem.NameKind.cell) || lcAt x p e) = true) : PS X (.Assign [.Name x p] e pos) (tS X.K Γ (.asg (.nm i) ce)) := by
  obtain ⟨a1, a2, a3⟩ := al_fn o x i hl
  have nd : X.N.Nodup := by rw [o.N]; exact o.nd
  obtain ⟨pe, pl⟩ := cV_snd o.toXOk hv
  simp only [Bool.or_eq_true, Bool.not_eq_true', decide_eq_true_eq] at hk
  by_cases h1 : isComp e = false
  · exact simS_set nd a1 a2 pe (swaps_no h1 _ _ _) a3
  · by_cases h2 : c.sc.names.lookup x = some PySem.NameKind.cell
    · exact simS_set nd a1 a2 pe (swaps_cell (by show X.env.scope.names.lookup x = _; rw [o.sc]; exact h2)) a3
    · have h3 : lcAt x p e = true := by
        rcases hk with (q | q) | q
        · exact absurd q h1
        · exact absurd q h2
        · exact q
      have hloc : X.env.scope.names.lookup x = some .local := by
        rcases a2 with q | q
        · exact q
        · rw [o.sc] at q; exact absurd q h2
      unfold cV at hv
      obtain ⟨a, ha, rfl⟩ := Option.map_eq_some_iff.mp hv
      cases e with
      | ListComp el gs scope p2 =>
        have key : ∃ t it ifs, gs = [⟨t, it, ifs, 0⟩] := by
          unfold cE at ha
          cases gs with
          | nil => cases ha
          | cons g gs => cases gs with
            | cons g2 gs2 =>
              obtain ⟨t, it, ifs, a⟩ := g
              cases a with
              | ofNat m => cases m <;> cases ha
              | negSucc m => cases ha
            | nil =>
              obtain ⟨t, it, ifs, a⟩ := g
              cases a with
              | ofNat m => cases m with
                | zero => exact ⟨t, it, ifs, rfl⟩
                | succ m => cases ha
              | negSucc m => cases ha
        obtain ⟨t, it, ifs, rfl⟩ := key
        obtain ⟨tg, k, its, cc, ec, rfl, hc, _, hi, ok, hg, ht, he, hs, htg⟩ := lc_snd o.toXOk (cE_snd 39) ha
        have h3' : ((p.line == p2.line) && !(scope.names.any fun (n, k) => n == x && (k == .local || k == .cell))) = true := h3
        simp only [Bool.and_eq_true, Bool.not_eq_true'] at h3'
        exact simS_lc hc nd a1 hloc (sw_true (by rw [o.sc]; exact o.kind) hloc h3'.1 h3'.2) hi ok hg ht he hs htg _
      | _ => cases h3
end
mutual
theorem cS_snd : ∀ (n : Nat) (c : Cfg) (X : Cx) (Γ : Ctx) (s : Stmt) (cs : CS), SOk c X Γ → cS c n s = some cs → PS X s (tS X.K Γ cs)
  | 0, c, X, Γ, s, cs, o, h => by cases h
  | n + 1, c, X, Γ, s, cs, o, h => by
    have ihs := cSs_snd n
    have ihh := cHs_snd n
    have hf : ∀ e ce, cE 40 c e = some ce → Snd X Γ e ce := fun e ce he => cE_snd 40 c X Γ e ce o.toXOk he
    have nd : X.N.Nodup := by rw [o.N]; exact o.nd
    have al := al_fn o
    cases s with
    | Assign ts e pos =>
      cases ts with
      | nil => unfold cS at h; cases h
      | cons t r => cases r with
        | cons _ _ => unfold cS at h; cases t <;> first | cases h | (cases e <;> cases h)
        | nil => cases t with
          | Subscript ob i p2 =>
            have h' : ((cE 40 c ob).bind fun o' => (cE 40 c i).bind fun i' => (cV c true e).bind fun e' => (ck (plainE i)).bind fun _ => some (CS.put o' i' e')) = some cs := by unfold cS at h; exact h
            obtain ⟨co, hco, h'⟩ := Option.bind_eq_some_iff.mp h'
            obtain ⟨ci, hci, h'⟩ := Option.bind_eq_some_iff.mp h'
            obtain ⟨ce, hce, h'⟩ := Option.bind_eq_some_iff.mp h'
            obtain ⟨u, hu, h'⟩ := Option.bind_eq_some_iff.mp h'
            cases h'
            have hpl := ck_some hu
            exact simS_put o.hu (hf ob co hco).1 (hf i ci hci).1 (cV_snd o.toXOk hce).1 sole_sub sw_sub (fun _ => by cases i <;> first | rfl | cases hpl) rfl
          | Tuple ts k p2 =>
            by_cases ht : ∃ es k2 p3, e = .Tuple es k2 p3
            · obtain ⟨es, k2, p3, rfl⟩ := ht
              have h' : cPar c ts es = some cs := by unfold cS at h; exact h
              exact cPar_snd o h'
            · have h' : ((ck c.calm).bind fun _ => (cTs (ownOf c.N c.sc) 9 ts).bind fun t => (cE 40 c e).bind fun e => some (CS.asg (.tp t) e)) = some cs := by
                unfold cS at h
                cases e <;> first | exact h | exact absurd ⟨_, _, _, rfl⟩ ht
              obtain ⟨u, hu, h'⟩ := Option.bind_eq_some_iff.mp h'
              obtain ⟨tg, htg, h'⟩ := Option.bind_eq_some_iff.mp h'
              obtain ⟨ce, hce, h'⟩ := Option.bind_eq_some_iff.mp h'
              cases h'
              have oc := o.calm (ck_some hu)
              obtain ⟨g1, _, g3, g4⟩ := tgs_snd nd oc.1 al 9 htg
              have hg : L2.PG X (.Tuple ts k p2) (gT X.K (.tp tg)) := by unfold gT; exact pg_tup oc.1 g1 g3 g4
              exact simS_asg (hf e ce hce).1 hg sole_tup (by cases e <;> first | rfl | exact absurd ⟨_, _, _, rfl⟩ ht) rfl
          | Name x p2 =>
            have h' : (((ownOf c.N c.sc).lookup x).bind fun i => (cV c (c.muts.contains x) e).bind fun e' => (ck (!isComp e || decide (c.sc.names.lookup x = some PySem.NameKind.cell) || lcAt x p2 e)).bind fun _ => some (CS.asg (.nm i) e')) = some cs := by
              unfold cS at h; exact h
            obtain ⟨i, hi, h'⟩ := Option.bind_eq_some_iff.mp h'
            obtain ⟨ce, hce, h'⟩ := Option.bind_eq_some_iff.mp h'
            obtain ⟨u, hu, h'⟩ := Option.bind_eq_some_iff.mp h'
            cases h'
            exact cNm_snd o hi hce (ck_some hu)
          | _ => unfold cS at h; first | cases h | (cases e <;> cases h)
    | Expr e pos =>
      have h' : (if isDoc e then some CS.pass else (ck (!isComp e)).bind fun _ => (cE 40 c e).map .xpr) = some cs := by unfold cS at h; exact h
      by_cases hd : isDoc e = true
      · rw [if_pos hd] at h'
        cases h'
        obtain ⟨x, j, p, rfl⟩ := isDoc_some hd
        exact simS_doc
      · rw [if_neg hd] at h'
        obtain ⟨u, hu, h'⟩ := Option.bind_eq_some_iff.mp h'
        obtain ⟨ce, hce, rfl⟩ := Option.map_eq_some_iff.mp h'
        exact simS_xpr (hf e ce hce).1 (swaps_no (by simpa using ck_some hu) _ _ _)
    | Return v pos =>
      cases v with
      | none =>
        have h' : some (CS.ret (.cst .non)) = some cs := by unfold cS at h; exact h
        cases h'
        exact simS_retN
      | some e =>
        have h' : (cE 40 c e).map CS.ret = some cs := by unfold cS at h; exact h
        obtain ⟨ce, hce, rfl⟩ := Option.map_eq_some_iff.mp h'
        exact simS_ret (hf e ce hce).1
    | If t a b pos =>
      have h' : ((ck (notIf t)).bind fun _ => (cE 40 c t).bind fun t => (cSs c n a).bind fun a => (cSs c n b).bind fun b => some (CS.cond t a b)) = some cs := by unfold cS at h; exact h
      obtain ⟨u, hu, h'⟩ := Option.bind_eq_some_iff.mp h'
      obtain ⟨ct, hct, h'⟩ := Option.bind_eq_some_iff.mp h'
      obtain ⟨ca, hca, h'⟩ := Option.bind_eq_some_iff.mp h'
      obtain ⟨cb, hcb, h'⟩ := Option.bind_eq_some_iff.mp h'
      cases h'
      exact simS_if ((hf t ct hct).2.2 (ck_some hu)) (ihs c X Γ a ca o hca) (ihs c X Γ b cb o hcb)
    | For t it b els pos =>
      cases els with
      | cons _ _ => unfold cS at h; cases h
      | nil =>
        have h' : ((ck (c.calm && plainE it)).bind fun _ => (cT (ownOf c.N c.sc) 9 t).bind fun tg => (cWalk c (cE 40 c) t (walkOf it)).bind fun w => (cSs c n b).bind fun b => some (CS.loop tg w.1 w.2 b)) = some cs := by unfold cS at h; exact h
        obtain ⟨u, hu, h'⟩ := Option.bind_eq_some_iff.mp h'
        obtain ⟨tg, htg, h'⟩ := Option.bind_eq_some_iff.mp h'
        obtain ⟨w, hw, h'⟩ := Option.bind_eq_some_iff.mp h'
        obtain ⟨cb, hcb, h'⟩ := Option.bind_eq_some_iff.mp h'
        cases h'
        obtain ⟨k, its⟩ := w
        have hu := ck_some hu
        rw [Bool.and_eq_true] at hu
        have oc := o.calm hu.1
        have hi := walk_snd o.toXOk hf hw
        rw [walk_back] at hi
        exact simS_for (o.po hu.1) oc.1 hi (tg_snd nd oc.1 al 9 htg).1 (ihs c X Γ b cb o hcb) (plain_fold hu.2 X.env)
    | While t b els pos =>
      cases els with
      | cons _ _ => unfold cS at h; cases h
      | nil =>
        have h' : ((ck (c.calm && notIf t)).bind fun _ => (cE 40 c t).bind fun t => (cSs c n b).bind fun b => some (CS.whl t b)) = some cs := by unfold cS at h; exact h
        obtain ⟨u, hu, h'⟩ := Option.bind_eq_some_iff.mp h'
        obtain ⟨ct, hct, h'⟩ := Option.bind_eq_some_iff.mp h'
        obtain ⟨cb, hcb, h'⟩ := Option.bind_eq_some_iff.mp h'
        cases h'
        have hu := ck_some hu
        rw [Bool.and_eq_true] at hu
        exact simS_while (o.po hu.1) ((hf t ct hct).2.2 hu.2) (ihs c X Γ b cb o hcb)
    | Raise r cause pos =>
      cases cause with
      | some _ => unfold cS at h; cases h
      | none =>
        have h' : ((rcOf r).bind fun q => (ck (globB c.sc q.1 && c.calm && plainE q.2)).bind fun _ => (c.exc.lookup q.1).bind fun k => (cE 40 c q.2).bind fun e => some (CS.raise k e)) = some cs := by unfold cS at h; exact h
        obtain ⟨q, hq, h'⟩ := Option.bind_eq_some_iff.mp h'
        obtain ⟨u, hu, h'⟩ := Option.bind_eq_some_iff.mp h'
        obtain ⟨k, hk, h'⟩ := Option.bind_eq_some_iff.mp h'
        obtain ⟨ce, hce, h'⟩ := Option.bind_eq_some_iff.mp h'
        cases h'
        obtain ⟨x, e⟩ := q
        obtain ⟨p, p2, rfl⟩ := rcOf_some hq
        have hu := ck_some hu
        simp only [Bool.and_eq_true] at hu
        obtain ⟨⟨hg, hc⟩, hp⟩ := hu
        obtain ⟨g1, g2⟩ := glob_of o.toXOk hg
        obtain ⟨fI, B, newId, initId, bmB, T⟩ := o.exc x k hk
        exact simS_raise (o.calm hc).1 (o.calm hc).2.1 T o.dp (hf e ce hce).1 g1 g2 (star_of_plain hp)
    | Try b hds els fin pos =>
      cases hds with
      | nil => unfold cS at h; cases h
      | cons h0 hds => cases els with
        | cons _ _ => unfold cS at h; cases h
        | nil => cases fin with
          | cons _ _ => unfold cS at h; cases h
          | nil =>
            cases hrn : rnOf (h0 :: hds) with
            | some q =>
              obtain ⟨x, y, e⟩ := q
              have h' : ((ck (globB c.sc x && globB c.sc y && c.calm && c.top && plainE e)).bind fun _ => (c.hnd.lookup x).bind fun h => (c.exc.lookup y).bind fun k =>
                  (cE 40 { c with calm := false, xf := false } e).bind fun e => (cSs { c with top := false } n b).bind fun b => some (CS.tryr b h (.cons (.raiseN k e) .nil))) = some cs := by
                have h1 : cTry c (cSs { c with top := false } n b) (cHs c n (h0 :: hds)) (h0 :: hds) = some cs := by unfold cS at h; exact h
                unfold cTry at h1
                rw [hrn] at h1
                exact h1
              clear h
              obtain ⟨u, hu, h'⟩ := Option.bind_eq_some_iff.mp h'
              obtain ⟨hh, hhn, h'⟩ := Option.bind_eq_some_iff.mp h'
              obtain ⟨k, hk, h'⟩ := Option.bind_eq_some_iff.mp h'
              obtain ⟨ce, hce, h'⟩ := Option.bind_eq_some_iff.mp h'
              obtain ⟨cb, hcb, h'⟩ := Option.bind_eq_some_iff.mp h'
              cases h'
              obtain ⟨p1, p2, p3, p4, p5, p6, j, e1⟩ := rnOf_some hrn
              cases e1
              have hu := ck_some hu
              simp only [Bool.and_eq_true] at hu
              obtain ⟨⟨⟨⟨hgx, hgy⟩, hc⟩, ht⟩, hp⟩ := hu
              obtain ⟨gx1, gx2⟩ := glob_of o.toXOk hgx
              obtain ⟨gy1, gy2⟩ := glob_of o.toXOk hgy
              obtain ⟨v, hv, hm⟩ := o.hnd x hh hhn
              obtain ⟨fI, B, newId, initId, bmB, T⟩ := o.exc y k hk
              have oc := o.calm hc
              refine simS_tryr o.st o.fr oc.2.2.2.2 oc.2.2.2.1 oc.2.2.1 ⟨gx1, gx2, .inl hv⟩ hm (o.poa ht) (fun V1 V2 pn xe t1 t2 hp => ihs _ _ _ b cb (ok_tr o hc t1 t2 hp) hcb) fun a oe d pn k' v' t2 hot => ?_
              have ox := ok_sx o (a := a) (oe := oe) (d := d) (pn := pn) (k := k') (v := v') (W := fun _ _ _ _ => True) (V := Γ.V)
              exact simS_cons (simS_raiseN (X := L2H.suiteX X a ((a, oe) :: pn)) (Γ := Γ.su none a d k' v' (fun _ _ _ _ => True) Γ.V) hot t2 T o.dp (cE_snd 40 _ _ _ e ce ox hce).1 gy1 gy2 (star_of_plain hp)) simS_nil
            | none =>
              have h' : ((ck c.calm).bind fun _ => (cSs { c with top := false } n b).bind fun b => (cHs c n (h0 :: hds)).bind fun hs => some (CS.tryx b hs)) = some cs := by
                have h1 : cTry c (cSs { c with top := false } n b) (cHs c n (h0 :: hds)) (h0 :: hds) = some cs := by unfold cS at h; exact h
                unfold cTry at h1
                rw [hrn] at h1
                exact h1
              obtain ⟨u, hu, h'⟩ := Option.bind_eq_some_iff.mp h'
              obtain ⟨cb, hcb, h'⟩ := Option.bind_eq_some_iff.mp h'
              obtain ⟨ch, hch, h'⟩ := Option.bind_eq_some_iff.mp h'
              cases h'
              have hc := ck_some hu
              have oc := o.calm hc
              obtain ⟨l, hl⟩ := ihh c X Γ (h0 :: hds) ch o hch
              exact simS_tryx o.st o.fr nd oc.2.2.2.2 oc.2.2.2.1 oc.2.1 oc.2.2.1 (fun V1 V2 pn xe t1 t2 hp => ihs _ _ _ b cb (ok_tr o hc t1 t2 hp) hcb) hl
    | Pass pos =>
      have h' : some CS.pass = some cs := by unfold cS at h; exact h
      cases h'
      exact simS_pass
    | Break pos =>
      have h' : some CS.brk = some cs := by unfold cS at h; exact h
      cases h'
      exact simS_brk
    | Continue pos =>
      have h' : some CS.cont = some cs := by unfold cS at h; exact h
      cases h'
      exact simS_cont
    | _ => unfold cS at h; cases h
theorem cSs_snd : ∀ (n : Nat) (c : Cfg) (X : Cx) (Γ : Ctx) (ss : List Stmt) (cs : CSs), SOk c X Γ → cSs c n ss = some cs → PSs X ss (tSs X.K Γ cs)
  | 0, c, X, Γ, ss, cs, o, h => by cases h
  | n + 1, c, X, Γ, [], cs, o, h => by
    have h' : some CSs.nil = some cs := by unfold cSs at h; exact h
    cases h'
    exact simS_nil
  | n + 1, c, X, Γ, s :: r, cs, o, h => by
    have h' : ((cS c n s).bind fun s => (cSs c n r).bind fun r => some (CSs.cons s r)) = some cs := by unfold cSs at h; exact h
    obtain ⟨a, ha, h'⟩ := Option.bind_eq_some_iff.mp h'
    obtain ⟨b, hb, h'⟩ := Option.bind_eq_some_iff.mp h'
    cases h'
    exact simS_cons (cS_snd n c X Γ s a o ha) (cSs_snd n c X Γ r b o hb)
theorem cHs_snd : ∀ (n : Nat) (c : Cfg) (X : Cx) (Γ : Ctx) (hds : List ExceptHandler) (hs : CHs), SOk c X Γ → cHs c n hds = some hs → ∃ l, HsOk X Γ hds hs l
  | 0, c, X, Γ, hds, hs, o, h => by cases h
  | n + 1, c, X, Γ, [], hs, o, h => by
    have h' : some CHs.nil = some hs := by unfold cHs at h; exact h
    cases h'
    exact ⟨_, .nil⟩
  | n + 1, c, X, Γ, .ExceptHandler t nm b pos :: r, hs, o, h => by
    cases t with
    | none => unfold cHs at h; cases h
    | some t => cases t with
      | Name x np => cases b with
        | nil => unfold cHs at h; cases h
        | cons b0 b =>
          have h' : ((ck (globB c.sc x)).bind fun _ => (c.hnd.lookup x).bind fun k =>
            (match nm with | none => some none | some y => (ck (decide (c.sc.names.lookup y = some PySem.NameKind.local))).bind fun _ => ((ownOf c.N c.sc).lookup y).map some).bind fun i =>
              (cSs { c with calm := false, xf := true, top := false } n (b0 :: b)).bind fun b => (cHs c n r).bind fun r => some (CHs.cons k i b r)) = some hs := by unfold cHs at h; exact h
          obtain ⟨u, hu, h'⟩ := Option.bind_eq_some_iff.mp h'
          obtain ⟨k, hk, h'⟩ := Option.bind_eq_some_iff.mp h'
          obtain ⟨i, hi, h'⟩ := Option.bind_eq_some_iff.mp h'
          obtain ⟨cb, hcb, h'⟩ := Option.bind_eq_some_iff.mp h'
          obtain ⟨cr, hcr, h'⟩ := Option.bind_eq_some_iff.mp h'
          cases h'
          obtain ⟨g1, g2⟩ := glob_of o.toXOk (ck_some hu)
          obtain ⟨v, hv, hm⟩ := o.hnd x k hk
          obtain ⟨l, hl⟩ := cHs_snd n c X Γ r cr o hcr
          have hn : (nm = none ∧ i = none) ∨ ∃ (y : Str) (j : Nat), nm = some y ∧ i = some j ∧ X.N[j]? = some y ∧ X.env.kindOf y = some .local := by
            cases nm with
            | none => cases hi; exact .inl ⟨rfl, rfl⟩
            | some y =>
              have hi' : ((ck (decide (c.sc.names.lookup y = some PySem.NameKind.local))).bind fun _ => ((ownOf c.N c.sc).lookup y).map some) = some i := hi
              obtain ⟨v, hv, hi'⟩ := Option.bind_eq_some_iff.mp hi'
              obtain ⟨j, hj, rfl⟩ := Option.map_eq_some_iff.mp hi'
              exact .inr ⟨y, j, rfl, rfl, (al_fn o y j hj).1, by show X.env.scope.names.lookup y = _; rw [o.sc]; exact of_decide_eq_true (ck_some hv)⟩
          exact ⟨_, .cons ⟨g1, g2, .inl hv⟩ hm hn (fun a oe d pn k' v' hz hf => cSs_snd n _ _ _ (b0 :: b) cb (ok_su o hz hf) hcb) hl⟩
      | _ => unfold cHs at h; cases h
end
end DW
end

section
set_option Elab.async false
set_option linter.all false
set_option maxRecDepth 100000
set_option maxHeartbeats 4000000
namespace DW
open PySem PySem.Spec PyProof.Rows L2 C8


structure FR where
  nm : Str
  st : Stmt
  ps : List Str
  N : List Str
  muts : List Str
structure LD where
  fs : List FR
  exc : List (Str × Nat)
  hnd : List (Str × Nat)
  cons : List (Str × D)
  tupd : List (Nat × Nat)
def LD.cfg (L : LD) (r : FR) : Cfg := ⟨r.N, fnScope r.st, L.fs.mapIdx fun i r => (r.nm, i, r.ps), L.exc, L.hnd, L.cons, r.muts, L.tupd, true, false, true⟩
def LD.T (L : LD) : List Fn := L.fs.map fun r => (cF (L.cfg r) r.st).getD ⟨0, 0, .nil⟩
def isDef : Stmt → Bool
  | .FunctionDef _ _ _ _ _ _ _ _ _ _ => true
  | _ => false

def frB (L : LD) (r : FR) : Bool := isDef r.st && scC r.N r.ps (fnScope r.st) && (fnScope r.st).names.all (fun y => decide ((fnScope r.st).names.lookup y.1 = some y.2)) && decide ((fnArgs r.st).args.length = r.ps.length) && (cF (L.cfg r) r.st).isSome
theorem cF_some {c : Cfg} {st : Stmt} {fn : Fn} (h : cF c st = some fn) : cSs { c with sc := fnScope st, calm := true, xf := false, top := true } 60 (fnBody st) = some fn.body ∧ fn.slots = c.N.length ∧ fn.par = (fnArgs st).args.length := by
  cases st with
  | FunctionDef nm a b dl rt tp sc ts bd pos =>
    have h' : (cSs { c with sc := sc, calm := true, xf := false, top := true } 60 b).map (fun b => (⟨a.args.length, c.N.length, b⟩ : Fn)) = some fn := h
    obtain ⟨cb, hcb, rfl⟩ := Option.map_eq_some_iff.mp h'
    exact ⟨hcb, rfl, rfl⟩
  | _ => cases h

structure LW (P : Program) (w : World) (K : PySem.W.Frag) (mg : Str → Option Value) (L : LD) (sub : Nat → Nat → Bool) (fld : Nat → Str) (hot : Nat → Bool) (cls : Nat → Addr) (fa : Nat → Addr) (fdt : Nat → FuncData) : Prop where
  bi : ∀ x ∈ biNames, mg x = none
  cons : ∀ x d, L.cons.lookup x = some d → ∃ (u : Value) (v : V), mg x = some u ∧ RelV v u ∧ ∀ w H, RV K w H v d
  hi : ∀ a b, cls a = cls b → hot a = hot b
  exc : ∀ x k, L.exc.lookup x = some k → ∃ fI B newId initId bmB, XTxt P K mg (cls k) fI x (fld k) B newId initId bmB
  hnd : ∀ x h, L.hnd.lookup x = some h → ∃ v, mg x = some v ∧ ∀ k, PySem.W.exmOne K (.ref (cls k)) v = some (sub k h)
  xfc : ∀ k, XfC K (cls k) ∧ PySem.W.findIn K (.ref (cls k)) (fld k) = some none
  chk : ∀ r ∈ L.fs, frB L r = true
  defs : ∀ (i : Nat) (r : FR), L.fs[i]? = some r → C8.Def K mg r.nm r.st (fa i) (fdt i) ∧ Binds K (fdt i) r.ps [] ∧ ∀ ws : List Value, ws.length = r.ps.length → bindArgs (fdt i) ⟨[], r.ps.zip ws⟩ = pure (r.ps.zip ws) ∧ bindArgs (fdt i) ⟨ws, []⟩ = pure (r.ps.zip ws)
theorem lookup_fns {fs : List FR} {x : Str} {fi : Nat} {ps : List Str} (h : (fs.mapIdx fun i r => (r.nm, i, r.ps)).lookup x = some (fi, ps)) : ∃ r, fs[fi]? = some r ∧ x = r.nm ∧ ps = r.ps := by
  have hm := PySem.mem_of_lookup h
  obtain ⟨j, hj⟩ := List.mem_iff_getElem?.mp hm
  rw [List.getElem?_mapIdx] at hj
  obtain ⟨r, hr, e⟩ := Option.map_eq_some_iff.mp hj
  cases e
  exact ⟨r, hr, rfl, rfl⟩
theorem law_fns {P : Program} {w : World} {K : PySem.W.Frag} {mg : Str → Option Value} {base : Heap} {L : LD} {sub : Nat → Nat → Bool} {fld : Nat → Str} {hot : Nat → Bool} {cls : Nat → Addr} {fa : Nat → Addr} {fdt : Nat → FuncData} (W : LW P w K mg L sub fld hot cls fa fdt) :
    ∀ (k i : Nat) (r : FR), L.fs[i]? = some r → FnOk P w K mg base (CXm P w hot cls) k (fa i) (fdt i) r.ps (spOf K fld cls (run L.T sub fld hot k i))
  | 0, i, r, hr => fn_zero
  | k + 1, i, r, hr => by
    have ih := law_fns (base := base) W k
    have hc := W.chk r (List.mem_of_getElem? hr)
    unfold frB at hc
    simp only [Bool.and_eq_true, List.all_eq_true, decide_eq_true_eq] at hc
    obtain ⟨⟨⟨⟨h1, h2⟩, h3⟩, h4⟩, h5⟩ := hc
    obtain ⟨fn, hfn⟩ := Option.isSome_iff_exists.mp h5
    obtain ⟨c1, c2, c3⟩ := cF_some hfn
    have hT : L.T[i]? = some fn := by
      unfold LD.T
      rw [List.getElem?_map, hr]
      show some ((cF (L.cfg r) r.st).getD _) = _
      rw [hfn]; rfl
    obtain ⟨hd, hb, hkw⟩ := W.defs i r hr
    have S := fnScope_by h2
    refine fn_gen hT hd.fn S (by rw [c3, h4]) c2 fun cdv A outer s H E hrm => ?_
    refine cSs_snd 60 _ _ _ (fnBody r.st) fn.body ?_ c1
    exact {
      N := rfl
      nd := S.nd
      sc := rfl
      kind := S.kind
      hu := by have := hrm.un; show (A.deeper _).units + 65 < _; omega
      dp := by have := hrm.dp; show (A.deeper _).depth + 5 < _; omega
      bi := W.bi
      cons := W.cons
      hi := W.hi
      fns := fun _ x fi ps hl => by
        obtain ⟨r', hr', rfl, rfl⟩ := lookup_fns hl
        obtain ⟨hd', hb', hkw'⟩ := W.defs fi r' hr'
        exact ⟨k, fa fi, fdt fi, hrm, hd'.mgf, hd'.kp, hb', fun ws hl => (hkw' ws hl).1, ih fi r' hr'⟩
      calm := fun _ => ⟨rfl, takes_fn.1, takes_fn.2, rfl, rfl⟩
      held := ⟨fun i a h => by cases h⟩
      uniq := fun y hy => h3 y hy
      fnT := fun _ => rfl
      st := rfl
      fr := rfl
      po := fun _ => PassesOwn.leaving
      poa := fun _ hd => L2H.passesAt_of rfl hd
      exc := W.exc
      hnd := W.hnd
      xfc := W.xfc }
end DW
end

section
set_option Elab.async false
set_option linter.all false
set_option maxRecDepth 100000
set_option maxHeartbeats 4000000
namespace DW
open PySem PySem.Spec PyProof.Rows L2 He


structure XD where
  x : Str
  f : Str
  st : Stmt
def xiP : List Stmt → XiP × Str
  | [.Expr (.Call (.Attribute (.Call (.Name _ q1) [] [] q2) _ q3) [.Constant (.str msg) _ q4, .Name _ q5] [] q6) _, .Assign [.Attribute (.Name _ r1) _ r2] (.Name _ r3) r4] => (⟨q1, q2, q3, q4, q5, q6, r1, r2, r3, r4⟩, msg)
  | _ => (⟨⟨0, 0, 0, 0⟩, ⟨0, 0, 0, 0⟩, ⟨0, 0, 0, 0⟩, ⟨0, 0, 0, 0⟩, ⟨0, 0, 0, 0⟩, ⟨0, 0, 0, 0⟩, ⟨0, 0, 0, 0⟩, ⟨0, 0, 0, 0⟩, ⟨0, 0, 0, 0⟩, ⟨0, 0, 0, 0⟩⟩, "")
def xiPs (a : Arguments) : Pos × Pos := match a.args with
  | [p, q] => (p.pos, q.pos)
  | _ => (⟨0, 0, 0, 0⟩, ⟨0, 0, 0, 0⟩)

structure XT (d : XD) : Prop where
  a : defArgs d.st = xiA (xiPs (defArgs d.st)).1 (xiPs (defArgs d.st)).2 d.f
  b : defBody d.st = xiB (xiP (defBody d.st)).1 (xiP (defBody d.st)).2 d.f
  s : defScope d.st = xiS d.f
  line : ((xiP (defBody d.st)).1.q3.endLine == (xiP (defBody d.st)).1.q6.line) = true
  ne1 : d.f ≠ "self"
  ne2 : d.f ≠ "__class__"
  ne3 : d.f ≠ "super"
  ne4 : (d.f == ("__debug__" : Str)) = false
  bnd : ∀ (qual : Str) (doc pm : Value) (an : Option Addr) (cda cc : Addr) (ct : Value) (x : Addr) (v : Value),
    bindArgs (PySem.W.ksFn "__init__" qual (xiA (xiPs (defArgs d.st)).1 (xiPs (defArgs d.st)).2 d.f) (xiB (xiP (defBody d.st)).1 (xiP (defBody d.st)).2 d.f) (xiS d.f) .none .none doc pm an (.ref cda) ct cc) ⟨[.ref x, v], []⟩ = pure [(("self" : Str), .ref x), (d.f, v)]
def xclsB (K : PySem.W.Frag) (C : Addr) : Bool := match K.lookup C with
  | some ⟨cl, _, .cls cd, sl⟩ => decide (cl = .type "type") && ((match cd.mro with
      | .ref C' :: bm => decide (C' = C) && HandSPX.refsVE bm
      | _ => false) && (cd.hasDict && (!cd.hasDel && (match sl.toList with
      | [_, _, _, _, some (.builtin n), _] => decide (n = "ValueError.__new__")
      | _ => false))))
  | _ => false
theorem xclsB_ok {K : PySem.W.Frag} {C : Addr} (h : xclsB K C = true) : ∃ n q N bs bm sn sub ab col dd k0 k1 k2 k3 k5, K.lookup C = some (excClassObj n q C N bs bm true sn sub ab col dd k0 k1 k2 k3 k5 "ValueError.__new__") ∧ HandSPX.refsVE bm = true := by
  unfold xclsB at h
  split at h
  · rename_i cl dd cd sl hl
    obtain ⟨h1, h⟩ := ba h
    obtain ⟨h2, h⟩ := ba h
    obtain ⟨h3, h⟩ := ba h
    obtain ⟨h4, h5⟩ := ba h
    split at h2
    · rename_i C' bm hm
      obtain ⟨h6, h7⟩ := ba h2
      split at h5
      · rename_i k0 k1 k2 k3 n k5 hs
        have e1 := of_decide_eq_true h1
        have e2 := of_decide_eq_true h6
        have e3 := of_decide_eq_true h5
        subst e1 e2 e3
        obtain ⟨nm, bs, mro, ns, qn, hd, sn, sb, ab, col, del⟩ := cd
        dsimp only at hm h3 h4
        subst hm h3
        have h4' : del = false := by simpa using h4
        subst h4'
        have e4 : sl = #[k0, k1, k2, k3, some (.builtin "ValueError.__new__"), k5] := by
          apply Array.ext'
          rw [hs]
        subst e4
        exact ⟨nm, qn, ns, bs, bm, sn, sb, ab, col, dd, k0, k1, k2, k3, k5, hl, h7⟩
      · cases h5
    · cases h2
  · cases h
def fileB (file : Str) : Option Value → Bool
  | some (.str fl _) => file == fl
  | _ => false
theorem fileB_ok {file : Str} {o : Option Value} (h : fileB file o = true) : ∃ fl t, o = some (.str fl t) ∧ (file == fl) = true := by
  unfold fileB at h
  split at h
  · exact ⟨_, _, rfl, h⟩
  · cases h
def xfnB (file : Str) (K : PySem.W.Frag) (C fI : Addr) : Bool := match K.lookup fI with
  | some ⟨_, _, .func fd, _⟩ => (match fd.closure with
      | [(n, cc)] => decide (n = "__class__") && (match K.lookup cc with
        | some ⟨_, _, .cell (some v), _⟩ => decide (v = .ref C)
        | _ => false)
      | _ => false) && ((match fd.defaults with
      | .none => true
      | _ => false) && ((match fd.kwdefaults with
      | .none => true
      | _ => false) && (match fd.code with
      | .ref cda => PySem.W.codeIn K (.ref cda) fd.qualname && (match K.lookup cda with
        | some ⟨_, _, .fields vs, _⟩ => fileB file vs[2]?
        | _ => false)
      | _ => false)))
  | _ => false
def xB (file : Str) (K : PySem.W.Frag) (d : XD) : Bool :=
  eqO (PySem.W.nsIn K mainGlobals d.x) (some (some (.ref (ga K d.x)))) && (xclsB K (ga K d.x) && (eqO (PySem.W.findIn K (.ref (ga K d.x)) "__setattr__") (some (some (.builtin "object.__setattr__"))) &&
  (eqO (PySem.W.findIn K (.ref (ga K d.x)) "__getattribute__") (some (some (.builtin "BaseException.__getattribute__"))) && (eqO (PySem.W.findIn K (.ref (ga K d.x)) "__getattr__") (some none) && (eqO (PySem.W.findIn K (.ref (ga K d.x)) d.f) (some none) &&
  (eqO (PySem.W.findIn K (.ref (ga K d.x)) "__init__") (some (some (.ref (ma K (ga K d.x) "__init__")))) && (decide (PySem.W.typeIn K (.ref (ma K (ga K d.x) "__init__")) = some (.type "function")) && (PySem.W.keepIn K (.ref (ga K d.x)) &&
  (decide (PySem.W.subIn K (.ref (ga K d.x)) (.type "BaseException") = some true) && (decide (PySem.W.typeIn K (.ref (ga K d.x)) = some (.type "type")) && (PySem.W.hasDictIn K (ga K d.x) && (decide (PySem.W.subIn K (.ref (ga K d.x)) (.type "ValueError") = some true) &&
  (decide (PySem.W.mroIn K (ga K d.x) (.ref (ga K d.x)) = some true) && (eqO (PySem.W.nsIn K PySem.cStatics "thirdparty.any") (some none) && (eqO (PySem.W.ks_superIn K (ga K d.x) (ga K d.x) "__init__") (some (some (.builtin "ValueError.__init__"))) && xfnB file K (ga K d.x) (ma K (ga K d.x) "__init__"))))))))))))))))
abbrev FnX : Type := Option (Str × Str × Arguments × FuncBody × Scope × Addr × Addr)
def fnXo (K : PySem.W.Frag) (d : XD) : FnX := match K.lookup (ma K (ga K d.x) "__init__") with
  | some ⟨_, _, .func fd, _⟩ => some (fd.name, fd.qualname, fd.params, fd.body, fd.scope, fd.globals, fd.builtins)
  | _ => none
def XD.val (d : XD) : FnX := some ("__init__", d.x ++ ".__init__", defArgs d.st, .stmts (defBody d.st), defScope d.st, mainGlobals, builtinsNs)
theorem xB_ok {prog : Program} {K : PySem.W.Frag} {mg : Str → Option Value} {h : Heap} {d : XD} (X : K.In h) (G : h.Ns mainGlobals mg) (hx : xB prog.main.file K d = true) (ho : fnXo K d = d.val) (T : XT d) (hS : mg "super" = none) (htop : (prog.main.scope.names.lookup ("super" : Str)).isSome = false) :
    XTxt prog K mg (ga K d.x) (ma K (ga K d.x) "__init__") d.x d.f "ValueError" "ValueError.__new__" "ValueError.__init__" HandSPX.veTail := by
  unfold xB at hx
  obtain ⟨c1, hx⟩ := ba hx
  obtain ⟨c2, hx⟩ := ba hx
  obtain ⟨c3, hx⟩ := ba hx
  obtain ⟨c4, hx⟩ := ba hx
  obtain ⟨c5, hx⟩ := ba hx
  obtain ⟨c6, hx⟩ := ba hx
  obtain ⟨c7, hx⟩ := ba hx
  obtain ⟨c8, hx⟩ := ba hx
  obtain ⟨c9, hx⟩ := ba hx
  obtain ⟨c10, hx⟩ := ba hx
  obtain ⟨c11, hx⟩ := ba hx
  obtain ⟨c12, hx⟩ := ba hx
  obtain ⟨c13, hx⟩ := ba hx
  obtain ⟨c14, hx⟩ := ba hx
  obtain ⟨c15, hx⟩ := ba hx
  obtain ⟨c16, c17⟩ := ba hx
  obtain ⟨n, q, N, bs, bm, sn, sub, ab, col, dd, k0, k1, k2, k3, k5, hK, hr⟩ := xclsB_ok c2
  exact {
    gC := PySem.W.mg_of X G (eqO_ok c1)
    KF := PySem.W.kxs_ValueError
    BF := PySem.F.excBase_ValueError
    cls := ⟨n, q, N, bs, bm, sn, sub, ab, col, dd, k0, k1, k2, k3, k5, hK, fun Y => HandSPX.refsVE_contains Y bm hr, by
      rw [List.contains_cons, HandSPX.refsVE_contains "object" bm hr, show HandSPX.veTail.contains (.type "object") = true by decide +kernel, Bool.or_true], fun self => HandSPX.refsVE_pass self (.ref _ :: bm) hr⟩
    sa := eqO_ok c3
    ga := eqO_ok c4
    gg := eqO_ok c5
    noN := eqO_ok c6
    iC := eqO_ok c7
    tC := of_decide_eq_true c8
    kC := c9
    exC := of_decide_eq_true c10
    tyC := of_decide_eq_true c11
    hdC := c12
    subB := of_decide_eq_true c13
    subC := of_decide_eq_true c14
    opq := eqO_ok c15
    sup := eqO_ok c16
    noS := hS
    top := htop
    nef := T.ne1
    nef2 := T.ne2
    nef3 := T.ne3
    nef4 := T.ne4
    fn := by
      unfold xfnB at c17
      unfold fnXo at ho
      cases qf : K.lookup (ma K (He.ga K d.x) "__init__") with
      | none => rw [qf] at c17; cases c17
      | some o =>
        obtain ⟨oc, od, dt, osl⟩ := o
        rw [qf] at c17 ho
        cases dt with
        | func fd =>
          obtain ⟨n1, n2, n3, n4, n5, n6, n7, n8, n9, n10, n11, n12, n13, n14, n15⟩ := fd
          have e2 : (some (n1, n2, n3, n4, n5, n6, n15) : FnX) = some (("__init__" : Str), d.x ++ ".__init__", defArgs d.st, FuncBody.stmts (defBody d.st), defScope d.st, mainGlobals, builtinsNs) := ho
          simp only [Option.some.injEq, Prod.mk.injEq] at e2
          obtain ⟨h1, h2, h3, h4, h5, h6, h7⟩ := e2
          subst h1 h2 h3 h4 h5 h6 h7
          dsimp only at c17
          obtain ⟨g1, c17⟩ := ba c17
          obtain ⟨g2, c17⟩ := ba c17
          obtain ⟨g3, g4⟩ := ba c17
          cases n7 with
          | nil => cases g1
          | cons z zs => cases zs with
            | cons _ _ => cases g1
            | nil =>
              obtain ⟨zn, cc⟩ := z
              dsimp only at g1
              obtain ⟨g5, g6⟩ := ba g1
              have ez := of_decide_eq_true g5
              subst ez
              have e8 : n8 = .none := by cases n8 <;> first | rfl | cases g2
              have e9 : n9 = .none := by cases n9 <;> first | rfl | cases g3
              subst e8 e9
              cases n13 with
              | ref cda =>
                dsimp only at g4
                obtain ⟨g7, g8⟩ := ba g4
                cases qc : K.lookup cda with
                | none => rw [qc] at g8; cases g8
                | some oc2 =>
                  obtain ⟨a1, a2, a3, a4⟩ := oc2
                  rw [qc] at g8
                  cases a3 with
                  | fields vs =>
                    obtain ⟨fl, tf, hv, hfl⟩ := fileB_ok g8
                    cases qcc : K.lookup cc with
                    | none => rw [qcc] at g6; cases g6
                    | some oc3 =>
                      obtain ⟨b1, b2, b3, b4⟩ := oc3
                      rw [qcc] at g6
                      cases b3 with
                      | cell o =>
                        cases o with
                        | none => cases g6
                        | some v =>
                          have ev := of_decide_eq_true g6
                          subst ev
                          refine ⟨oc, od, n10, n11, n12, cda, cc, n14, osl, (xiPs (defArgs d.st)).1, (xiPs (defArgs d.st)).2, (xiP (defBody d.st)).1, (xiP (defBody d.st)).2, d.x ++ ".__init__", a1, a2, a4, vs, fl, tf, b1, b2, b4, ?_, g7, qc, hv, hfl, qcc, T.line, T.bnd _ _ _ _ _ _ _⟩
                          rw [← T.a, ← T.b, ← T.s]
                          first | done | exact qf
                      | _ => cases g6
                  | _ => cases g8
              | _ => cases g4
        | _ => cases c17 }

abbrev AlM : Type := Bool × List FnW × List FnX
def obsM (file : Str) (fa : List Fa) (fn : List DefD) (xs : List XD) (K : PySem.W.Frag) : AlM := ((fa.all fun f => f.ok K) && ((fn.all fun d => d.ok K) && xs.all fun d => xB file K d), fn.map (fun d => fnW K d.at_), xs.map fun d => fnXo K d)
def valM (fn : List DefD) (xs : List XD) : AlM := (true, fn.map DefD.val, xs.map XD.val)
def SaysM (file : Str) (fa : List Fa) (fn : List DefD) (xs : List XD) (K : PySem.W.Frag) : Prop := obsM file fa fn xs K = valM fn xs
def obsMG (file : Str) (n : Nat) (fa : List Fa) (fn : List DefD) (xs : List XD) (g : Addr → Option Obj) : AlM := obsM file fa fn xs (frG g (PySem.cStatics :: asD g n))
def hookM (file : Str) (n : Nat) (fa : List Fa) (fn : List DefD) (xs : List XD) : PySem.W.Hook where
  α := AlM
  obs := fun s => obsMG file n fa fn xs s.heap.get?
  val := fun _ => valM fn xs
  says := fun _ h => ∃ K : PySem.W.Frag, K.In h ∧ SaysM file fa fn xs K
  of := fun _ _ e => ⟨_, frG_in, e⟩
  keeps := fun _ _ _ ⟨K, hK, c⟩ k => ⟨K, PySem.W.Frag.In.keeps hK k, c⟩
theorem obsMG_eq {file : Str} {n : Nat} {fa : List Fa} {fn : List DefD} {xs : List XD} {g : Addr → Option Obj} {s : Shared} (h : ∀ a, g a = s.heap.get? a) : obsMG file n fa fn xs g = (hookM file n fa fn xs).obs s := by
  have e : g = s.heap.get? := funext h
  rw [e] <;> rfl
section
variable {file : Str} {fa : List Fa} {fn : List DefD} {xs : List XD} {K : PySem.W.Frag}
theorem SaysM.fact (c : SaysM file fa fn xs K) {f : Fa} (h : f ∈ fa) : f.ok K = true := by
  have c1 := (ba (show ((fa.all fun f => f.ok K) && ((fn.all fun d => d.ok K) && xs.all fun d => xB file K d)) = true from congrArg (fun z : AlM => z.1) c)).1
  exact List.all_eq_true.mp c1 f h
theorem SaysM.def_ (c : SaysM file fa fn xs K) {d : DefD} (h : d ∈ fn) : ∃ fd, FunD K d.name d.qual d.params d.body d.scope (d.dvs K) (d.kws K) (fAd K d.at_) fd := by
  have c2 := (ba (ba (show ((fa.all fun f => f.ok K) && ((fn.all fun d => d.ok K) && xs.all fun d => xB file K d)) = true from congrArg (fun z : AlM => z.1) c)).2).1
  have e : fn.map (fun d => fnW K d.at_) = fn.map DefD.val := congrArg (fun z : AlM => z.2.1) c
  obtain ⟨i, hi⟩ := List.mem_iff_getElem?.mp h
  have e2 : (fn.map fun d => fnW K d.at_)[i]? = (fn.map DefD.val)[i]? := by rw [e]
  rw [List.getElem?_map, List.getElem?_map, hi] at e2
  exact DefD.funD (Option.some.inj e2) (List.all_eq_true.mp c2 d h)
theorem SaysM.exc_ (c : SaysM file fa fn xs K) {d : XD} (h : d ∈ xs) : xB file K d = true ∧ fnXo K d = d.val := by
  have c2 := (ba (ba (show ((fa.all fun f => f.ok K) && ((fn.all fun d => d.ok K) && xs.all fun d => xB file K d)) = true from congrArg (fun z : AlM => z.1) c)).2).2
  have e : xs.map (fun d => fnXo K d) = xs.map XD.val := congrArg (fun z : AlM => z.2.2) c
  obtain ⟨i, hi⟩ := List.mem_iff_getElem?.mp h
  have e2 : (xs.map fun d => fnXo K d)[i]? = (xs.map XD.val)[i]? := by rw [e]
  rw [List.getElem?_map, List.getElem?_map, hi] at e2
  exact ⟨List.all_eq_true.mp c2 d h, Option.some.inj e2⟩
end
end DW
end

section
set_option Elab.async false
set_option linter.all false
set_option maxRecDepth 100000
set_option maxHeartbeats 4000000
namespace DW
open PySem PySem.Spec PyProof.Rows L2 He

def BindOk (r : FR) : Prop := ∀ (kV doc pm : Value) (an : Option Addr) (cdv ct : Value) (us : List Value), us.length = r.ps.length →
  bindArgs (PySem.W.fnOf r.nm r.nm (defArgs r.st) (defBody r.st) (defScope r.st) .none kV doc pm an cdv ct) ⟨us, []⟩ = pure (r.ps.zip us) ∧
  bindArgs (PySem.W.fnOf r.nm r.nm (defArgs r.st) (defBody r.st) (defScope r.st) .none kV doc pm an cdv ct) ⟨[], r.ps.zip us⟩ = pure (r.ps.zip us)
def dfOf (r : FR) : DefD := ⟨(r.nm, none), r.nm, r.nm, defArgs r.st, defBody r.st, defScope r.st, [], []⟩
theorem fnArgs_eq {st : Stmt} (h : isDef st = true) : C8.fnArgs st = defArgs st ∧ C8.fnBody st = defBody st ∧ C8.fnScope st = defScope st := by
  cases st <;> first | exact ⟨rfl, rfl, rfl⟩ | cases h

structure LX where
  L : LD
  xs : List XD
  nmK : Nat → Str
  fld : Nat → Str
  hotN : List Str
def LX.sub (Y : LX) (a b : Nat) : Bool := decide (Y.nmK a = Y.nmK b)
def LX.hot (Y : LX) (a : Nat) : Bool := Y.hotN.contains (Y.nmK a)
def consF : Str × D → Option Fa
  | (x, .int i) => some (.int x i)
  | (x, .str z) => some (.str x z)
  | _ => none
def LX.fa (Y : LX) : List Fa := biNames.map .free ++ [.free "super"] ++ Y.L.cons.filterMap consF ++ (Y.xs.flatMap fun p => Y.xs.map fun q => .exm p.x q.x (decide (p.x = q.x))) ++ Y.L.fs.map fun r => .glo r.nm
def LX.fn (Y : LX) : List DefD := Y.L.fs.map dfOf
def LX.hk (Y : LX) (file : Str) : PySem.W.Hook := hookM file 4 Y.fa Y.fn Y.xs

structure LXOk (Y : LX) : Prop where
  chk : (Y.L.fs.all (frB Y.L)) = true
  bnd : ∀ r ∈ Y.L.fs, BindOk r
  xt : ∀ d ∈ Y.xs, XT d
  cons : Y.L.cons.all (fun p => (consF p).isSome) = true
  nm : ∀ k, ∃ d ∈ Y.xs, d.x = Y.nmK k ∧ d.f = Y.fld k
  exc : ∀ x k, Y.L.exc.lookup x = some k → Y.nmK k = x
  hnd : ∀ x k, Y.L.hnd.lookup x = some k → Y.nmK k = x
section
variable {Y : LX} {prog : Program} {w : World} {K : PySem.W.Frag} {h : Heap} {mg : Str → Option Value}
def LX.faN (Y : LX) (K : PySem.W.Frag) (i : Nat) : Addr := ga K ((Y.L.fs[i]?.map (·.nm)).getD "")
def LX.cls (Y : LX) (K : PySem.W.Frag) (k : Nat) : Addr := ga K (Y.nmK k)
theorem lw_of (o : LXOk Y) (X : K.In h) (G : h.Ns mainGlobals mg) (c : SaysM prog.main.file Y.fa Y.fn Y.xs K) (htop : (prog.main.scope.names.lookup ("super" : Str)).isSome = false) :
    ∃ fdt : Nat → FuncData, LW prog w K mg Y.L Y.sub Y.fld Y.hot (Y.cls K) (Y.faN K) fdt := by
  have hfree : ∀ x, Fa.free x ∈ Y.fa → mg x = none := fun x hx => free_ok X G (c.fact hx)
  have hS : mg "super" = none := hfree _ (by unfold LX.fa; simp)
  have hx : ∀ d ∈ Y.xs, XTxt prog K mg (ga K d.x) (ma K (ga K d.x) "__init__") d.x d.f "ValueError" "ValueError.__new__" "ValueError.__init__" HandSPX.veTail := fun d hd => by
    obtain ⟨h1, h2⟩ := c.exc_ hd
    exact xB_ok X G h1 h2 (o.xt d hd) hS htop
  have hexm : ∀ p ∈ Y.xs, ∀ q ∈ Y.xs, PySem.W.exmOne K (.ref (ga K p.x)) (.ref (ga K q.x)) = some (decide (p.x = q.x)) := fun p hp q hq => exm_ok (c.fact (by
    unfold LX.fa
    refine List.mem_append_left _ (List.mem_append_right _ (List.mem_flatMap.mpr ⟨p, hp, List.mem_map.mpr ⟨q, hq, rfl⟩⟩))))
  have hdef : ∀ r ∈ Y.L.fs, ∃ fd, FunD K r.nm r.nm (defArgs r.st) (defBody r.st) (defScope r.st) [] [] (ga K r.nm) fd := fun r hr => c.def_ (d := dfOf r) (List.mem_map.mpr ⟨r, hr, rfl⟩)
  have hglo : ∀ r ∈ Y.L.fs, mg r.nm = some (.ref (ga K r.nm)) := fun r hr => glo_ok X G (c.fact (by
    unfold LX.fa
    exact List.mem_append_right _ (List.mem_map.mpr ⟨r, hr, rfl⟩)))
  have hdef2 : ∀ (i : Nat), ∃ fd, ∀ (r : FR), Y.L.fs[i]? = some r → FunD K r.nm r.nm (defArgs r.st) (defBody r.st) (defScope r.st) [] [] (ga K r.nm) fd := fun i => by
    cases q : Y.L.fs[i]? with
    | none => exact ⟨default, fun r e => by cases e⟩
    | some r =>
      obtain ⟨fd, hfd⟩ := hdef r (List.mem_of_getElem? q)
      exact ⟨fd, fun r' e => by cases e; exact hfd⟩
  refine ⟨fun i => Classical.choose (hdef2 i), ?_⟩
  have hfd : ∀ (i : Nat) (r : FR), Y.L.fs[i]? = some r → FunD K r.nm r.nm (defArgs r.st) (defBody r.st) (defScope r.st) [] [] (ga K r.nm) (Classical.choose (hdef2 i)) := fun i => Classical.choose_spec (hdef2 i)
  exact {
    bi := fun x hx => hfree x (by unfold LX.fa; simp only [List.mem_append, List.mem_map]; exact .inl (.inl (.inl (.inl ⟨x, hx, rfl⟩))))
    cons := fun x d hd => by
      have hm := PySem.mem_of_lookup hd
      have hc := List.all_eq_true.mp o.cons _ hm
      obtain ⟨f, hf⟩ := Option.isSome_iff_exists.mp hc
      have hin : f ∈ Y.fa := by
        unfold LX.fa
        exact List.mem_append_left _ (List.mem_append_left _ (List.mem_append_right _ (List.mem_filterMap.mpr ⟨_, hm, hf⟩)))
      cases d with
      | int i =>
        cases hf
        obtain ⟨t, e⟩ := int_ok X G (c.fact hin)
        exact ⟨_, .int i, e, ⟨t, rfl⟩, fun _ _ => .int i⟩
      | str z =>
        cases hf
        obtain ⟨t, e⟩ := str_ok X G (c.fact hin)
        exact ⟨_, .str z, e, ⟨t, rfl⟩, fun _ _ => .str z⟩
      | _ => cases hf
    hi := fun a b e => by
      obtain ⟨p, hp, p1, _⟩ := o.nm a
      obtain ⟨q, hq, q1, _⟩ := o.nm b
      have e1 := hexm p hp q hq
      have e2 := hexm p hp p hp
      have e3 : ga K p.x = ga K q.x := by rw [p1, q1]; exact e
      rw [← e3, e2] at e1
      have e4 : p.x = q.x := by
        have := Option.some.inj e1
        by_cases z : p.x = q.x
        · exact z
        · rw [decide_eq_false z, decide_eq_true rfl] at this; cases this
      unfold LX.hot
      rw [← p1, ← q1, e4]
    exc := fun x k hk => by
      obtain ⟨d, hd, d1, d2⟩ := o.nm k
      have e := o.exc x k hk
      refine ⟨ma K (ga K d.x) "__init__", "ValueError", "ValueError.__new__", "ValueError.__init__", HandSPX.veTail, ?_⟩
      have T := hx d hd
      rw [← e]
      unfold LX.cls
      rw [← d1, ← d2]
      exact T
    hnd := fun x k hk => by
      obtain ⟨d, hd, d1, d2⟩ := o.nm k
      have e := o.hnd x k hk
      refine ⟨.ref (ga K d.x), by rw [← e, ← d1]; exact (hx d hd).gC, fun j => ?_⟩
      obtain ⟨p, hp, p1, _⟩ := o.nm j
      have := hexm p hp d hd
      unfold LX.cls LX.sub
      rw [← p1, ← d1]
      exact this
    xfc := fun k => by
      obtain ⟨d, hd, d1, d2⟩ := o.nm k
      have T := hx d hd
      unfold LX.cls
      rw [← d1, ← d2]
      exact ⟨⟨T.ga, T.gg, T.exC, T.hdC⟩, T.noN⟩
    chk := fun r hr => List.all_eq_true.mp o.chk r hr
    defs := fun i r hr => by
      have F := hfd i r hr
      have hm := List.mem_of_getElem? hr
      have hdf : isDef r.st = true := by
        have := List.all_eq_true.mp o.chk r hm
        unfold frB at this
        simp only [Bool.and_eq_true] at this
        exact this.1.1.1.1
      obtain ⟨a1, a2, a3⟩ := fnArgs_eq hdf
      have ef : Y.faN K i = ga K r.nm := by unfold LX.faN; rw [hr]; rfl
      rw [ef]
      refine ⟨⟨⟨?_⟩, hglo r hm, F.kp⟩, F.bindsN fun kV doc pm an cdv ct us hl => (o.bnd r hm kV doc pm an cdv ct us hl).1, fun ws hl => ?_⟩
      · obtain ⟨oc, od, dV, kV, doc, pm, an, cdv, ct, osl, e, lk, hcd, _, _⟩ := F.ex
        exact ⟨oc, od, dV, kV, doc, pm, an, cdv, ct, osl, by rw [a1, a2, a3]; exact e, lk, hcd⟩
      · obtain ⟨oc, od, dV, kV, doc, pm, an, cdv, ct, osl, e, lk, hcd, hD, _⟩ := F.ex
        have e0 : dV = .none := by
          rcases hD with ⟨_, z⟩ | ⟨z, _⟩
          · exact z
          · exact absurd rfl z
        subst e0
        rw [e]
        exact ⟨(o.bnd r hm kV doc pm an cdv ct ws hl).2, (o.bnd r hm kV doc pm an cdv ct ws hl).1⟩ }
theorem FnOk.cx {P : Program} {w : World} {K : PySem.W.Frag} {mg : Str → Option Value} {base : Heap} {CX CX' : CXT} {k : Nat} {f : Addr} {fd : FuncData} {ps : List Str} {sp : Sp} (F : FnOk P w K mg base CX k f fd ps sp) (hc : ∀ o H s E u s', CX o H s E u s' → CX' o H s E u s') : FnOk P w K mg base CX' k f fd ps sp :=
  ⟨F.len, fun A outer s H args us vs Q E hr he hb hv hs => codeAny_mono (F.run A outer s H args us vs Q E hr he hb hv hs) fun r s' q => by
    cases r with
    | error e => exact hc _ _ _ _ _ _ q
    | ok fl => cases fl <;> exact q⟩

def CXa : CXT := fun o H s E u s' => ∃ (P : Program) (w : World) (hot : Nat → Bool) (cls : Nat → Addr), CXm P w hot cls o H s E u s'
theorem CXa_no {H : Hp} {s : Shared} {e : Value} {s' : Shared} (h : CXa [] H s (fun _ _ _ => False) e s') : False := by
  obtain ⟨P, w, hot, cls, h⟩ := h
  rcases h with h | h
  · obtain ⟨_, _, _, _, _, _, _, _, _, _, _, _, z⟩ := h; exact z
  · obtain ⟨_, _, _, _, _, _, _, _, _, _, _, _, z⟩ := h; exact z.2

theorem law_end {fi k : Nat} {Q : VK} {H : Hp} {a : Addr} {ns : List Int} (hO : Only H) (hS : SqL K H a (ns.map V.int)) (hrun : ∃ S, run Y.L.T Y.sub Y.fld Y.hot k fi [.frz (ns.map D.int)] [] = .ok (.bl true) S) (hQ : ∀ H', Q (.bl true) H') :
    spOf K Y.fld (Y.cls K) (run Y.L.T Y.sub Y.fld Y.hot k fi) [.ref a] H Q (fun _ _ _ => False) := by
  obtain ⟨S, hr⟩ := hrun
  have rints : ∀ l : List Int, RVs K ⟨[], []⟩ H (l.map V.int) (l.map D.int) := fun l => by
    induction l with
    | nil => exact .nil
    | cons i l ih => exact .cons (.int i) ih
  have rv : RV K ⟨[], []⟩ H (.ref a) (.frz (ns.map D.int)) := by
    refine .frz ?_ (rints ns)
    rcases hS with (h1 | ⟨o, h1⟩) | hk
    · rcases hO a with h2 | ⟨o, xs, h2⟩
      · rw [h1] at h2; cases h2
      · rw [h1] at h2; cases h2
    · exact .inl ⟨by simp, o, h1⟩
    · exact .inr fun H' => .inr hk
  refine ⟨⟨[], []⟩, [], [.frz (ns.map D.int)], ⟨rfl, List.nodup_nil, fun b hb => by simp at hb, fun i b o h => by simp at h⟩, .cons rv .nil, ?_⟩
  rw [hr]
  intro w' H' v _ _ r
  cases r
  exact hQ H'
end
end DW
end

section
set_option Elab.async false
set_option linter.all false
namespace DW
open PySem (Str)
mutual
def D.pln : D → Bool
  | .tup xs => D.plns xs
  | .lst xs => D.plns xs
  | .frz _ => false
  | .ref _ => false
  | .exn => false
  | _ => true
def D.plns : List D → Bool
  | [] => true
  | x :: xs => D.pln x && D.plns xs
end
mutual
theorem D.pln_und (n : Nat) : ∀ {d : D}, d.pln = true → d.und n = true
  | .non, _ | .bl _, _ | .int _, _ | .str _, _ => by simp [D.und]
  | .tup xs, h | .lst xs, h => by simp [D.pln] at h; simp [D.und, D.plns_unds n h]
  | .frz _, h | .ref _, h | .exn, h => by simp [D.pln] at h
theorem D.plns_unds (n : Nat) : ∀ {ds : List D}, D.plns ds = true → D.unds n ds = true
  | [], _ => by simp [D.unds]
  | x :: xs, h => by simp [D.plns] at h; simp [D.unds, D.pln_und n h.1, D.plns_unds n h.2]
end
def D.isx : D → Bool
  | .exn => true
  | _ => false
theorem isx_non : D.isx .non = false := rfl
theorem isx_bl (b : Bool) : D.isx (.bl b) = false := rfl
theorem isx_int (b : Int) : D.isx (.int b) = false := rfl
theorem isx_str (b : Str) : D.isx (.str b) = false := rfl
theorem isx_tup (b : List D) : D.isx (.tup b) = false := rfl
theorem isx_lst (b : List D) : D.isx (.lst b) = false := rfl
theorem isx_frz (b : List D) : D.isx (.frz b) = false := rfl
theorem isx_ref (b : Nat) : D.isx (.ref b) = false := rfl
theorem isx_exn : D.isx .exn = true := rfl
theorem D.pln_isx {d : D} (h : d.pln = true) : d.isx = false := by cases d <;> simp [D.pln, D.isx] at *
theorem D.plns_iff {xs : List D} : D.plns xs = true ↔ ∀ x ∈ xs, x.pln = true := by
  induction xs with
  | nil => simp [D.plns]
  | cons x xs ih => simp [D.plns, ih]
theorem gc_self (S : Store) (d : D) : gc S S d = S := by unfold gc; split <;> rfl
theorem gc_app {S X : Store} {d : D} (h : d.pln = true) : gc S (S ++ X) d = S := by
  unfold gc; rw [if_pos]; simp [D.pln_und _ h]

theorem gc_pre {S S' : Store} {d : D} (h : d.pln = true) (hp : S'.take S.length = S) : gc S S' d = S := by
  unfold gc; rw [if_pos]; simp [D.pln_und _ h, hp]
theorem fin_rt {S : Store} {d : D} (h : d.pln = true) : fin S (.rt d S) = .ok d S := by
  simp [fin, D.pln_und _ h, gc_self]
theorem fin_rt_app {S X : Store} {d : D} (h : d.pln = true) : fin S (.rt d (S ++ X)) = .ok d S := by
  simp only [fin, D.pln_und _ h, gc_app h, if_true]
theorem fin_exc {S : Store} {c : Nat} {d : D} {ρ : Env} (h : d.pln = true) : fin S (.exc c d ρ S) = .exc c d S := by
  simp [fin, D.pln_und _ h, gc_self]
theorem fin_exc_app {S X : Store} {c : Nat} {d : D} {ρ : Env} (h : d.pln = true) : fin S (.exc c d ρ (S ++ X)) = .exc c d S := by
  simp only [fin, D.pln_und _ h, gc_app h, if_true]
theorem fin_rt_pre {S S' : Store} {d : D} (h : d.pln = true) (hp : S'.take S.length = S) : fin S (.rt d S') = .ok d S := by
  simp only [fin, D.pln_und _ h, gc_pre h hp, if_true]
theorem fin_exc_pre {S S' : Store} {c : Nat} {d : D} {ρ : Env} (h : d.pln = true) (hp : S'.take S.length = S) : fin S (.exc c d ρ S') = .exc c d S := by
  simp only [fin, D.pln_und _ h, gc_pre h hp, if_true]
theorem run_at {T : List Fn} {sub : Nat → Nat → Bool} {fld : Nat → Str} {hot : Nat → Bool} {k f p s : Nat} {b : CSs} {vs : List D} {S : Store}
    (h : T[f]? = some ⟨p, s, b⟩) (hv : vs.length = p) :
    run T sub fld hot (k + 1) f vs S = fin S (exs ⟨run T sub fld hot k, sub, fld, hot⟩ none b (vs.map some ++ List.replicate (s - p) none) S) := by
  simp only [run, h, hv, if_true]
theorem ev_var (G : GX) (cur : Cur) (i : Nat) (ρ : Env) (S : Store) :
    ev G cur (.var i) ρ S = match ρ[i]? with
      | some (some d) => if d.isx then .bad "a held error" else .ok (.val d) S
      | _ => .bad "an empty name" := by
  rw [ev]
  split <;> rename_i h <;> simp [h, D.isx] <;> split <;> rename_i h2 <;> simp_all [D.isx]
theorem e_cst (G : GX) (cur : Cur) (d : D) (ρ : Env) (S : Store) : ev G cur (.cst d) ρ S = (.ok (.val d) S) := by
  first | (simp only [ev]; done) | (simp only [ev]; rfl)
theorem e_bin (G : GX) (cur : Cur) (o : BOp) (a b : CE) (ρ : Env) (S : Store) : ev G cur (.bin o a b) ρ S = ((ev G cur a ρ S).bind fun x S => (ev G cur b ρ S).bind fun y S => .opt "bin" (binW S o x.d y.d) S) := by
  first | (simp only [ev]; done) | (simp only [ev]; rfl)
theorem e_neg (G : GX) (cur : Cur) (a : CE) (ρ : Env) (S : Store) : ev G cur (.neg a) ρ S = ((ev G cur a ρ S).bind fun x S => match x.d with
      | .int i => .ok (.val (.int (-i))) S
      | _ => .bad "neg") := by
  first | (simp only [ev]; done) | (simp only [ev]; rfl)
theorem e_cmp (G : GX) (cur : Cur) (o : COp) (a b : CE) (ρ : Env) (S : Store) : ev G cur (.cmp o a b) ρ S = ((ev G cur a ρ S).bind fun x S => (ev G cur b ρ S).bind fun y S => .opt "cmp" ((cmpD S o x.d y.d).map fun r => .val (.bl r)) S) := by
  first | (simp only [ev]; done) | (simp only [ev]; rfl)
theorem e_chn (G : GX) (cur : Cur) (o p : COp) (a b c : CE) (ρ : Env) (S : Store) : ev G cur (.chn o p a b c) ρ S = ((ev G cur a ρ S).bind fun x S => (ev G cur b ρ S).bind fun y S => match cmpD S o x.d y.d with
      | some true => (ev G cur c ρ S).bind fun z S => .opt "cmp" ((cmpD S p y.d z.d).map fun r => .val (.bl r)) S
      | some false => .ok (.val (.bl false)) S
      | none => .bad "cmp") := by
  first | (simp only [ev]; done) | (simp only [ev]; rfl)
theorem e_and (G : GX) (cur : Cur) (a b : CE) (ρ : Env) (S : Store) : ev G cur (.and a b) ρ S = ((ev G cur a ρ S).bind fun x S => match tru S x.d with
      | some true => ev G cur b ρ S
      | some false => .ok (.val x.d) S
      | none => .bad "truth") := by
  first | (simp only [ev]; done) | (simp only [ev]; rfl)
theorem e_or (G : GX) (cur : Cur) (a b : CE) (ρ : Env) (S : Store) : ev G cur (.or a b) ρ S = ((ev G cur a ρ S).bind fun x S => match tru S x.d with
      | some true => .ok (.val x.d) S
      | some false => ev G cur b ρ S
      | none => .bad "truth") := by
  first | (simp only [ev]; done) | (simp only [ev]; rfl)
theorem e_not (G : GX) (cur : Cur) (a : CE) (ρ : Env) (S : Store) : ev G cur (.not a) ρ S = ((ev G cur a ρ S).bind fun x S => match tru S x.d with
      | some k => .ok (.val (.bl (!k))) S
      | none => .bad "truth") := by
  first | (simp only [ev]; done) | (simp only [ev]; rfl)
theorem e_ite (G : GX) (cur : Cur) (c a b : CE) (ρ : Env) (S : Store) : ev G cur (.ite c a b) ρ S = ((ev G cur c ρ S).bind fun x S => match tru S x.d with
      | some true => ev G cur a ρ S
      | some false => ev G cur b ρ S
      | none => .bad "truth") := by
  first | (simp only [ev]; done) | (simp only [ev]; rfl)
theorem e_tup (G : GX) (cur : Cur) (es : CEs) (ρ : Env) (S : Store) : ev G cur (.tup es) ρ S = ((evs G cur es ρ S).bind fun xs S => if xs.length ≤ LINE then .ok (.val (.tup xs)) S else .bad "size") := by
  first | (simp only [ev]; done) | (simp only [ev]; rfl)
theorem e_lst (G : GX) (cur : Cur) (es : CEs) (ρ : Env) (S : Store) : ev G cur (.lst es) ρ S = ((evs G cur es ρ S).bind fun xs S => if xs.length ≤ LINE then .ok (.new xs) S else .bad "size") := by
  first | (simp only [ev]; done) | (simp only [ev]; rfl)
theorem e_new (G : GX) (cur : Cur) (e : CE) (ρ : Env) (S : Store) : ev G cur (.new e) ρ S = ((ev G cur e ρ S).bind fun x S => match x with
      | .new xs => .ok (.val (.ref S.length)) (S ++ [.lst xs])
      | .val _ => .bad "no new list") := by
  first | (simp only [ev]; done) | (simp only [ev]; rfl)
theorem e_dct (G : GX) (cur : Cur) (t : Bool) (ks vs : CEs) (ρ : Env) (S : Store) : ev G cur (.dct t ks vs) ρ S = ((evs G cur ks ρ S).bind fun xs S => (evs G cur vs ρ S).bind fun ys S =>
        if xs.all (keyOk t) && decide (xs.length = ys.length) && decide (xs.length ≤ 15) then .ok (.val (.ref S.length)) (S ++ [.dct t ((xs.zip ys).foldl (fun acc kv => dput acc kv.1 kv.2) [])]) else .bad "dict") := by
  first | (simp only [ev]; done) | (simp only [ev]; rfl)
theorem e_ix (G : GX) (cur : Cur) (a i : CE) (ρ : Env) (S : Store) : ev G cur (.ix a i) ρ S = ((ev G cur a ρ S).bind fun x S => (ev G cur i ρ S).bind fun y S => .opt "item" ((ixD S x.d y.d).map .val) S) := by
  first | (simp only [ev]; done) | (simp only [ev]; rfl)
theorem e_sl (G : GX) (cur : Cur) (a lo hi : CE) (ρ : Env) (S : Store) : ev G cur (.sl a lo hi) ρ S = ((ev G cur a ρ S).bind fun x S => ((ev G cur lo ρ S).bind fun l S => .opt "slice" (partOf lo l.d) S).bind fun l S =>
        ((ev G cur hi ρ S).bind fun h S => .opt "slice" (partOf hi h.d) S).bind fun h S => .opt "slice" (slD S x.d l h) S) := by
  first | (simp only [ev]; done) | (simp only [ev]; rfl)
theorem e_call (G : GX) (cur : Cur) (f : Nat) (es : CEs) (ρ : Env) (S : Store) : ev G cur (.call f es) ρ S = ((evs G cur es ρ S).bind fun xs S => (G.call f xs S).bind fun d S => .ok (.val d) S) := by
  first | (simp only [ev]; done) | (simp only [ev]; rfl)
theorem e_bi (G : GX) (cur : Cur) (b : BI) (es : CEs) (ρ : Env) (S : Store) : ev G cur (.bi b es) ρ S = ((evs G cur es ρ S).bind fun xs S => .opt "built-in" (biD S b xs) S) := by
  first | (simp only [ev]; done) | (simp only [ev]; rfl)
theorem e_mt (G : GX) (cur : Cur) (m : Mt) (o : CE) (es : CEs) (ρ : Env) (S : Store) : ev G cur (.mt m o es) ρ S = ((ev G cur o ρ S).bind fun x S => if rcvOk S m x.d then (evs G cur es ρ S).bind fun xs S => .opt "method" (mtD S m x.d xs) S else .bad "method") := by
  first | (simp only [ev]; done) | (simp only [ev]; rfl)
theorem e_app (G : GX) (cur : Cur) (o e : CE) (ρ : Env) (S : Store) : ev G cur (.app o e) ρ S = ((ev G cur o ρ S).bind fun x S => if (lstOf S x.d).isSome = false then .bad "append" else (ev G cur e ρ S).bind fun y S => match x.d with
      | .ref n => match S[n]? with
        | some (.lst xs) => if xs.length < LINE then .ok (.val .non) (S.set n (.lst (xs ++ [y.d]))) else .bad "size"
        | _ => .bad "append"
      | _ => .bad "append") := by
  first | (simp only [ev]; done) | (simp only [ev]; rfl)
theorem e_isi (G : GX) (cur : Cur) (a : CE) (t : String) (ρ : Env) (S : Store) : ev G cur (.isi a t) ρ S = ((ev G cur a ρ S).bind fun x S => .opt "isinstance" ((isiD S t x.d).map fun k => .val (.bl k)) S) := by
  first | (simp only [ev]; done) | (simp only [ev]; rfl)

def bodyF (G : GX) (cur : Cur) (t : Tg) (b : CSs) : D → Env → Store → RS := fun x ρ S => match bindT t x ρ with
  | some ρ' => exs G cur b ρ' S
  | none => .bad "target"
def condF (G : GX) (cur : Cur) (c : CE) : Env → Store → R Bool := fun ρ S => (ev G cur c ρ S).bind fun x S => .opt "truth" (tru S x.d) S

def compF (G : GX) (cur : Cur) (own : List Nat) (tg : Tg) (c el : CE) (ρ : Env) : D → Store → R (Option D) := fun x S => match bindT tg x (wipe ρ own) with
  | some ρ' => (ev G cur c ρ' S).bind fun b S => match tru S b.d with
    | some true => (ev G cur el ρ' S).bind fun y S => .ok (some y.d) S
    | some false => .ok none S
    | none => .bad "truth"
  | none => .bad "target"
theorem e_comp (G : GX) (cur : Cur) (own : List Nat) (tg : Tg) (k : IK) (it : CEs) (c el : CE) (ρ : Env) (S : Store) : ev G cur (.comp own tg k it c el) ρ S =
    ((evs G cur it ρ S).bind fun vs S => match itemsOf S k vs with
      | some (xs, g) => if xs.length ≤ LINE then (compL g (compF G cur own tg c el ρ) xs S).bind fun ys S => .ok (.new ys) S else .bad "size"
      | none => .bad "walk") := by
  first | (simp only [ev]; done) | (simp only [ev]; rfl)
theorem hidden {α : Type} (a : α) : ∃ x : α, x = a := ⟨a, rfl⟩

noncomputable def compR : GX → Cur → List Nat → Tg → IK → CE → CE → Env → List D → Store → R WV := Classical.choose (hidden fun (G : GX) (cur : Cur) (own : List Nat) (tg : Tg) (k : IK) (c el : CE) (ρ : Env) (vs : List D) (S : Store) => (match itemsOf S k vs with
  | some (xs, g) => if xs.length ≤ LINE then (compL g (compF G cur own tg c el ρ) xs S).bind fun ys S => .ok (.new ys) S else .bad "size"
  | none => .bad "walk" : R WV))
theorem compR_eq : compR = fun (G : GX) (cur : Cur) (own : List Nat) (tg : Tg) (k : IK) (c el : CE) (ρ : Env) (vs : List D) (S : Store) => (match itemsOf S k vs with
  | some (xs, g) => if xs.length ≤ LINE then (compL g (compF G cur own tg c el ρ) xs S).bind fun ys S => .ok (.new ys) S else .bad "size"
  | none => .bad "walk" : R WV) := Classical.choose_spec (hidden _)
noncomputable def loopX : IK → List D → (D → Env → Store → RS) → Env → Store → RS := Classical.choose (hidden loopR)
theorem loopX_eq : loopX = loopR := Classical.choose_spec (hidden loopR)
theorem e_comp_seq (G : GX) (cur : Cur) (own : List Nat) (tg : Tg) (it : CEs) (c el : CE) (ρ : Env) (S : Store) : ev G cur (.comp own tg .seq it c el) ρ S =
    ((evs G cur it ρ S).bind fun vs S => match itemsOf S .seq vs with
      | some (xs, g) => if xs.length ≤ LINE then (compL g (compF G cur own tg c el ρ) xs S).bind fun ys S => .ok (.new ys) S else .bad "size"
      | none => .bad "walk") := e_comp G cur own tg .seq it c el ρ S
theorem e_compX (G : GX) (cur : Cur) (own : List Nat) (tg : Tg) (k : IK) (it : CEs) (c el : CE) (ρ : Env) (S : Store) : ev G cur (.comp own tg k it c el) ρ S =
    ((evs G cur it ρ S).bind fun vs S => compR G cur own tg k c el ρ vs S) := by
  rw [compR_eq]; exact e_comp G cur own tg k it c el ρ S
theorem e_comp_rng (G : GX) (cur : Cur) (own : List Nat) (tg : Tg) (it : CEs) (c el : CE) (ρ : Env) (S : Store) : ev G cur (.comp own tg .rng it c el) ρ S =
    ((evs G cur it ρ S).bind fun vs S => compR G cur own tg .rng c el ρ vs S) := e_compX G cur own tg .rng it c el ρ S
theorem e_comp_enum (G : GX) (cur : Cur) (own : List Nat) (tg : Tg) (it : CEs) (c el : CE) (ρ : Env) (S : Store) : ev G cur (.comp own tg .enum it c el) ρ S =
    ((evs G cur it ρ S).bind fun vs S => compR G cur own tg .enum c el ρ vs S) := e_compX G cur own tg .enum it c el ρ S
theorem e_comp_zip (G : GX) (cur : Cur) (own : List Nat) (tg : Tg) (it : CEs) (c el : CE) (ρ : Env) (S : Store) : ev G cur (.comp own tg .zip it c el) ρ S =
    ((evs G cur it ρ S).bind fun vs S => compR G cur own tg .zip c el ρ vs S) := e_compX G cur own tg .zip it c el ρ S
theorem compR_of {G : GX} {cur : Cur} {own : List Nat} {tg : Tg} {k : IK} {c el : CE} {ρ : Env} {vs : List D} {S : Store} {xs : List D} {g : Gd}
    (h : itemsOf S k vs = some (xs, g)) (hl : xs.length ≤ LINE) : compR G cur own tg k c el ρ vs S = (compL g (compF G cur own tg c el ρ) xs S).bind fun ys S => .ok (.new ys) S := by
  rw [compR_eq]
  simp only [h, hl, if_true]
theorem items_rng (S : Store) {n : Nat} (h : n ≤ 1000000) : itemsOf S .rng [.int ((n : Nat) : Int)] = some ((List.range n).map (fun i => D.int ((i : Nat) : Int)), []) := by
  have hc : -I62 ≤ ((n : Nat) : Int) ∧ ((n : Nat) : Int) < I62 := by simp only [I62]; omega
  simp only [itemsOf]
  rw [if_pos hc, Int.toNat_natCast]
  simp [rngD]
theorem compR_rng {G : GX} {cur : Cur} {own : List Nat} {tg : Tg} {c el : CE} {ρ : Env} {S : Store} {n : Nat} (hn : n ≤ 1000000) :
    compR G cur own tg .rng c el ρ [.int ((n : Nat) : Int)] S = (compL [] (compF G cur own tg c el ρ) ((List.range n).map (fun i => D.int ((i : Nat) : Int))) S).bind fun ys S => .ok (.new ys) S :=
  compR_of (items_rng S hn) (by have hL : LINE = 16777216 := rfl; simp; omega)
theorem loopR_of {k : IK} {vs : List D} {f : D → Env → Store → RS} {ρ : Env} {S : Store} {p : List D × Gd} (hk : k ≠ .seq) (h : itemsOf S k vs = some p) :
    loopR k vs f ρ S = forL p.2 f p.1 ρ S := by
  unfold loopR
  split
  · exact absurd rfl hk
  · rw [h]
theorem loopX_rng {f : D → Env → Store → RS} {ρ : Env} {S : Store} {n : Nat} (hn : n ≤ 1000000) :
    loopX .rng [.int ((n : Nat) : Int)] f ρ S = forL [] f ((List.range n).map (fun i => D.int ((i : Nat) : Int))) ρ S := by
  rw [loopX_eq, loopR_of (by decide) (items_rng S hn)]
theorem e_xfld (G : GX) (cur : Cur) (i : Nat) (f : Str) (ρ : Env) (S : Store) : ev G cur (.xfld i f) ρ S = (match ρ[i]?, cur with
      | some (some .exn), some (c, v) => if G.fld c = f then .ok (.val v) S else .bad "field"
      | _, _ => .bad "field") := by
  first | (simp only [ev]; done) | (simp only [ev]; rfl)
theorem x_asg (G : GX) (cur : Cur) (t : Tg) (e : CE) (ρ : Env) (S : Store) : ex G cur (.asg t e) ρ S = ((ev G cur e ρ S).to ρ fun x S => match bindT t x.d ρ with
      | some ρ' => .nx ρ' S
      | none => .bad "target") := by
  first | (simp only [ex]; done) | (simp only [ex]; rfl)
theorem x_put (G : GX) (cur : Cur) (o i e : CE) (ρ : Env) (S : Store) : ex G cur (.put o i e) ρ S = ((ev G cur e ρ S).to ρ fun v S => (ev G cur o ρ S).to ρ fun x S => (ev G cur i ρ S).to ρ fun y S => match putD S x.d y.d v.d with
      | some S => .nx ρ S
      | none => .bad "store") := by
  first | (simp only [ex]; done) | (simp only [ex]; rfl)
theorem x_xpr (G : GX) (cur : Cur) (e : CE) (ρ : Env) (S : Store) : ex G cur (.xpr e) ρ S = ((ev G cur e ρ S).to ρ fun _ S => .nx ρ S) := by
  first | (simp only [ex]; done) | (simp only [ex]; rfl)
theorem x_ret (G : GX) (cur : Cur) (e : CE) (ρ : Env) (S : Store) : ex G cur (.ret e) ρ S = ((ev G cur e ρ S).to ρ fun x S => .rt x.d S) := by
  first | (simp only [ex]; done) | (simp only [ex]; rfl)
theorem x_cond (G : GX) (cur : Cur) (c : CE) (a b : CSs) (ρ : Env) (S : Store) : ex G cur (.cond c a b) ρ S = ((ev G cur c ρ S).to ρ fun x S => match tru S x.d with
      | some true => exs G cur a ρ S
      | some false => exs G cur b ρ S
      | none => .bad "truth") := by
  first | (simp only [ex]; done) | (simp only [ex]; rfl)
theorem x_loop (G : GX) (cur : Cur) (t : Tg) (k : IK) (it : CEs) (b : CSs) (ρ : Env) (S : Store) : ex G cur (.loop t k it b) ρ S = ((evs G cur it ρ S).to ρ fun vs S => loopR k vs (bodyF G cur t b) ρ S) := by
  first | (simp only [ex]; done) | (simp only [ex]; rfl)
theorem x_loopX (G : GX) (cur : Cur) (t : Tg) (k : IK) (it : CEs) (b : CSs) (ρ : Env) (S : Store) : ex G cur (.loop t k it b) ρ S = ((evs G cur it ρ S).to ρ fun vs S => loopX k vs (bodyF G cur t b) ρ S) := by
  rw [loopX_eq]; exact x_loop G cur t k it b ρ S
theorem x_loop_rng (G : GX) (cur : Cur) (t : Tg) (it : CEs) (b : CSs) (ρ : Env) (S : Store) : ex G cur (.loop t .rng it b) ρ S = ((evs G cur it ρ S).to ρ fun vs S => loopX .rng vs (bodyF G cur t b) ρ S) := x_loopX G cur t .rng it b ρ S
theorem x_loop_seq (G : GX) (cur : Cur) (t : Tg) (it : CEs) (b : CSs) (ρ : Env) (S : Store) : ex G cur (.loop t .seq it b) ρ S = ((evs G cur it ρ S).to ρ fun vs S => loopR .seq vs (bodyF G cur t b) ρ S) := x_loop G cur t .seq it b ρ S
theorem x_loop_enum (G : GX) (cur : Cur) (t : Tg) (it : CEs) (b : CSs) (ρ : Env) (S : Store) : ex G cur (.loop t .enum it b) ρ S = ((evs G cur it ρ S).to ρ fun vs S => loopR .enum vs (bodyF G cur t b) ρ S) := x_loop G cur t .enum it b ρ S
theorem x_loop_zip (G : GX) (cur : Cur) (t : Tg) (it : CEs) (b : CSs) (ρ : Env) (S : Store) : ex G cur (.loop t .zip it b) ρ S = ((evs G cur it ρ S).to ρ fun vs S => loopX .zip vs (bodyF G cur t b) ρ S) := x_loopX G cur t .zip it b ρ S
theorem x_whl (G : GX) (cur : Cur) (c : CE) (b : CSs) (ρ : Env) (S : Store) : ex G cur (.whl c b) ρ S = (whlL (condF G cur c) (exs G cur b) LIM ρ S) := by
  first | (simp only [ex]; done) | (simp only [ex]; rfl)
theorem x_raise (G : GX) (cur : Cur) (c : Nat) (e : CE) (ρ : Env) (S : Store) : ex G cur (.raise c e) ρ S = ((ev G cur e ρ S).to ρ fun x S => .exc c x.d ρ S) := by
  first | (simp only [ex]; done) | (simp only [ex]; rfl)
theorem x_raiseN (G : GX) (cur : Cur) (c : Nat) (e : CE) (ρ : Env) (S : Store) : ex G cur (.raiseN c e) ρ S = ((ev G cur e ρ S).to ρ fun x S => if G.hot c then .exc c x.d ρ S else .bad "raise") := by
  first | (simp only [ex]; done) | (simp only [ex]; rfl)
theorem x_tryx (G : GX) (cur : Cur) (b : CSs) (hs : CHs) (ρ : Env) (S : Store) : ex G cur (.tryx b hs) ρ S = (match exs G cur b ρ S with
      | .exc c v ρ' S' => exh G hs c v ρ' S'
      | r => r) := by
  first | (simp only [ex]; done) | (simp only [ex]; rfl)
theorem x_tryr (G : GX) (cur : Cur) (b : CSs) (h : Nat) (s : CSs) (ρ : Env) (S : Store) : ex G cur (.tryr b h s) ρ S = (match exs G cur b ρ S with
      | .exc c v ρ' S' => if G.sub c h then (if G.hot c then .bad "a hot error" else exs G (some (c, v)) s ρ' S') else (if G.hot c then .exc c v ρ' S' else .bad "an error flies through")
      | r => r) := by
  first | (simp only [ex]; done) | (simp only [ex]; rfl)
theorem x_pass (G : GX) (cur : Cur)  (ρ : Env) (S : Store) : ex G cur (.pass) ρ S = (.nx ρ S) := by
  first | (simp only [ex]; done) | (simp only [ex]; rfl)
theorem x_brk (G : GX) (cur : Cur)  (ρ : Env) (S : Store) : ex G cur (.brk) ρ S = (.bk ρ S) := by
  first | (simp only [ex]; done) | (simp only [ex]; rfl)
theorem x_cont (G : GX) (cur : Cur)  (ρ : Env) (S : Store) : ex G cur (.cont) ρ S = (.ct ρ S) := by
  first | (simp only [ex]; done) | (simp only [ex]; rfl)
theorem xs_nil (G : GX) (cur : Cur) (ρ : Env) (S : Store) : exs G cur .nil ρ S = .nx ρ S := by simp only [exs]
theorem xs_cons (G : GX) (cur : Cur) (s : CS) (r : CSs) (ρ : Env) (S : Store) : exs G cur (.cons s r) ρ S = (ex G cur s ρ S).andThen fun ρ S => exs G cur r ρ S := by simp only [exs]
theorem loopR_enum (xs : List D) (f : D → Env → Store → RS) (ρ : Env) (S : Store) : loopR .enum [.tup xs] f ρ S = forL [] f (enumD xs) ρ S := rfl
theorem loopR_tup (xs : List D) (f : D → Env → Store → RS) (ρ : Env) (S : Store) : loopR .seq [.tup xs] f ρ S = forL [] f xs ρ S := rfl
theorem loopR_lst (xs : List D) (f : D → Env → Store → RS) (ρ : Env) (S : Store) : loopR .seq [.lst xs] f ρ S = forL [] f xs ρ S := rfl

def en : Nat → List D → List D
  | _, [] => []
  | i, x :: xs => .tup [.int (i : Nat), x] :: en (i + 1) xs
theorem enumD_en' : ∀ (xs : List D) (i : Nat), (xs.mapIdx fun j x => D.tup [.int ((i + j : Nat) : Int), x]) = en i xs
  | [], i => rfl
  | x :: xs, i => by
    rw [List.mapIdx_cons, en, ← enumD_en' xs (i + 1)]
    have e : (fun (j : Nat) (x : D) => D.tup [.int ((i + (j + 1) : Nat) : Int), x]) = fun (j : Nat) (x : D) => D.tup [.int ((i + 1 + j : Nat) : Int), x] := by
      funext j x; rw [show i + (j + 1) = i + 1 + j by omega]
    simp only [Nat.add_zero]
    rw [e]
theorem enumD_en (xs : List D) : enumD xs = en 0 xs := by
  rw [← enumD_en' xs 0]; unfold enumD; simp
theorem get_app (S : Store) (o : Ob) (X : Store) : (S ++ o :: X)[S.length]? = some o := by simp
theorem set_app (S : Store) (o o' : Ob) (X : Store) : (S ++ o :: X).set S.length o' = S ++ o' :: X := by simp
theorem bind_ok {α β : Type} (a : α) (S : Store) (k : α → Store → R β) : (R.ok a S).bind k = k a S := rfl
theorem bind_exc {α β : Type} (c : Nat) (v : D) (S : Store) (k : α → Store → R β) : (R.exc c v S).bind k = .exc c v S := rfl
theorem to_ok {α : Type} (ρ : Env) (a : α) (S : Store) (k : α → Store → RS) : (R.ok a S).to ρ k = k a S := rfl
theorem to_exc {α : Type} (ρ : Env) (c : Nat) (v : D) (S : Store) (k : α → Store → RS) : (R.exc c v S : R α).to ρ k = .exc c v ρ S := rfl
theorem opt_some {α : Type} (w : String) (a : α) (S : Store) : R.opt w (some a) S = .ok a S := rfl
theorem then_nx (ρ : Env) (S : Store) (k : Env → Store → RS) : (RS.nx ρ S).andThen k = k ρ S := rfl
theorem then_rt (d : D) (S : Store) (k : Env → Store → RS) : (RS.rt d S).andThen k = .rt d S := rfl
theorem then_exc (c : Nat) (v : D) (ρ : Env) (S : Store) (k : Env → Store → RS) : (RS.exc c v ρ S).andThen k = .exc c v ρ S := rfl
theorem d_val (d : D) : (WV.val d).d = d := rfl
theorem d_new (xs : List D) : (WV.new xs).d = .lst xs := rfl
theorem tru_bl (S : Store) (b : Bool) : tru S (.bl b) = some b := rfl
theorem tru_non (S : Store) : tru S .non = some false := rfl
theorem fin_bl (S : Store) (b : Bool) : fin S (.rt (.bl b) S) = .ok (.bl b) S := fin_rt (by simp [D.pln])
theorem fin_int (S : Store) (b : Int) : fin S (.rt (.int b) S) = .ok (.int b) S := fin_rt (by simp [D.pln])
theorem fin_str (S : Store) (b : Str) : fin S (.rt (.str b) S) = .ok (.str b) S := fin_rt (by simp [D.pln])
theorem fin_non (S : Store) : fin S (.rt .non S) = .ok .non S := fin_rt (by simp [D.pln])
theorem fin_xnon (S : Store) (c : Nat) (ρ : Env) : fin S (.exc c .non ρ S) = .exc c .non S := fin_exc (by simp [D.pln])
theorem fin_xint (S : Store) (c : Nat) (ρ : Env) (i : Int) : fin S (.exc c (.int i) ρ S) = .exc c (.int i) S := fin_exc (by simp [D.pln])
theorem stays_nil (S : Store) : stays S [] = true := rfl

theorem compL_eq {g : Gd} {S : Store} (hg : stays S g = true) {f : D → Store → R (Option D)} {h : D → Option D} : ∀ {xs : List D},
    (∀ x ∈ xs, f x S = .ok (h x) S) → compL g f xs S = .ok (xs.filterMap h) S
  | [], _ => by simp [compL, hg]
  | x :: xs, hx => by
    rw [compL, hx x (by simp), if_pos hg]
    show R.bind _ _ = _
    rw [compL_eq hg (fun y hy => hx y (by simp [hy])), bind_ok]
    cases e : h x <;> simp [List.filterMap_cons, e]
theorem compL_map {g : Gd} {S : Store} (hg : stays S g = true) {f : D → Store → R (Option D)} {h : D → D} {xs : List D}
    (hx : ∀ x ∈ xs, f x S = .ok (some (h x)) S) : compL g f xs S = .ok (xs.map h) S := by
  rw [compL_eq hg (h := fun x => some (h x)) hx]; simp
theorem boolsOf_map {α : Type} (f : α → Bool) : ∀ xs : List α, boolsOf (xs.map fun x => .bl (f x)) = some (xs.map f)
  | [] => rfl
  | x :: xs => by simp only [List.map_cons, boolsOf, boolsOf_map f xs, Option.map_some]

theorem forL_inv {g : Gd} {f : D → Env → Store → RS} (I : List D → Env → Store → Prop) (hI : ∀ xs ρ S, I xs ρ S → stays S g = true)
    (Q : RS → Prop) (h0 : ∀ ρ S, I [] ρ S → Q (.nx ρ S))
    (h1 : ∀ x xs ρ S, I (x :: xs) ρ S → (∃ ρ' S', f x ρ S = .nx ρ' S' ∧ I xs ρ' S') ∨ (∃ d S', f x ρ S = .rt d S' ∧ Q (.rt d S')) ∨ (∃ c v ρ' S', f x ρ S = .exc c v ρ' S' ∧ Q (.exc c v ρ' S'))) :
    ∀ xs ρ S, I xs ρ S → Q (forL g f xs ρ S)
  | [], ρ, S, h => by rw [forL, if_pos (hI _ _ _ h)]; exact h0 _ _ h
  | x :: xs, ρ, S, h => by
    rw [forL, if_pos (hI _ _ _ h)]
    rcases h1 x xs ρ S h with ⟨ρ', S', e, h'⟩ | ⟨d, S', e, h'⟩ | ⟨c, v, ρ', S', e, h'⟩
    · rw [e]; exact forL_inv I hI Q h0 h1 xs ρ' S' h'
    · rw [e]; exact h'
    · rw [e]; exact h'
theorem ixL_0 (x : D) (xs : List D) : ixL (x :: xs) (.int 0) = some x := by
  simp only [ixL, L2.atI, L2.ixN, List.length_cons]; rw [if_pos (by omega), if_pos (by omega)]; rfl
theorem ixL_1 (x y : D) (xs : List D) : ixL (x :: y :: xs) (.int 1) = some y := by
  simp only [ixL, L2.atI, L2.ixN, List.length_cons]; rw [if_pos (by omega), if_pos (by omega)]; rfl
theorem ixL_2 (x y z : D) (xs : List D) : ixL (x :: y :: z :: xs) (.int 2) = some z := by
  simp only [ixL, L2.atI, L2.ixN, List.length_cons]; rw [if_pos (by omega), if_pos (by omega)]; rfl
theorem eqD_int (S : Store) (i j : Int) : eqD S (.int i) (.int j) = some (decide (i = j)) := rfl
theorem eqD_str (S : Store) (i j : Str) : eqD S (.str i) (.str j) = some (decide (i = j)) := rfl
theorem mapM_id {f : D → Option D} : ∀ {xs : List D}, (∀ x ∈ xs, f x = some x) → xs.mapM f = some xs
  | [], _ => rfl
  | x :: xs, h => by
    rw [List.mapM_cons, h x (by simp), mapM_id (fun y hy => h y (by simp [hy]))]; rfl
theorem res_int (S : Store) (n : Nat) (i : Int) : res S (n + 1) (.int i) = some (.int i) := rfl
theorem res_non (S : Store) (n : Nat) : res S (n + 1) .non = some .non := rfl
theorem res_tup {S : Store} {n : Nat} {xs : List D} (h : ∀ x ∈ xs, res S n x = some x) : res S (n + 1) (.tup xs) = some (.tup xs) := by
  rw [res, mapM_id h]; rfl
theorem res_lst {S : Store} {n : Nat} {xs : List D} (h : ∀ x ∈ xs, res S n x = some x) : res S (n + 1) (.lst xs) = some (.lst xs) := by
  rw [res, mapM_id h]; rfl

def isPr : D → Prop
  | .tup [.int _, .int _] => True
  | _ => False
theorem isPr_ex {d : D} (h : isPr d) : ∃ i j, d = .tup [.int i, .int j] := by
  unfold isPr at h; split at h
  · exact ⟨_, _, rfl⟩
  · exact h.elim
theorem res_pr {S : Store} {d : D} (h : isPr d) : res S DEPTH d = some d := by
  obtain ⟨i, j, rfl⟩ := isPr_ex h
  exact res_tup (n := 59) (by intro x hx; simp at hx; rcases hx with rfl | rfl <;> rfl)
theorem deq_pr {a b : D} (ha : isPr a) (hb : isPr b) : deq a b = decide (b = a) := by
  obtain ⟨i, j, rfl⟩ := isPr_ex ha
  obtain ⟨k, l, rfl⟩ := isPr_ex hb
  simp only [deq, deqs, Bool.and_true]
  by_cases h1 : i = k <;> by_cases h2 : j = l <;> simp [h1, h2, eq_comm]
  all_goals (first | (intro e; simp_all) | skip)
theorem any_pr {r : D} (hr : isPr r) : ∀ {known : List D}, (∀ x ∈ known, isPr x) → (known.any fun z => deq z r) = known.contains r
  | [], _ => rfl
  | x :: xs, h => by
    rw [List.any_cons, List.contains_cons, any_pr hr (fun y hy => h y (by simp [hy])), deq_pr (h x (by simp)) hr]
    by_cases e : r = x <;> simp [e]
theorem inL_pr {S : Store} {r : D} {known : List D} (hr : isPr r) (hk : ∀ x ∈ known, isPr x) : inL S r known = some (known.contains r) := by
  have hf : flatD r = false := by obtain ⟨i, j, rfl⟩ := isPr_ex hr; rfl
  simp only [inL, hf, Bool.false_and, Bool.false_eq_true, if_false, res_pr hr, mapM_id (fun x hx => res_pr (S := S) (hk x hx)), any_pr hr hk]
theorem inL_int {S : Store} {i : Int} {known : List D} (hk : ∀ x ∈ known, ∃ j, x = .int j) : inL S (.int i) known = some (known.contains (.int i)) := by
  have hf : known.all flatD = true := by
    rw [List.all_eq_true]; intro x hx; obtain ⟨j, rfl⟩ := hk x hx; rfl
  simp only [inL, hf, flatD, Bool.true_and, if_true]
  congr 1
  induction known with
  | nil => rfl
  | cons x xs ih =>
    obtain ⟨j, rfl⟩ := hk x (by simp)
    simp only [List.all_cons, Bool.and_eq_true] at hf
    rw [List.any_cons, List.contains_cons, ih (fun y hy => hk y (by simp [hy])) hf.2]
    by_cases e : i = j
    · simp [deq, e]
    · have e' : ¬ j = i := fun h => e h.symm
      have e2 : (D.int i == D.int j) = false := by simp [e]
      simp only [deq, e', decide_false, e2]
theorem eqD_lst_nil {S : Store} {xs : List D} (h : ∀ x ∈ xs, ∃ j, x = .int j) : eqD S (.lst xs) (.lst []) = some xs.isEmpty := by
  have r1 : res S DEPTH (.lst xs) = some (.lst xs) := res_lst (n := 59) (fun x hx => by obtain ⟨j, rfl⟩ := h x hx; rfl)
  have r2 : res S DEPTH (.lst []) = some (.lst []) := res_lst (n := 59) (by simp)
  simp only [eqD, flatD, Bool.false_and, Bool.false_eq_true, if_false, r1, r2]
  cases xs <;> simp [deq, deqs]
theorem cutL_pre {α : Type} (xs ys : List α) : cutL (xs ++ ys) none (some (xs.length : Int)) = xs := by
  have e1 : HT.sIx (xs ++ ys).length 0 none = 0 := rfl
  have e2 : HT.sIx (xs ++ ys).length (xs ++ ys).length (some (xs.length : Int)) = xs.length := by
    rw [HT.sIx_nat]; simp
  rw [cutL, e1, e2]; simp
theorem ixD_tup (S : Store) (xs : List D) (i : D) : ixD S (.tup xs) i = ixL xs i := rfl
theorem ixD_lst (S : Store) (xs : List D) (i : D) : ixD S (.lst xs) i = ixL xs i := rfl
end DW
end

section
set_option Elab.async false
set_option linter.all false
set_option maxRecDepth 100000
set_option maxHeartbeats 0
namespace K82
open PySem PySem.Spec PyProof.Rows L2 DW
def top (i : Nat) : Stmt := PySem.Challenge.pw_doorways_k82_whole_piece_texts.main.body.getD i (.Pass ⟨0, 0, 0, 0⟩)
def initOf : Stmt → Stmt
  | .ClassDef _ _ _ (s :: _) _ _ _ _ _ _ _ => s
  | s => s
def fs : List FR := [
  ⟨"is_number", top 6, (["thing"] : List PySem.Str), (["thing"] : List PySem.Str), ([] : List PySem.Str)⟩,
  ⟨"is_among", top 7, (["thing", "least", "most"] : List PySem.Str), (["thing", "least", "most"] : List PySem.Str), ([] : List PySem.Str)⟩,
  ⟨"is_tuple_of", top 8, (["thing", "least", "most"] : List PySem.Str), (["thing", "least", "most"] : List PySem.Str), ([] : List PySem.Str)⟩,
  ⟨"is_road", top 12, (["thing", "places"] : List PySem.Str), (["thing", "places", "place"] : List PySem.Str), ([] : List PySem.Str)⟩,
  ⟨"need_net", top 13, (["net"] : List PySem.Str), (["net", "known", "number", "road"] : List PySem.Str), (["known"] : List PySem.Str)⟩,
  ⟨"need_doors", top 16, (["net", "doors", "side"] : List PySem.Str), (["net", "doors", "side", "known", "number", "place"] : List PySem.Str), (["known"] : List PySem.Str)⟩,
  ⟨"need_piece", top 17, (["piece"] : List PySem.Str), (["piece", "net"] : List PySem.Str), ([] : List PySem.Str)⟩,
  ⟨"read_figure", top 20, (["text"] : List PySem.Str), (["text", "sign"] : List PySem.Str), ([] : List PySem.Str)⟩,
  ⟨"net_text", top 21, (["net"] : List PySem.Str), (["net", "start", "end"] : List PySem.Str), ([] : List PySem.Str)⟩,
  ⟨"read_road", top 22, (["text"] : List PySem.Str), (["text", "numbers", "part"] : List PySem.Str), ([] : List PySem.Str)⟩,
  ⟨"read_net", top 23, (["text"] : List PySem.Str), (["text", "words", "net", "word"] : List PySem.Str), ([] : List PySem.Str)⟩,
  ⟨"read_number", top 26, (["text"] : List PySem.Str), (["text", "sign"] : List PySem.Str), ([] : List PySem.Str)⟩,
  ⟨"piece_text", top 27, (["piece"] : List PySem.Str), (["piece", "net", "ins", "outs", "words", "place"] : List PySem.Str), ([] : List PySem.Str)⟩,
  ⟨"read_doors", top 28, (["words"] : List PySem.Str), (["words", "word"] : List PySem.Str), ([] : List PySem.Str)⟩,
  ⟨"read_piece", top 29, (["text"] : List PySem.Str), (["text", "words", "spot", "later", "net"] : List PySem.Str), ([] : List PySem.Str)⟩,
  ⟨"_law_is_number", top 31, (["thing", "least", "most"] : List PySem.Str), (["thing", "least", "most"] : List PySem.Str), ([] : List PySem.Str)⟩,
  ⟨"_law_net_fault", top 32, (["net"] : List PySem.Str), (["net", "number", "road", "place"] : List PySem.Str), ([] : List PySem.Str)⟩,
  ⟨"_law_piece_fault", top 33, (["piece"] : List PySem.Str), (["piece", "fault", "side", "doors", "number", "place"] : List PySem.Str), ([] : List PySem.Str)⟩,
  ⟨"_law_drawn_piece", top 34, (["m", "most"] : List PySem.Str), (["m", "most", "many", "roads", "turn", "road", "ins", "outs", "place"] : List PySem.Str), (["roads"] : List PySem.Str)⟩,
  ⟨"_law_piece_words", top 35, (["piece"] : List PySem.Str), (["piece", "places", "roads", "ins", "outs", "words", "start", "end", "place"] : List PySem.Str), ([] : List PySem.Str)⟩,
  ⟨"_law_figure", top 36, (["word"] : List PySem.Str), (["word", "sign"] : List PySem.Str), ([] : List PySem.Str)⟩,
  ⟨"_law_read_piece", top 37, (["text"] : List PySem.Str), (["text", "words", "spot", "later", "roads", "word", "ends", "ins", "outs", "piece", "part"] : List PySem.Str), (["roads"] : List PySem.Str)⟩,
  ⟨"_law_begun", top 38, (["script"] : List PySem.Str), (["script", "cell"] : List PySem.Str), ([] : List PySem.Str)⟩,
  ⟨"_law_next", top 39, (["m", "many"] : List PySem.Str), (["m", "many", "rest", "at", "cell", "blend"] : List PySem.Str), (["m"] : List PySem.Str)⟩,
  ⟨"_law_of", top 40, (["m", "some"] : List PySem.Str), (["m", "some"] : List PySem.Str), ([] : List PySem.Str)⟩,
  ⟨"_law_like", top 41, (["got", "due"] : List PySem.Str), (["got", "due", "k"] : List PySem.Str), ([] : List PySem.Str)⟩,
  ⟨"_law_told", top 42, (["text"] : List PySem.Str), (["text", "e"] : List PySem.Str), ([] : List PySem.Str)⟩,
  ⟨"_law_right", top 43, (["m", "piece"] : List PySem.Str), (["m", "piece", "text", "turn", "n", "sign", "some", "near"] : List PySem.Str), ([] : List PySem.Str)⟩,
  ⟨"law", top 44, (["script"] : List PySem.Str), (["script", "m", "turn", "words", "text", "bad", "due", "e"] : List PySem.Str), ([] : List PySem.Str)⟩]
def exc : List (Str × Nat) := [("BadNet", 0), ("BadPiece", 1), ("BadText", 2)]
def cons : List (Str × DW.D) := [("MOST_PLACES", .int 16), ("MOST_ROADS", .int 60), ("MOST_DOORS", .int 5), ("FIGURES", .str "0123456789"), ("MOST_NUMBER", .int 1000000000)]
def L : LD := ⟨fs, exc, exc, cons, [(40, 12)]⟩
def xs : List XD := [⟨"BadNet", "place", initOf (top 2)⟩, ⟨"BadPiece", "place", initOf (top 3)⟩, ⟨"BadText", "place", initOf (top 4)⟩]
def nmK : Nat → Str
  | 0 => "BadNet"
  | 1 => "BadPiece"
  | 2 => "BadText"
  | _ => "BadNet"
def fld : Nat → Str
  | 0 => "place"
  | 1 => "place"
  | 2 => "place"
  | _ => "place"
def Y : LX := ⟨L, xs, nmK, fld, (["BadText"] : List PySem.Str)⟩

def loose : List Str := (["DoorError", "BadNet", "BadPiece", "BadText", "MOST_PLACES", "MOST_ROADS", "MOST_DOORS", "FIGURES", "MOST_NUMBER", "is_number", "is_among", "is_tuple_of"] : List Str) ++ (["is_road", "need_net", "need_doors", "need_piece", "read_figure", "net_text", "read_road", "read_net", "read_number", "piece_text", "read_doors", "read_piece"] : List Str) ++ (["_law_is_number", "_law_net_fault", "_law_piece_fault", "_law_drawn_piece", "_law_piece_words", "_law_figure", "_law_read_piece", "_law_begun", "_law_next", "_law_of", "_law_like", "_law_told"] : List Str) ++ (["_law_right"] : List Str)
end K82
end

section
set_option Elab.async false
set_option linter.all false
set_option maxRecDepth 100000
set_option maxHeartbeats 0
namespace K82
open DW
open PySem (Str)
def b_is_number : CSs := (.cons (.ret (.and (.isi (.var 0) "int") (.not (.isi (.var 0) "bool"))))
  .nil)
theorem t_is_number : K82.Y.L.T[(0 : Nat)]? = some ⟨1, 1, b_is_number⟩ := by kernel_rfl
def b_is_among : CSs := (.cons (.ret (.and (.call (0 : Nat) (.cons (.var 0) .nil)) (.chn .le .le (.var 1) (.var 0) (.var 2))))
  .nil)
theorem t_is_among : K82.Y.L.T[(1 : Nat)]? = some ⟨3, 3, b_is_among⟩ := by kernel_rfl
def b_is_tuple_of : CSs := (.cons (.ret (.and (.isi (.var 0) "tuple") (.chn .le .le (.var 1) (.bi .len (.cons (.var 0) .nil)) (.var 2))))
  .nil)
theorem t_is_tuple_of : K82.Y.L.T[(2 : Nat)]? = some ⟨3, 3, b_is_tuple_of⟩ := by kernel_rfl
def b_is_road : CSs := (.cons (.cond (.or (.not (.call (2 : Nat) (.cons (.var 0) (.cons (.cst (.int (2))) (.cons (.cst (.int (2))) .nil))))) (.not (.bi .all (.cons (.comp [2] (.nm 2) .seq (.cons (.var 0) .nil) (.cst (.bl true)) (.call (1 : Nat) (.cons (.var 2) (.cons (.cst (.int (0))) (.cons (.bin .sub (.var 1) (.cst (.int (1)))) .nil))))) .nil))))
  (.cons (.ret (.cst (.bl false)))
  .nil)
  .nil)
  (.cons (.ret (.cmp .ne (.ix (.var 0) (.cst (.int (0)))) (.ix (.var 0) (.cst (.int (1))))))
  .nil))
theorem t_is_road : K82.Y.L.T[(3 : Nat)]? = some ⟨2, 3, b_is_road⟩ := by kernel_rfl
def b_need_net : CSs := (.cons (.cond (.not (.call (2 : Nat) (.cons (.var 0) (.cons (.cst (.int (2))) (.cons (.cst (.int (2))) .nil)))))
  (.cons (.raise 0 (.cst .non))
  .nil)
  .nil)
  (.cons (.cond (.not (.call (1 : Nat) (.cons (.ix (.var 0) (.cst (.int (0)))) (.cons (.cst (.int (1))) (.cons (.cst (.int (16))) .nil)))))
  (.cons (.raise 0 (.cst (.int (0))))
  .nil)
  .nil)
  (.cons (.cond (.not (.call (2 : Nat) (.cons (.ix (.var 0) (.cst (.int (1)))) (.cons (.cst (.int (0))) (.cons (.cst (.int (60))) .nil)))))
  (.cons (.raise 0 (.cst (.int (1))))
  .nil)
  .nil)
  (.cons (.asg (.nm 1) (.dct true .nil .nil))
  (.cons (.loop (.tp [(.nm 2), (.nm 3)]) .enum (.cons (.ix (.var 0) (.cst (.int (1)))) .nil)
  (.cons (.cond (.or (.not (.call (3 : Nat) (.cons (.var 3) (.cons (.ix (.var 0) (.cst (.int (0)))) .nil)))) (.cmp .isin (.var 3) (.var 1)))
  (.cons (.raise 0 (.tup (.cons (.cst (.int (1))) (.cons (.var 2) .nil))))
  .nil)
  .nil)
  (.cons (.put (.var 1) (.var 3) (.cst (.bl true)))
  .nil)))
  (.cons (.ret (.var 0))
  .nil))))))
theorem t_need_net : K82.Y.L.T[(4 : Nat)]? = some ⟨1, 4, b_need_net⟩ := by kernel_rfl
def b_need_doors : CSs := (.cons (.cond (.not (.call (2 : Nat) (.cons (.var 1) (.cons (.cst (.int (0))) (.cons (.cst (.int (5))) .nil)))))
  (.cons (.raise 1 (.var 2))
  .nil)
  .nil)
  (.cons (.asg (.nm 3) (.dct false .nil .nil))
  (.cons (.loop (.tp [(.nm 4), (.nm 5)]) .enum (.cons (.var 1) .nil)
  (.cons (.cond (.or (.not (.call (1 : Nat) (.cons (.var 5) (.cons (.cst (.int (0))) (.cons (.bin .sub (.ix (.var 0) (.cst (.int (0)))) (.cst (.int (1)))) .nil))))) (.cmp .isin (.var 5) (.var 3)))
  (.cons (.raise 1 (.tup (.cons (.var 2) (.cons (.var 4) .nil))))
  .nil)
  .nil)
  (.cons (.put (.var 3) (.var 5) (.cst (.bl true)))
  .nil)))
  (.cons (.ret (.var 1))
  .nil))))
theorem t_need_doors : K82.Y.L.T[(5 : Nat)]? = some ⟨3, 6, b_need_doors⟩ := by kernel_rfl
def b_need_piece : CSs := (.cons (.cond (.not (.call (2 : Nat) (.cons (.var 0) (.cons (.cst (.int (3))) (.cons (.cst (.int (3))) .nil)))))
  (.cons (.raise 1 (.cst .non))
  .nil)
  .nil)
  (.cons (.asg (.nm 1) (.call (4 : Nat) (.cons (.ix (.var 0) (.cst (.int (0)))) .nil)))
  (.cons (.xpr (.call (5 : Nat) (.cons (.var 1) (.cons (.ix (.var 0) (.cst (.int (1)))) (.cons (.cst (.int (1))) .nil)))))
  (.cons (.xpr (.call (5 : Nat) (.cons (.var 1) (.cons (.ix (.var 0) (.cst (.int (2)))) (.cons (.cst (.int (2))) .nil)))))
  (.cons (.ret (.var 0))
  .nil)))))
theorem t_need_piece : K82.Y.L.T[(6 : Nat)]? = some ⟨1, 2, b_need_piece⟩ := by kernel_rfl
def b_read_figure : CSs := (.cons (.cond (.or (.not (.chn .le .le (.cst (.int (1))) (.bi .len (.cons (.var 0) .nil)) (.cst (.int (2))))) (.not (.bi .all (.cons (.comp [1] (.nm 1) .seq (.cons (.var 0) .nil) (.cst (.bl true)) (.cmp .isin (.var 1) (.cst (.str ("0123456789" : PySem.Str))))) .nil))))
  (.cons (.ret (.cst .non))
  .nil)
  .nil)
  (.cons (.ret (.ite (.or (.cmp .eq (.var 0) (.cst (.str ("0" : PySem.Str)))) (.cmp .ne (.ix (.var 0) (.cst (.int (0)))) (.cst (.str ("0" : PySem.Str))))) (.bi .int (.cons (.var 0) .nil)) (.cst .non)))
  .nil))
theorem t_read_figure : K82.Y.L.T[(7 : Nat)]? = some ⟨1, 2, b_read_figure⟩ := by kernel_rfl
def b_net_text : CSs := (.cons (.xpr (.call (4 : Nat) (.cons (.var 0) .nil)))
  (.cons (.ret (.mt .join (.cst (.str (" " : PySem.Str))) (.cons (.bin .add (.lst (.cons (.bi .str (.cons (.ix (.var 0) (.cst (.int (0)))) .nil)) .nil)) (.comp [1, 2] (.tp [(.nm 1), (.nm 2)]) .seq (.cons (.ix (.var 0) (.cst (.int (1)))) .nil) (.cst (.bl true)) (.bin .add (.bin .add (.bi .str (.cons (.var 1) .nil)) (.cst (.str (">" : PySem.Str)))) (.bi .str (.cons (.var 2) .nil))))) .nil)))
  .nil))
theorem t_net_text : K82.Y.L.T[(8 : Nat)]? = some ⟨1, 3, b_net_text⟩ := by kernel_rfl
def b_read_road : CSs := (.cons (.asg (.nm 1) (.comp [2] (.nm 2) .seq (.cons (.mt .split (.var 0) (.cons (.cst (.str (">" : PySem.Str))) .nil)) .nil) (.cst (.bl true)) (.call (7 : Nat) (.cons (.var 2) .nil))))
  (.cons (.ret (.ite (.or (.cmp .ne (.bi .len (.cons (.var 1) .nil)) (.cst (.int (2)))) (.cmp .isin (.cst .non) (.var 1))) (.cst .non) (.bi .tuple (.cons (.var 1) .nil))))
  .nil))
theorem t_read_road : K82.Y.L.T[(9 : Nat)]? = some ⟨1, 3, b_read_road⟩ := by kernel_rfl
def b_read_net : CSs := (.cons (.cond (.not (.isi (.var 0) "str"))
  (.cons (.raise 2 (.cst .non))
  .nil)
  .nil)
  (.cons (.asg (.nm 1) (.mt .split (.var 0) (.cons (.cst (.str (" " : PySem.Str))) .nil)))
  (.cons (.asg (.nm 2) (.tup (.cons (.call (7 : Nat) (.cons (.ix (.var 1) (.cst (.int (0)))) .nil)) (.cons (.bi .tuple (.cons (.comp [3] (.nm 3) .seq (.cons (.sl (.var 1) (.cst (.int (1))) (.cst .non)) .nil) (.cst (.bl true)) (.call (9 : Nat) (.cons (.var 3) .nil))) .nil)) .nil))))
  (.cons (.tryr (.cons (.ret (.call (4 : Nat) (.cons (.var 2) .nil)))
  .nil) 0
  (.cons (.raiseN 2 (.cst .non))
  .nil))
  .nil))))
theorem t_read_net : K82.Y.L.T[(10 : Nat)]? = some ⟨1, 4, b_read_net⟩ := by kernel_rfl
def b_read_number : CSs := (.cons (.cond (.or (.not (.chn .le .le (.cst (.int (1))) (.bi .len (.cons (.var 0) .nil)) (.cst (.int (10))))) (.or (.not (.bi .all (.cons (.comp [1] (.nm 1) .seq (.cons (.var 0) .nil) (.cst (.bl true)) (.cmp .isin (.var 1) (.cst (.str ("0123456789" : PySem.Str))))) .nil))) (.and (.cmp .eq (.ix (.var 0) (.cst (.int (0)))) (.cst (.str ("0" : PySem.Str)))) (.cmp .ne (.var 0) (.cst (.str ("0" : PySem.Str)))))))
  (.cons (.ret (.cst .non))
  .nil)
  .nil)
  (.cons (.ret (.ite (.cmp .le (.bi .int (.cons (.var 0) .nil)) (.cst (.int (1000000000)))) (.bi .int (.cons (.var 0) .nil)) (.cst .non)))
  .nil))
theorem t_read_number : K82.Y.L.T[(11 : Nat)]? = some ⟨1, 2, b_read_number⟩ := by kernel_rfl
def b_piece_text : CSs := (.cons (.asg (.tp [(.nm 1), (.nm 2), (.nm 3)]) (.call (6 : Nat) (.cons (.var 0) .nil)))
  (.cons (.asg (.nm 4) (.bin .add (.bin .add (.bin .add (.lst (.cons (.call (8 : Nat) (.cons (.var 1) .nil)) (.cons (.cst (.str ("in" : PySem.Str))) .nil))) (.comp [5] (.nm 5) .seq (.cons (.var 2) .nil) (.cst (.bl true)) (.bi .str (.cons (.var 5) .nil)))) (.lst (.cons (.cst (.str ("out" : PySem.Str))) .nil))) (.comp [5] (.nm 5) .seq (.cons (.var 3) .nil) (.cst (.bl true)) (.bi .str (.cons (.var 5) .nil)))))
  (.cons (.ret (.mt .join (.cst (.str (" " : PySem.Str))) (.cons (.var 4) .nil)))
  .nil)))
theorem t_piece_text : K82.Y.L.T[(12 : Nat)]? = some ⟨1, 6, b_piece_text⟩ := by kernel_rfl
def b_read_doors : CSs := (.cons (.ret (.bi .tuple (.cons (.comp [1] (.nm 1) .seq (.cons (.var 0) .nil) (.cst (.bl true)) (.call (11 : Nat) (.cons (.var 1) .nil))) .nil)))
  .nil)
theorem t_read_doors : K82.Y.L.T[(13 : Nat)]? = some ⟨1, 2, b_read_doors⟩ := by kernel_rfl
def b_read_piece : CSs := (.cons (.asg (.nm 1) (.ite (.isi (.var 0) "str") (.mt .split (.var 0) (.cons (.cst (.str (" " : PySem.Str))) .nil)) (.lst .nil)))
  (.cons (.cond (.or (.cmp .notin (.cst (.str ("in" : PySem.Str))) (.var 1)) (.cmp .notin (.cst (.str ("out" : PySem.Str))) (.sl (.var 1) (.mt .index (.var 1) (.cons (.cst (.str ("in" : PySem.Str))) .nil)) (.cst .non))))
  (.cons (.raise 2 (.cst .non))
  .nil)
  .nil)
  (.cons (.asg (.nm 2) (.mt .index (.var 1) (.cons (.cst (.str ("in" : PySem.Str))) .nil)))
  (.cons (.asg (.nm 3) (.mt .index2 (.var 1) (.cons (.cst (.str ("out" : PySem.Str))) (.cons (.var 2) .nil))))
  (.cons (.asg (.nm 4) (.call (10 : Nat) (.cons (.mt .join (.cst (.str (" " : PySem.Str))) (.cons (.sl (.var 1) (.cst .non) (.var 2)) .nil)) .nil)))
  (.cons (.tryr (.cons (.ret (.call (6 : Nat) (.cons (.tup (.cons (.var 4) (.cons (.call (13 : Nat) (.cons (.sl (.var 1) (.bin .add (.var 2) (.cst (.int (1)))) (.var 3)) .nil)) (.cons (.call (13 : Nat) (.cons (.sl (.var 1) (.bin .add (.var 3) (.cst (.int (1)))) (.cst .non)) .nil)) .nil)))) .nil)))
  .nil) 1
  (.cons (.raiseN 2 (.cst .non))
  .nil))
  .nil))))))
theorem t_read_piece : K82.Y.L.T[(14 : Nat)]? = some ⟨1, 5, b_read_piece⟩ := by kernel_rfl
def b_law_is_number : CSs := (.cons (.ret (.and (.isi (.var 0) "int") (.and (.not (.isi (.var 0) "bool")) (.chn .le .le (.var 1) (.var 0) (.var 2)))))
  .nil)
theorem t_law_is_number : K82.Y.L.T[(15 : Nat)]? = some ⟨3, 3, b_law_is_number⟩ := by kernel_rfl
def b_law_net_fault : CSs := (.cons (.cond (.or (.not (.isi (.var 0) "tuple")) (.cmp .ne (.bi .len (.cons (.var 0) .nil)) (.cst (.int (2)))))
  (.cons (.ret (.tup (.cons (.cst .non) .nil)))
  .nil)
  .nil)
  (.cons (.cond (.not (.call (15 : Nat) (.cons (.ix (.var 0) (.cst (.int (0)))) (.cons (.cst (.int (1))) (.cons (.cst (.int (16))) .nil)))))
  (.cons (.ret (.tup (.cons (.cst (.int (0))) .nil)))
  .nil)
  .nil)
  (.cons (.cond (.or (.not (.isi (.ix (.var 0) (.cst (.int (1)))) "tuple")) (.cmp .gt (.bi .len (.cons (.ix (.var 0) (.cst (.int (1)))) .nil)) (.cst (.int (60)))))
  (.cons (.ret (.tup (.cons (.cst (.int (1))) .nil)))
  .nil)
  .nil)
  (.cons (.loop (.tp [(.nm 1), (.nm 2)]) .enum (.cons (.ix (.var 0) (.cst (.int (1)))) .nil)
  (.cons (.cond (.or (.not (.isi (.var 2) "tuple")) (.or (.cmp .ne (.bi .len (.cons (.var 2) .nil)) (.cst (.int (2)))) (.cmp .ne (.comp [3] (.nm 3) .seq (.cons (.var 2) .nil) (.not (.call (15 : Nat) (.cons (.var 3) (.cons (.cst (.int (0))) (.cons (.bin .sub (.ix (.var 0) (.cst (.int (0)))) (.cst (.int (1)))) .nil))))) (.cst (.int (1)))) (.lst .nil))))
  (.cons (.ret (.tup (.cons (.tup (.cons (.cst (.int (1))) (.cons (.var 1) .nil))) .nil)))
  .nil)
  .nil)
  (.cons (.cond (.or (.cmp .eq (.ix (.var 2) (.cst (.int (0)))) (.ix (.var 2) (.cst (.int (1))))) (.cmp .isin (.var 2) (.sl (.ix (.var 0) (.cst (.int (1)))) (.cst .non) (.var 1))))
  (.cons (.ret (.tup (.cons (.tup (.cons (.cst (.int (1))) (.cons (.var 1) .nil))) .nil)))
  .nil)
  .nil)
  .nil)))
  (.cons (.ret (.cst .non))
  .nil)))))
theorem t_law_net_fault : K82.Y.L.T[(16 : Nat)]? = some ⟨1, 4, b_law_net_fault⟩ := by kernel_rfl
def b_law_piece_fault : CSs := (.cons (.cond (.or (.not (.isi (.var 0) "tuple")) (.cmp .ne (.bi .len (.cons (.var 0) .nil)) (.cst (.int (3)))))
  (.cons (.ret (.tup (.cons (.cst (.str ("piece" : PySem.Str))) (.cons (.cst .non) .nil))))
  .nil)
  .nil)
  (.cons (.asg (.nm 1) (.call (16 : Nat) (.cons (.ix (.var 0) (.cst (.int (0)))) .nil)))
  (.cons (.cond (.cmp .isnot (.var 1) (.cst .non))
  (.cons (.ret (.tup (.cons (.cst (.str ("net" : PySem.Str))) (.cons (.ix (.var 1) (.cst (.int (0)))) .nil))))
  .nil)
  .nil)
  (.cons (.loop (.nm 2) .seq (.cons (.tup (.cons (.cst (.int (1))) (.cons (.cst (.int (2))) .nil))) .nil)
  (.cons (.asg (.nm 3) (.ix (.var 0) (.var 2)))
  (.cons (.cond (.or (.not (.isi (.var 3) "tuple")) (.cmp .gt (.bi .len (.cons (.var 3) .nil)) (.cst (.int (5)))))
  (.cons (.ret (.tup (.cons (.cst (.str ("piece" : PySem.Str))) (.cons (.var 2) .nil))))
  .nil)
  .nil)
  (.cons (.loop (.tp [(.nm 4), (.nm 5)]) .enum (.cons (.var 3) .nil)
  (.cons (.cond (.or (.not (.call (15 : Nat) (.cons (.var 5) (.cons (.cst (.int (0))) (.cons (.bin .sub (.ix (.ix (.var 0) (.cst (.int (0)))) (.cst (.int (0)))) (.cst (.int (1)))) .nil))))) (.cmp .isin (.var 5) (.sl (.var 3) (.cst .non) (.var 4))))
  (.cons (.ret (.tup (.cons (.cst (.str ("piece" : PySem.Str))) (.cons (.tup (.cons (.var 2) (.cons (.var 4) .nil))) .nil))))
  .nil)
  .nil)
  .nil))
  .nil))))
  (.cons (.ret (.cst .non))
  .nil)))))
theorem t_law_piece_fault : K82.Y.L.T[(17 : Nat)]? = some ⟨1, 6, b_law_piece_fault⟩ := by kernel_rfl
def b_law_drawn_piece : CSs := (.cons (.asg (.tp [(.nm 2), (.nm 3)]) (.tup (.cons (.bin .add (.cst (.int (1))) (.call (23 : Nat) (.cons (.var 0) (.cons (.var 1) .nil)))) (.cons (.new (.lst .nil)) .nil))))
  (.cons (.loop (.nm 4) .rng (.cons (.call (23 : Nat) (.cons (.var 0) (.cons (.bin .mul (.cst (.int (2))) (.var 1)) .nil))) .nil)
  (.cons (.asg (.nm 5) (.tup (.cons (.call (23 : Nat) (.cons (.var 0) (.cons (.var 2) .nil))) (.cons (.call (23 : Nat) (.cons (.var 0) (.cons (.var 2) .nil))) .nil))))
  (.cons (.cond (.and (.cmp .ne (.ix (.var 5) (.cst (.int (0)))) (.ix (.var 5) (.cst (.int (1))))) (.cmp .notin (.var 5) (.var 3)))
  (.cons (.xpr (.app (.var 3) (.var 5)))
  .nil)
  .nil)
  .nil)))
  (.cons (.asg (.tp [(.nm 6), (.nm 7)]) (.tup (.cons (.lst .nil) (.cons (.lst .nil) .nil))))
  (.cons (.loop (.nm 4) .rng (.cons (.call (23 : Nat) (.cons (.var 0) (.cons (.cst (.int (4))) .nil))) .nil)
  (.cons (.asg (.nm 6) (.bin .add (.var 6) (.comp [8] (.nm 8) .seq (.cons (.lst (.cons (.call (23 : Nat) (.cons (.var 0) (.cons (.var 2) .nil))) .nil)) .nil) (.cmp .notin (.var 8) (.var 6)) (.var 8))))
  (.cons (.asg (.nm 7) (.bin .add (.var 7) (.comp [8] (.nm 8) .seq (.cons (.lst (.cons (.call (23 : Nat) (.cons (.var 0) (.cons (.var 2) .nil))) .nil)) .nil) (.cmp .notin (.var 8) (.var 7)) (.var 8))))
  .nil)))
  (.cons (.ret (.tup (.cons (.tup (.cons (.var 2) (.cons (.bi .tuple (.cons (.var 3) .nil)) .nil))) (.cons (.bi .tuple (.cons (.var 6) .nil)) (.cons (.bi .tuple (.cons (.var 7) .nil)) .nil)))))
  .nil)))))
theorem t_law_drawn_piece : K82.Y.L.T[(18 : Nat)]? = some ⟨2, 9, b_law_drawn_piece⟩ := by kernel_rfl
def b_law_piece_words : CSs := (.cons (.asg (.tp [(.tp [(.nm 1), (.nm 2)]), (.nm 3), (.nm 4)]) (.var 0))
  (.cons (.asg (.nm 5) (.bin .add (.bin .add (.lst (.cons (.bi .str (.cons (.var 1) .nil)) .nil)) (.comp [6, 7] (.tp [(.nm 6), (.nm 7)]) .seq (.cons (.var 2) .nil) (.cst (.bl true)) (.bin .add (.bin .add (.bi .str (.cons (.var 6) .nil)) (.cst (.str (">" : PySem.Str)))) (.bi .str (.cons (.var 7) .nil))))) (.lst (.cons (.cst (.str ("in" : PySem.Str))) .nil))))
  (.cons (.ret (.mt .join (.cst (.str (" " : PySem.Str))) (.cons (.bin .add (.bin .add (.bin .add (.var 5) (.comp [8] (.nm 8) .seq (.cons (.var 3) .nil) (.cst (.bl true)) (.bi .str (.cons (.var 8) .nil)))) (.lst (.cons (.cst (.str ("out" : PySem.Str))) .nil))) (.comp [8] (.nm 8) .seq (.cons (.var 4) .nil) (.cst (.bl true)) (.bi .str (.cons (.var 8) .nil)))) .nil)))
  .nil)))
theorem t_law_piece_words : K82.Y.L.T[(19 : Nat)]? = some ⟨1, 9, b_law_piece_words⟩ := by kernel_rfl
def b_law_figure : CSs := (.cons (.cond (.or (.cmp .eq (.var 0) (.cst (.str ("" : PySem.Str)))) (.or (.cmp .gt (.bi .len (.cons (.var 0) .nil)) (.cst (.int (10)))) (.or (.cmp .ne (.comp [1] (.nm 1) .seq (.cons (.var 0) .nil) (.cmp .notin (.var 1) (.cst (.str ("0123456789" : PySem.Str)))) (.cst (.int (1)))) (.lst .nil)) (.and (.cmp .eq (.ix (.var 0) (.cst (.int (0)))) (.cst (.str ("0" : PySem.Str)))) (.cmp .ne (.var 0) (.cst (.str ("0" : PySem.Str))))))))
  (.cons (.ret (.cst .non))
  .nil)
  .nil)
  (.cons (.ret (.ite (.cmp .le (.bi .int (.cons (.var 0) .nil)) (.bin .pow (.cst (.int (10))) (.cst (.int (9))))) (.bi .int (.cons (.var 0) .nil)) (.cst .non)))
  .nil))
theorem t_law_figure : K82.Y.L.T[(20 : Nat)]? = some ⟨1, 2, b_law_figure⟩ := by kernel_rfl
def b_law_read_piece : CSs := (.cons (.cond (.or (.not (.isi (.var 0) "str")) (.or (.cmp .ne (.mt .count (.mt .split (.var 0) (.cons (.cst (.str (" " : PySem.Str))) .nil)) (.cons (.cst (.str ("in" : PySem.Str))) .nil)) (.cst (.int (1)))) (.cmp .ne (.mt .count (.mt .split (.var 0) (.cons (.cst (.str (" " : PySem.Str))) .nil)) (.cons (.cst (.str ("out" : PySem.Str))) .nil)) (.cst (.int (1))))))
  (.cons (.ret (.cst .non))
  .nil)
  .nil)
  (.cons (.asg (.nm 1) (.mt .split (.var 0) (.cons (.cst (.str (" " : PySem.Str))) .nil)))
  (.cons (.asg (.tp [(.nm 2), (.nm 3)]) (.tup (.cons (.mt .index (.var 1) (.cons (.cst (.str ("in" : PySem.Str))) .nil)) (.cons (.mt .index (.var 1) (.cons (.cst (.str ("out" : PySem.Str))) .nil)) .nil))))
  (.cons (.cond (.or (.cmp .eq (.var 2) (.cst (.int (0)))) (.cmp .lt (.var 3) (.var 2)))
  (.cons (.ret (.cst .non))
  .nil)
  .nil)
  (.cons (.asg (.nm 4) (.new (.lst .nil)))
  (.cons (.loop (.nm 5) .seq (.cons (.sl (.var 1) (.cst (.int (1))) (.var 2)) .nil)
  (.cons (.asg (.nm 6) (.comp [10] (.nm 10) .seq (.cons (.mt .split (.var 5) (.cons (.cst (.str (">" : PySem.Str))) .nil)) .nil) (.cst (.bl true)) (.call (20 : Nat) (.cons (.var 10) .nil))))
  (.cons (.cond (.or (.cmp .ne (.bi .len (.cons (.var 6) .nil)) (.cst (.int (2)))) (.cmp .isin (.cst .non) (.var 6)))
  (.cons (.ret (.cst .non))
  .nil)
  .nil)
  (.cons (.xpr (.app (.var 4) (.bi .tuple (.cons (.var 6) .nil))))
  .nil))))
  (.cons (.asg (.tp [(.nm 7), (.nm 8)]) (.tup (.cons (.bi .tuple (.cons (.comp [5] (.nm 5) .seq (.cons (.sl (.var 1) (.bin .add (.var 2) (.cst (.int (1)))) (.var 3)) .nil) (.cst (.bl true)) (.call (20 : Nat) (.cons (.var 5) .nil))) .nil)) (.cons (.bi .tuple (.cons (.comp [5] (.nm 5) .seq (.cons (.sl (.var 1) (.bin .add (.var 3) (.cst (.int (1)))) (.cst .non)) .nil) (.cst (.bl true)) (.call (20 : Nat) (.cons (.var 5) .nil))) .nil)) .nil))))
  (.cons (.asg (.nm 9) (.tup (.cons (.tup (.cons (.call (20 : Nat) (.cons (.ix (.var 1) (.cst (.int (0)))) .nil)) (.cons (.bi .tuple (.cons (.var 4) .nil)) .nil))) (.cons (.var 7) (.cons (.var 8) .nil)))))
  (.cons (.ret (.ite (.cmp .is (.call (17 : Nat) (.cons (.var 9) .nil)) (.cst .non)) (.var 9) (.cst .non)))
  .nil)))))))))
theorem t_law_read_piece : K82.Y.L.T[(21 : Nat)]? = some ⟨1, 11, b_law_read_piece⟩ := by kernel_rfl
def b_law_begun : CSs := (.cons (.ret (.dct false (.cons (.cst (.str ("cells" : PySem.Str))) (.cons (.cst (.str ("at" : PySem.Str))) (.cons (.cst (.str ("left" : PySem.Str))) .nil))) (.cons (.new (.bi .list (.cons (.var 0) .nil))) (.cons (.cst (.int (0))) (.cons (.new (.comp [1] (.nm 1) .seq (.cons (.var 0) .nil) (.cmp .ge (.bi .int (.cons (.var 1) .nil)) (.bin .pow (.cst (.int (10))) (.cst (.int (18))))) (.bi .int (.cons (.var 1) .nil)))) .nil)))))
  .nil)
theorem t_law_begun : K82.Y.L.T[(22 : Nat)]? = some ⟨1, 2, b_law_begun⟩ := by kernel_rfl
def b_law_next : CSs := (.cons (.cond (.cmp .ne (.ix (.var 0) (.cst (.str ("left" : PySem.Str)))) (.lst .nil))
  (.cons (.asg (.nm 2) (.ix (.ix (.var 0) (.cst (.str ("left" : PySem.Str)))) (.cst (.int (0)))))
  (.cons (.put (.ix (.var 0) (.cst (.str ("left" : PySem.Str)))) (.cst (.int (0))) (.bin .fdiv (.var 2) (.var 1)))
  (.cons (.cond (.cmp .eq (.ix (.ix (.var 0) (.cst (.str ("left" : PySem.Str)))) (.cst (.int (0)))) (.cst (.int (0))))
  (.cons (.put (.var 0) (.cst (.str ("left" : PySem.Str))) (.new (.sl (.ix (.var 0) (.cst (.str ("left" : PySem.Str)))) (.cst (.int (1))) (.cst .non))))
  .nil)
  .nil)
  (.cons (.ret (.bin .mod (.var 2) (.var 1)))
  .nil))))
  .nil)
  (.cons (.asg (.nm 3) (.ix (.var 0) (.cst (.str ("at" : PySem.Str)))))
  (.cons (.put (.var 0) (.cst (.str ("at" : PySem.Str))) (.bin .add (.var 3) (.cst (.int (1)))))
  (.cons (.asg (.nm 4) (.ite (.cmp .ne (.ix (.var 0) (.cst (.str ("cells" : PySem.Str)))) (.lst .nil)) (.ix (.ix (.var 0) (.cst (.str ("cells" : PySem.Str)))) (.bin .mod (.var 3) (.bi .len (.cons (.ix (.var 0) (.cst (.str ("cells" : PySem.Str)))) .nil)))) (.cst (.int (0)))))
  (.cons (.asg (.nm 5) (.bin .mul (.bin .mod (.bi .int (.cons (.var 4) .nil)) (.cst (.int (2147483629)))) (.bin .add (.bin .mul (.cst (.int (2))) (.var 3)) (.cst (.int (3))))))
  (.cons (.asg (.nm 5) (.bin .mod (.bin .add (.bin .add (.bin .add (.var 5) (.bin .mul (.bin .mul (.cst (.int (7919))) (.var 3)) (.var 3))) (.bin .mul (.cst (.int (104729))) (.var 3))) (.cst (.int (31)))) (.cst (.int (2147483647)))))
  (.cons (.ret (.bin .mod (.bin .fdiv (.bin .mod (.bin .mul (.bin .mod (.bin .mul (.var 5) (.var 5)) (.cst (.int (2147483629)))) (.cst (.int (48271)))) (.cst (.int (2147483647)))) (.cst (.int (13)))) (.var 1)))
  .nil)))))))
theorem t_law_next : K82.Y.L.T[(23 : Nat)]? = some ⟨2, 6, b_law_next⟩ := by kernel_rfl
def b_law_of : CSs := (.cons (.ret (.ix (.var 1) (.call (23 : Nat) (.cons (.var 0) (.cons (.bi .len (.cons (.var 1) .nil)) .nil)))))
  .nil)
theorem t_law_of : K82.Y.L.T[(24 : Nat)]? = some ⟨2, 2, b_law_of⟩ := by kernel_rfl
def b_law_like : CSs := (.cons (.cond (.isi (.var 1) "tuple")
  (.cons (.ret (.and (.isi (.var 0) "tuple") (.and (.cmp .eq (.bi .len (.cons (.var 0) .nil)) (.bi .len (.cons (.var 1) .nil))) (.bi .all (.cons (.comp [2] (.nm 2) .rng (.cons (.bi .len (.cons (.var 1) .nil)) .nil) (.cst (.bl true)) (.call (25 : Nat) (.cons (.ix (.var 0) (.var 2)) (.cons (.ix (.var 1) (.var 2)) .nil)))) .nil)))))
  .nil)
  .nil)
  (.cons (.cond (.or (.cmp .is (.var 1) (.cst .non)) (.isi (.var 1) "str"))
  (.cons (.ret (.ite (.cmp .is (.var 1) (.cst .non)) (.cmp .is (.var 0) (.cst .non)) (.and (.isi (.var 0) "str") (.cmp .eq (.var 0) (.var 1)))))
  .nil)
  .nil)
  (.cons (.ret (.and (.isi (.var 0) "int") (.and (.cmp .eq (.isi (.var 0) "bool") (.isi (.var 1) "bool")) (.cmp .eq (.var 0) (.var 1)))))
  .nil)))
theorem t_law_like : K82.Y.L.T[(25 : Nat)]? = some ⟨2, 3, b_law_like⟩ := by kernel_rfl
def b_law_told : CSs := (.cons (.tryx (.cons (.ret (.call (14 : Nat) (.cons (.var 0) .nil)))
  .nil)
  (.cons 2 (some 1) (.cons (.ret (.ite (.cmp .is (.xfld 1 ("place" : PySem.Str)) (.cst .non)) (.cst .non) (.cst (.str ("other" : PySem.Str)))))
  .nil) .nil))
  .nil)
theorem t_law_told : K82.Y.L.T[(26 : Nat)]? = some ⟨1, 2, b_law_told⟩ := by kernel_rfl
def b_law_right : CSs := (.cons (.asg (.nm 2) (.call (19 : Nat) (.cons (.var 1) .nil)))
  (.cons (.cond (.or (.not (.call (25 : Nat) (.cons (.call (12 : Nat) (.cons (.var 1) .nil)) (.cons (.var 2) .nil)))) (.not (.call (25 : Nat) (.cons (.call (14 : Nat) (.cons (.var 2) .nil)) (.cons (.var 1) .nil)))))
  (.cons (.ret (.cst (.bl false)))
  .nil)
  .nil)
  (.cons (.loop (.nm 3) .rng (.cons (.cst (.int (10))) .nil)
  (.cons (.asg (.nm 4) (.call (23 : Nat) (.cons (.var 0) (.cons (.bin .add (.bi .len (.cons (.var 2) .nil)) (.cst (.int (1)))) .nil))))
  (.cons (.asg (.nm 5) (.call (24 : Nat) (.cons (.var 0) (.cons (.cst (.str (" >0123456789inout-\n\t_~" : PySem.Str))) .nil))))
  (.cons (.asg (.nm 6) (.lst (.cons (.bin .add (.bin .add (.sl (.var 2) (.cst .non) (.var 4)) (.var 5)) (.sl (.var 2) (.var 4) (.cst .non))) (.cons (.bin .add (.bin .add (.sl (.var 2) (.cst .non) (.var 4)) (.var 5)) (.sl (.var 2) (.bin .add (.var 4) (.cst (.int (1)))) (.cst .non))) (.cons (.bin .add (.sl (.var 2) (.cst .non) (.var 4)) (.sl (.var 2) (.bin .add (.var 4) (.cst (.int (1)))) (.cst .non))) (.cons (.sl (.var 2) (.var 4) (.cst .non)) (.cons (.sl (.var 2) (.cst .non) (.var 4)) (.cons (.bin .add (.bin .add (.var 2) (.cst (.str (" " : PySem.Str)))) (.var 2)) .nil))))))))
  (.cons (.asg (.nm 7) (.call (24 : Nat) (.cons (.var 0) (.cons (.bin .add (.var 6) (.lst (.cons (.bin .add (.var 2) (.cst (.str (" 0" : PySem.Str)))) (.cons (.bin .add (.cst (.str ("1 " : PySem.Str))) (.var 2)) (.cons (.bin .add (.sl (.var 2) (.cst .non) (.var 4)) (.bin .mul (.sl (.var 2) (.var 4) (.cst .non)) (.cst (.int (2))))) .nil))))) .nil))))
  (.cons (.cond (.not (.call (25 : Nat) (.cons (.call (26 : Nat) (.cons (.var 7) .nil)) (.cons (.call (21 : Nat) (.cons (.var 7) .nil)) .nil))))
  (.cons (.ret (.cst (.bl false)))
  .nil)
  .nil)
  .nil))))))
  (.cons (.ret (.cst (.bl true)))
  .nil))))
theorem t_law_right : K82.Y.L.T[(27 : Nat)]? = some ⟨2, 8, b_law_right⟩ := by kernel_rfl
def b_law : CSs := (.cons (.asg (.nm 1) (.call (22 : Nat) (.cons (.var 0) .nil)))
  (.cons (.loop (.nm 2) .rng (.cons (.cst (.int (3))) .nil)
  (.cons (.cond (.not (.call (27 : Nat) (.cons (.var 1) (.cons (.call (18 : Nat) (.cons (.var 1) (.cons (.call (24 : Nat) (.cons (.var 1) (.cons (.lst (.cons (.cst (.int (1))) (.cons (.cst (.int (4))) (.cons (.cst (.int (16))) .nil)))) .nil))) .nil))) .nil))))
  (.cons (.ret (.cst (.bl false)))
  .nil)
  .nil)
  .nil))
  (.cons (.asg (.nm 3) (.lst (.cons (.cst (.str ("" : PySem.Str))) (.cons (.cst (.str ("in out" : PySem.Str))) (.cons (.cst (.str ("1" : PySem.Str))) (.cons (.cst (.str ("1 in" : PySem.Str))) (.cons (.cst (.str ("1 out in" : PySem.Str))) (.cons (.cst (.str ("1 in in out" : PySem.Str))) (.cons (.cst (.str ("1 in out out" : PySem.Str))) (.cons (.cst (.str (" 1 in out" : PySem.Str))) (.cons (.cst (.str ("1  in out" : PySem.Str))) (.cons (.cst (.str ("1 in out " : PySem.Str))) (.cons (.cst (.str ("01 in out" : PySem.Str))) (.cons (.cst (.str ("17 in out" : PySem.Str))) (.cons (.cst (.str ("0 in out" : PySem.Str))) (.cons (.cst (.str ("2 0>1 in 0 0 out" : PySem.Str))) .nil))))))))))))))))
  (.cons (.asg (.nm 3) (.bin .add (.var 3) (.lst (.cons (.cst (.str ("2 0>0 in out" : PySem.Str))) (.cons (.cst (.str ("2 0>1 0>1 in out" : PySem.Str))) (.cons (.cst (.str ("2 0>2 in out" : PySem.Str))) (.cons (.cst (.str ("2 0>1>0 in out" : PySem.Str))) (.cons (.cst (.str ("2 01>1 in out" : PySem.Str))) (.cons (.cst (.str ("2 in 2 out" : PySem.Str))) (.cons (.cst (.str ("2 in out 00" : PySem.Str))) (.cons (.cst (.str ("6 in 0 1 2 3 4 5 out" : PySem.Str))) (.cons (.cst (.str ("1 in out\n" : PySem.Str))) (.cons (.cst (.str ("1\tin out" : PySem.Str))) (.cons (.cst (.str ("1 IN OUT" : PySem.Str))) .nil))))))))))))))
  (.cons (.loop (.nm 4) .seq (.cons (.bin .add (.var 3) (.lst (.cons (.bin .add (.bin .mul (.cst (.str ("9" : PySem.Str))) (.cst (.int (5000)))) (.cst (.str (" in out" : PySem.Str)))) (.cons (.cst .non) (.cons (.cst (.int (1))) (.cons (.tup (.cons (.cst (.int (1))) .nil)) (.cons (.lst .nil) (.cons (.dct false .nil .nil) .nil)))))))) .nil)
  (.cons (.cond (.cmp .isnot (.call (26 : Nat) (.cons (.var 4) .nil)) (.cst .non))
  (.cons (.ret (.cst (.bl false)))
  .nil)
  .nil)
  .nil))
  (.cons (.loop (.tp [(.nm 5), (.nm 6)]) .seq (.cons (.tup (.cons (.tup (.cons (.cst .non) (.cons (.tup (.cons (.cst (.str ("piece" : PySem.Str))) (.cons (.cst .non) .nil))) .nil))) (.cons (.tup (.cons (.tup (.cons (.tup (.cons (.cst (.int (0))) (.cons (.tup .nil) .nil))) (.cons (.tup .nil) (.cons (.tup .nil) .nil)))) (.cons (.tup (.cons (.cst (.str ("net" : PySem.Str))) (.cons (.cst (.int (0))) .nil))) .nil))) (.cons (.tup (.cons (.tup (.cons (.tup (.cons (.cst (.int (1))) (.cons (.tup .nil) .nil))) (.cons (.tup (.cons (.cst (.int (0))) (.cons (.cst (.int (0))) .nil))) (.cons (.tup .nil) .nil)))) (.cons (.tup (.cons (.cst (.str ("piece" : PySem.Str))) (.cons (.tup (.cons (.cst (.int (1))) (.cons (.cst (.int (1))) .nil))) .nil))) .nil))) .nil)))) .nil)
  (.cons (.tryx (.cons (.xpr (.call (12 : Nat) (.cons (.var 5) .nil)))
  (.cons (.ret (.cst (.bl false)))
  .nil))
  (.cons 1 (some 7) (.cons (.cond (.cmp .ne (.tup (.cons (.cst (.str ("piece" : PySem.Str))) (.cons (.xfld 7 ("place" : PySem.Str)) .nil))) (.var 6))
  (.cons (.ret (.cst (.bl false)))
  .nil)
  .nil)
  .nil) (.cons 0 (some 7) (.cons (.cond (.cmp .ne (.tup (.cons (.cst (.str ("net" : PySem.Str))) (.cons (.xfld 7 ("place" : PySem.Str)) .nil))) (.var 6))
  (.cons (.ret (.cst (.bl false)))
  .nil)
  .nil)
  .nil) .nil)))
  .nil))
  (.cons (.ret (.call (25 : Nat) (.cons (.tup (.cons (.call (12 : Nat) (.cons (.tup (.cons (.tup (.cons (.cst (.int (1))) (.cons (.tup .nil) .nil))) (.cons (.tup .nil) (.cons (.tup .nil) .nil)))) .nil)) (.cons (.call (14 : Nat) (.cons (.cst (.str ("3 0>1 1>2 in 0 1 out 2" : PySem.Str))) .nil)) .nil))) (.cons (.tup (.cons (.cst (.str ("1 in out" : PySem.Str))) (.cons (.tup (.cons (.tup (.cons (.cst (.int (3))) (.cons (.tup (.cons (.tup (.cons (.cst (.int (0))) (.cons (.cst (.int (1))) .nil))) (.cons (.tup (.cons (.cst (.int (1))) (.cons (.cst (.int (2))) .nil))) .nil))) .nil))) (.cons (.tup (.cons (.cst (.int (0))) (.cons (.cst (.int (1))) .nil))) (.cons (.tup (.cons (.cst (.int (2))) .nil)) .nil)))) .nil))) .nil))))
  .nil)))))))
theorem t_law : K82.Y.L.T[(28 : Nat)]? = some ⟨1, 8, b_law⟩ := by kernel_rfl
end K82
end

section
set_option Elab.async false
set_option linter.all false
set_option maxRecDepth 100000
set_option maxHeartbeats 0
namespace K82
open DW
open PySem (Str)
def Rn (k f : Nat) (vs : List D) (S : Store) : R D := DW.run Y.L.T Y.sub Y.fld Y.hot k f vs S
def GK (k : Nat) : GX := ⟨Rn k, Y.sub, Y.fld, Y.hot⟩
theorem GK_call (k : Nat) : (GK k).call = Rn k := rfl
theorem GK_sub (k : Nat) : (GK k).sub = Y.sub := rfl
theorem GK_fld (k : Nat) : (GK k).fld = Y.fld := rfl
theorem GK_hot (k : Nat) : (GK k).hot = Y.hot := rfl
theorem Rn_at {k f p s : Nat} {b : CSs} {vs : List D} {S : Store} (h : Y.L.T[f]? = some ⟨p, s, b⟩) (hv : vs.length = p) :
    Rn (k + 1) f vs S = fin S (exs (GK k) none b (vs.map some ++ List.replicate (s - p) none) S) := run_at h hv
def isI : D → Bool
  | .int _ => true
  | _ => false
def isAm (a b : Int) : D → Bool
  | .int i => decide (a ≤ i) && decide (i ≤ b)
  | _ => false
theorem r_is_number (k : Nat) (d : D) (S : Store) (h : d.pln = true) : Rn (k + 1) (0 : Nat) [d] S = .ok (.bl (isI d)) S := by
  rw [Rn_at t_is_number rfl, b_is_number]
  cases d <;> (try (simp [D.pln] at h; done)) <;> simp only [xs_nil, xs_cons, evs, compF, x_asg, x_put, x_xpr, x_ret, x_cond, x_loop_seq, x_loop_enum, x_loop_rng, x_loop_zip, x_whl, x_raise, x_raiseN, x_tryx, x_tryr, x_pass, x_brk, x_cont, loopR_enum, loopR_tup, loopR_lst, ev_var, e_cst, e_bin, e_neg, e_cmp, e_chn, e_and, e_or, e_not, e_ite, e_tup, e_lst, e_new, e_dct, e_ix, e_sl, e_call, e_bi, e_mt, e_app, e_isi, e_comp_seq, e_comp_rng, e_comp_enum, e_comp_zip, e_xfld, bind_ok, bind_exc, to_ok, to_exc, opt_some, then_nx, then_rt, then_exc, d_val, d_new, tru_bl, tru_non, fin_bl, fin_int, fin_str, fin_non, fin_xnon, fin_xint, GK_call, GK_sub, GK_fld, GK_hot, List.map_cons, List.map_nil, List.cons_append, List.nil_append, List.replicate_succ, List.replicate_zero, Nat.sub_self, Nat.reduceSub, List.getElem?_cons_zero, List.getElem?_cons_succ, List.set_cons_zero, List.set_cons_succ, wipe, bindT, bindTs, List.length_cons, List.length_nil, Nat.reduceAdd, Nat.reduceLT, Nat.reduceLeDiff, Nat.zero_le, binW, binD, compL, stays_nil, decide_true, decide_false, LINE, Int.cast_ofNat_Int, Int.reduceLE, Int.reduceLT, Int.natCast_zero, Int.natCast_one, ixL_0, ixL_1, ixL_2, eqD_int, eqD_str, ixD_tup, ixD_lst, biD, boolsOf, lstOf, Option.bind_some, List.all_cons, List.all_nil, id, isx_non, isx_bl, isx_int, isx_str, isx_tup, isx_lst, isx_frz, isx_ref, isx_exn, String.reduceBEq, Bool.or_false, Bool.or_true, Bool.true_or, Bool.false_or, Bool.and_true, Bool.true_and, Bool.and_false, Bool.false_and, reduceIte, Bool.false_eq_true, Option.map_some, Option.map_none, Bool.not_true, Bool.not_false, isiD, isI]
theorem r_is_among (k : Nat) (d : D) (a b : Int) (S : Store) (h : d.pln = true) : Rn (k + 2) (1 : Nat) [d, .int a, .int b] S = .ok (.bl (isAm a b d)) S := by
  rw [Rn_at t_is_among rfl, b_is_among]
  simp only [xs_nil, xs_cons, evs, compF, x_asg, x_put, x_xpr, x_ret, x_cond, x_loop_seq, x_loop_enum, x_loop_rng, x_loop_zip, x_whl, x_raise, x_raiseN, x_tryx, x_tryr, x_pass, x_brk, x_cont, loopR_enum, loopR_tup, loopR_lst, ev_var, e_cst, e_bin, e_neg, e_cmp, e_chn, e_and, e_or, e_not, e_ite, e_tup, e_lst, e_new, e_dct, e_ix, e_sl, e_call, e_bi, e_mt, e_app, e_isi, e_comp_seq, e_comp_rng, e_comp_enum, e_comp_zip, e_xfld, bind_ok, bind_exc, to_ok, to_exc, opt_some, then_nx, then_rt, then_exc, d_val, d_new, tru_bl, tru_non, fin_bl, fin_int, fin_str, fin_non, fin_xnon, fin_xint, GK_call, GK_sub, GK_fld, GK_hot, List.map_cons, List.map_nil, List.cons_append, List.nil_append, List.replicate_succ, List.replicate_zero, Nat.sub_self, Nat.reduceSub, List.getElem?_cons_zero, List.getElem?_cons_succ, List.set_cons_zero, List.set_cons_succ, wipe, bindT, bindTs, List.length_cons, List.length_nil, Nat.reduceAdd, Nat.reduceLT, Nat.reduceLeDiff, Nat.zero_le, binW, binD, compL, stays_nil, decide_true, decide_false, LINE, Int.cast_ofNat_Int, Int.reduceLE, Int.reduceLT, Int.natCast_zero, Int.natCast_one, ixL_0, ixL_1, ixL_2, eqD_int, eqD_str, ixD_tup, ixD_lst, biD, boolsOf, lstOf, Option.bind_some, List.all_cons, List.all_nil, id, isx_non, isx_bl, isx_int, isx_str, isx_tup, isx_lst, isx_frz, isx_ref, isx_exn, String.reduceBEq, Bool.or_false, Bool.or_true, Bool.true_or, Bool.false_or, Bool.and_true, Bool.true_and, Bool.and_false, Bool.false_and, reduceIte, Bool.false_eq_true, Option.map_some, Option.map_none, Bool.not_true, Bool.not_false, D.pln_isx h, r_is_number k d _ h]
  cases d
  case int i =>
    by_cases h1 : a ≤ i <;> (simp only [xs_nil, xs_cons, evs, compF, x_asg, x_put, x_xpr, x_ret, x_cond, x_loop_seq, x_loop_enum, x_loop_rng, x_loop_zip, x_whl, x_raise, x_raiseN, x_tryx, x_tryr, x_pass, x_brk, x_cont, loopR_enum, loopR_tup, loopR_lst, ev_var, e_cst, e_bin, e_neg, e_cmp, e_chn, e_and, e_or, e_not, e_ite, e_tup, e_lst, e_new, e_dct, e_ix, e_sl, e_call, e_bi, e_mt, e_app, e_isi, e_comp_seq, e_comp_rng, e_comp_enum, e_comp_zip, e_xfld, bind_ok, bind_exc, to_ok, to_exc, opt_some, then_nx, then_rt, then_exc, d_val, d_new, tru_bl, tru_non, fin_bl, fin_int, fin_str, fin_non, fin_xnon, fin_xint, GK_call, GK_sub, GK_fld, GK_hot, List.map_cons, List.map_nil, List.cons_append, List.nil_append, List.replicate_succ, List.replicate_zero, Nat.sub_self, Nat.reduceSub, List.getElem?_cons_zero, List.getElem?_cons_succ, List.set_cons_zero, List.set_cons_succ, wipe, bindT, bindTs, List.length_cons, List.length_nil, Nat.reduceAdd, Nat.reduceLT, Nat.reduceLeDiff, Nat.zero_le, binW, binD, compL, stays_nil, decide_true, decide_false, LINE, Int.cast_ofNat_Int, Int.reduceLE, Int.reduceLT, Int.natCast_zero, Int.natCast_one, ixL_0, ixL_1, ixL_2, eqD_int, eqD_str, ixD_tup, ixD_lst, biD, boolsOf, lstOf, Option.bind_some, List.all_cons, List.all_nil, id, isx_non, isx_bl, isx_int, isx_str, isx_tup, isx_lst, isx_frz, isx_ref, isx_exn, String.reduceBEq, Bool.or_false, Bool.or_true, Bool.true_or, Bool.false_or, Bool.and_true, Bool.true_and, Bool.and_false, Bool.false_and, reduceIte, Bool.false_eq_true, Option.map_some, Option.map_none, Bool.not_true, Bool.not_false, isI, isAm, cmpD, h1, decide_true, decide_false])
  all_goals (simp only [xs_nil, xs_cons, evs, compF, x_asg, x_put, x_xpr, x_ret, x_cond, x_loop_seq, x_loop_enum, x_loop_rng, x_loop_zip, x_whl, x_raise, x_raiseN, x_tryx, x_tryr, x_pass, x_brk, x_cont, loopR_enum, loopR_tup, loopR_lst, ev_var, e_cst, e_bin, e_neg, e_cmp, e_chn, e_and, e_or, e_not, e_ite, e_tup, e_lst, e_new, e_dct, e_ix, e_sl, e_call, e_bi, e_mt, e_app, e_isi, e_comp_seq, e_comp_rng, e_comp_enum, e_comp_zip, e_xfld, bind_ok, bind_exc, to_ok, to_exc, opt_some, then_nx, then_rt, then_exc, d_val, d_new, tru_bl, tru_non, fin_bl, fin_int, fin_str, fin_non, fin_xnon, fin_xint, GK_call, GK_sub, GK_fld, GK_hot, List.map_cons, List.map_nil, List.cons_append, List.nil_append, List.replicate_succ, List.replicate_zero, Nat.sub_self, Nat.reduceSub, List.getElem?_cons_zero, List.getElem?_cons_succ, List.set_cons_zero, List.set_cons_succ, wipe, bindT, bindTs, List.length_cons, List.length_nil, Nat.reduceAdd, Nat.reduceLT, Nat.reduceLeDiff, Nat.zero_le, binW, binD, compL, stays_nil, decide_true, decide_false, LINE, Int.cast_ofNat_Int, Int.reduceLE, Int.reduceLT, Int.natCast_zero, Int.natCast_one, ixL_0, ixL_1, ixL_2, eqD_int, eqD_str, ixD_tup, ixD_lst, biD, boolsOf, lstOf, Option.bind_some, List.all_cons, List.all_nil, id, isx_non, isx_bl, isx_int, isx_str, isx_tup, isx_lst, isx_frz, isx_ref, isx_exn, String.reduceBEq, Bool.or_false, Bool.or_true, Bool.true_or, Bool.false_or, Bool.and_true, Bool.true_and, Bool.and_false, Bool.false_and, reduceIte, Bool.false_eq_true, Option.map_some, Option.map_none, Bool.not_true, Bool.not_false, isI, isAm])
def isTup (a b : Int) : D → Bool
  | .tup xs => decide (a ≤ (xs.length : Int)) && decide ((xs.length : Int) ≤ b)
  | _ => false
theorem r_is_tuple_of (k : Nat) (d : D) (a b : Int) (S : Store) (h : d.pln = true) : Rn (k + 1) (2 : Nat) [d, .int a, .int b] S = .ok (.bl (isTup a b d)) S := by
  rw [Rn_at t_is_tuple_of rfl, b_is_tuple_of]
  cases d
  case tup xs =>
    by_cases h1 : a ≤ (xs.length : Int) <;> (simp only [xs_nil, xs_cons, evs, compF, x_asg, x_put, x_xpr, x_ret, x_cond, x_loop_seq, x_loop_enum, x_loop_rng, x_loop_zip, x_whl, x_raise, x_raiseN, x_tryx, x_tryr, x_pass, x_brk, x_cont, loopR_enum, loopR_tup, loopR_lst, ev_var, e_cst, e_bin, e_neg, e_cmp, e_chn, e_and, e_or, e_not, e_ite, e_tup, e_lst, e_new, e_dct, e_ix, e_sl, e_call, e_bi, e_mt, e_app, e_isi, e_comp_seq, e_comp_rng, e_comp_enum, e_comp_zip, e_xfld, bind_ok, bind_exc, to_ok, to_exc, opt_some, then_nx, then_rt, then_exc, d_val, d_new, tru_bl, tru_non, fin_bl, fin_int, fin_str, fin_non, fin_xnon, fin_xint, GK_call, GK_sub, GK_fld, GK_hot, List.map_cons, List.map_nil, List.cons_append, List.nil_append, List.replicate_succ, List.replicate_zero, Nat.sub_self, Nat.reduceSub, List.getElem?_cons_zero, List.getElem?_cons_succ, List.set_cons_zero, List.set_cons_succ, wipe, bindT, bindTs, List.length_cons, List.length_nil, Nat.reduceAdd, Nat.reduceLT, Nat.reduceLeDiff, Nat.zero_le, binW, binD, compL, stays_nil, decide_true, decide_false, LINE, Int.cast_ofNat_Int, Int.reduceLE, Int.reduceLT, Int.natCast_zero, Int.natCast_one, ixL_0, ixL_1, ixL_2, eqD_int, eqD_str, ixD_tup, ixD_lst, biD, boolsOf, lstOf, Option.bind_some, List.all_cons, List.all_nil, id, isx_non, isx_bl, isx_int, isx_str, isx_tup, isx_lst, isx_frz, isx_ref, isx_exn, String.reduceBEq, Bool.or_false, Bool.or_true, Bool.true_or, Bool.false_or, Bool.and_true, Bool.true_and, Bool.and_false, Bool.false_and, reduceIte, Bool.false_eq_true, Option.map_some, Option.map_none, Bool.not_true, Bool.not_false, isTup, isiD, lenD, cmpD, h1, decide_true, decide_false])
  all_goals first | (simp [D.pln] at h; done) | (simp only [xs_nil, xs_cons, evs, compF, x_asg, x_put, x_xpr, x_ret, x_cond, x_loop_seq, x_loop_enum, x_loop_rng, x_loop_zip, x_whl, x_raise, x_raiseN, x_tryx, x_tryr, x_pass, x_brk, x_cont, loopR_enum, loopR_tup, loopR_lst, ev_var, e_cst, e_bin, e_neg, e_cmp, e_chn, e_and, e_or, e_not, e_ite, e_tup, e_lst, e_new, e_dct, e_ix, e_sl, e_call, e_bi, e_mt, e_app, e_isi, e_comp_seq, e_comp_rng, e_comp_enum, e_comp_zip, e_xfld, bind_ok, bind_exc, to_ok, to_exc, opt_some, then_nx, then_rt, then_exc, d_val, d_new, tru_bl, tru_non, fin_bl, fin_int, fin_str, fin_non, fin_xnon, fin_xint, GK_call, GK_sub, GK_fld, GK_hot, List.map_cons, List.map_nil, List.cons_append, List.nil_append, List.replicate_succ, List.replicate_zero, Nat.sub_self, Nat.reduceSub, List.getElem?_cons_zero, List.getElem?_cons_succ, List.set_cons_zero, List.set_cons_succ, wipe, bindT, bindTs, List.length_cons, List.length_nil, Nat.reduceAdd, Nat.reduceLT, Nat.reduceLeDiff, Nat.zero_le, binW, binD, compL, stays_nil, decide_true, decide_false, LINE, Int.cast_ofNat_Int, Int.reduceLE, Int.reduceLT, Int.natCast_zero, Int.natCast_one, ixL_0, ixL_1, ixL_2, eqD_int, eqD_str, ixD_tup, ixD_lst, biD, boolsOf, lstOf, Option.bind_some, List.all_cons, List.all_nil, id, isx_non, isx_bl, isx_int, isx_str, isx_tup, isx_lst, isx_frz, isx_ref, isx_exn, String.reduceBEq, Bool.or_false, Bool.or_true, Bool.true_or, Bool.false_or, Bool.and_true, Bool.true_and, Bool.and_false, Bool.false_and, reduceIte, Bool.false_eq_true, Option.map_some, Option.map_none, Bool.not_true, Bool.not_false, isTup, isiD])
theorem isAm_int {a b : Int} {d : D} (h : isAm a b d = true) : ∃ i, d = .int i := by cases d <;> simp [isAm] at h; exact ⟨_, rfl⟩
def isRoad (n : Int) : D → Bool
  | .tup [a, b] => isAm 0 (n - 1) a && isAm 0 (n - 1) b && decide (a ≠ b)
  | _ => false
theorem isTup_2 {d : D} (h : isTup 2 2 d = true) : ∃ x y, d = .tup [x, y] := by
  cases d <;> simp [isTup] at h
  rename_i xs
  rcases xs with _ | ⟨x, _ | ⟨y, _ | ⟨z, xs⟩⟩⟩ <;> simp at h
  · exact ⟨x, y, rfl⟩
  · omega
theorem isTup_3 {d : D} (h : isTup 3 3 d = true) : ∃ x y z, d = .tup [x, y, z] := by
  cases d <;> simp [isTup] at h
  rename_i xs
  rcases xs with _ | ⟨x, _ | ⟨y, _ | ⟨z, _ | ⟨w, xs⟩⟩⟩⟩ <;> simp at h
  · exact ⟨x, y, z, rfl⟩
  · omega
theorem isRoad_tup {n : Int} {d : D} (h : isTup 2 2 d = false) : isRoad n d = false := by
  unfold isRoad; split
  · simp [isTup] at h
  · rfl
theorem r_is_road (k : Nat) (d : D) (n : Int) (S : Store) (h : d.pln = true) : Rn (k + 3) (3 : Nat) [d, .int n] S = .ok (.bl (isRoad n d)) S := by
  rw [Rn_at t_is_road rfl, b_is_road]
  simp only [xs_nil, xs_cons, evs, compF, x_asg, x_put, x_xpr, x_ret, x_cond, x_loop_seq, x_loop_enum, x_loop_rng, x_loop_zip, x_whl, x_raise, x_raiseN, x_tryx, x_tryr, x_pass, x_brk, x_cont, loopR_enum, loopR_tup, loopR_lst, ev_var, e_cst, e_bin, e_neg, e_cmp, e_chn, e_and, e_or, e_not, e_ite, e_tup, e_lst, e_new, e_dct, e_ix, e_sl, e_call, e_bi, e_mt, e_app, e_isi, e_comp_seq, e_comp_rng, e_comp_enum, e_comp_zip, e_xfld, bind_ok, bind_exc, to_ok, to_exc, opt_some, then_nx, then_rt, then_exc, d_val, d_new, tru_bl, tru_non, fin_bl, fin_int, fin_str, fin_non, fin_xnon, fin_xint, GK_call, GK_sub, GK_fld, GK_hot, List.map_cons, List.map_nil, List.cons_append, List.nil_append, List.replicate_succ, List.replicate_zero, Nat.sub_self, Nat.reduceSub, List.getElem?_cons_zero, List.getElem?_cons_succ, List.set_cons_zero, List.set_cons_succ, wipe, bindT, bindTs, List.length_cons, List.length_nil, Nat.reduceAdd, Nat.reduceLT, Nat.reduceLeDiff, Nat.zero_le, binW, binD, compL, stays_nil, decide_true, decide_false, LINE, Int.cast_ofNat_Int, Int.reduceLE, Int.reduceLT, Int.natCast_zero, Int.natCast_one, ixL_0, ixL_1, ixL_2, eqD_int, eqD_str, ixD_tup, ixD_lst, biD, boolsOf, lstOf, Option.bind_some, List.all_cons, List.all_nil, id, isx_non, isx_bl, isx_int, isx_str, isx_tup, isx_lst, isx_frz, isx_ref, isx_exn, String.reduceBEq, Bool.or_false, Bool.or_true, Bool.true_or, Bool.false_or, Bool.and_true, Bool.true_and, Bool.and_false, Bool.false_and, reduceIte, Bool.false_eq_true, Option.map_some, Option.map_none, Bool.not_true, Bool.not_false, D.pln_isx h, r_is_tuple_of (k + 1) d _ _ _ h]
  cases ht : isTup 2 2 d
  · simp only [xs_nil, xs_cons, evs, compF, x_asg, x_put, x_xpr, x_ret, x_cond, x_loop_seq, x_loop_enum, x_loop_rng, x_loop_zip, x_whl, x_raise, x_raiseN, x_tryx, x_tryr, x_pass, x_brk, x_cont, loopR_enum, loopR_tup, loopR_lst, ev_var, e_cst, e_bin, e_neg, e_cmp, e_chn, e_and, e_or, e_not, e_ite, e_tup, e_lst, e_new, e_dct, e_ix, e_sl, e_call, e_bi, e_mt, e_app, e_isi, e_comp_seq, e_comp_rng, e_comp_enum, e_comp_zip, e_xfld, bind_ok, bind_exc, to_ok, to_exc, opt_some, then_nx, then_rt, then_exc, d_val, d_new, tru_bl, tru_non, fin_bl, fin_int, fin_str, fin_non, fin_xnon, fin_xint, GK_call, GK_sub, GK_fld, GK_hot, List.map_cons, List.map_nil, List.cons_append, List.nil_append, List.replicate_succ, List.replicate_zero, Nat.sub_self, Nat.reduceSub, List.getElem?_cons_zero, List.getElem?_cons_succ, List.set_cons_zero, List.set_cons_succ, wipe, bindT, bindTs, List.length_cons, List.length_nil, Nat.reduceAdd, Nat.reduceLT, Nat.reduceLeDiff, Nat.zero_le, binW, binD, compL, stays_nil, decide_true, decide_false, LINE, Int.cast_ofNat_Int, Int.reduceLE, Int.reduceLT, Int.natCast_zero, Int.natCast_one, ixL_0, ixL_1, ixL_2, eqD_int, eqD_str, ixD_tup, ixD_lst, biD, boolsOf, lstOf, Option.bind_some, List.all_cons, List.all_nil, id, isx_non, isx_bl, isx_int, isx_str, isx_tup, isx_lst, isx_frz, isx_ref, isx_exn, String.reduceBEq, Bool.or_false, Bool.or_true, Bool.true_or, Bool.false_or, Bool.and_true, Bool.true_and, Bool.and_false, Bool.false_and, reduceIte, Bool.false_eq_true, Option.map_some, Option.map_none, Bool.not_true, Bool.not_false, isRoad_tup ht]
  · obtain ⟨x, y, rfl⟩ := isTup_2 ht
    have hx : x.pln = true ∧ y.pln = true := by simpa [D.pln, D.plns] using h
    simp only [xs_nil, xs_cons, evs, compF, x_asg, x_put, x_xpr, x_ret, x_cond, x_loop_seq, x_loop_enum, x_loop_rng, x_loop_zip, x_whl, x_raise, x_raiseN, x_tryx, x_tryr, x_pass, x_brk, x_cont, loopR_enum, loopR_tup, loopR_lst, ev_var, e_cst, e_bin, e_neg, e_cmp, e_chn, e_and, e_or, e_not, e_ite, e_tup, e_lst, e_new, e_dct, e_ix, e_sl, e_call, e_bi, e_mt, e_app, e_isi, e_comp_seq, e_comp_rng, e_comp_enum, e_comp_zip, e_xfld, bind_ok, bind_exc, to_ok, to_exc, opt_some, then_nx, then_rt, then_exc, d_val, d_new, tru_bl, tru_non, fin_bl, fin_int, fin_str, fin_non, fin_xnon, fin_xint, GK_call, GK_sub, GK_fld, GK_hot, List.map_cons, List.map_nil, List.cons_append, List.nil_append, List.replicate_succ, List.replicate_zero, Nat.sub_self, Nat.reduceSub, List.getElem?_cons_zero, List.getElem?_cons_succ, List.set_cons_zero, List.set_cons_succ, wipe, bindT, bindTs, List.length_cons, List.length_nil, Nat.reduceAdd, Nat.reduceLT, Nat.reduceLeDiff, Nat.zero_le, binW, binD, compL, stays_nil, decide_true, decide_false, LINE, Int.cast_ofNat_Int, Int.reduceLE, Int.reduceLT, Int.natCast_zero, Int.natCast_one, ixL_0, ixL_1, ixL_2, eqD_int, eqD_str, ixD_tup, ixD_lst, biD, boolsOf, lstOf, Option.bind_some, List.all_cons, List.all_nil, id, isx_non, isx_bl, isx_int, isx_str, isx_tup, isx_lst, isx_frz, isx_ref, isx_exn, String.reduceBEq, Bool.or_false, Bool.or_true, Bool.true_or, Bool.false_or, Bool.and_true, Bool.true_and, Bool.and_false, Bool.false_and, reduceIte, Bool.false_eq_true, Option.map_some, Option.map_none, Bool.not_true, Bool.not_false, itemsOf, srcOf, D.pln_isx hx.1, D.pln_isx hx.2, r_is_among k x _ _ _ hx.1, r_is_among k y _ _ _ hx.2]
    cases hx1 : isAm 0 (n - 1) x
    · simp only [xs_nil, xs_cons, evs, compF, x_asg, x_put, x_xpr, x_ret, x_cond, x_loop_seq, x_loop_enum, x_loop_rng, x_loop_zip, x_whl, x_raise, x_raiseN, x_tryx, x_tryr, x_pass, x_brk, x_cont, loopR_enum, loopR_tup, loopR_lst, ev_var, e_cst, e_bin, e_neg, e_cmp, e_chn, e_and, e_or, e_not, e_ite, e_tup, e_lst, e_new, e_dct, e_ix, e_sl, e_call, e_bi, e_mt, e_app, e_isi, e_comp_seq, e_comp_rng, e_comp_enum, e_comp_zip, e_xfld, bind_ok, bind_exc, to_ok, to_exc, opt_some, then_nx, then_rt, then_exc, d_val, d_new, tru_bl, tru_non, fin_bl, fin_int, fin_str, fin_non, fin_xnon, fin_xint, GK_call, GK_sub, GK_fld, GK_hot, List.map_cons, List.map_nil, List.cons_append, List.nil_append, List.replicate_succ, List.replicate_zero, Nat.sub_self, Nat.reduceSub, List.getElem?_cons_zero, List.getElem?_cons_succ, List.set_cons_zero, List.set_cons_succ, wipe, bindT, bindTs, List.length_cons, List.length_nil, Nat.reduceAdd, Nat.reduceLT, Nat.reduceLeDiff, Nat.zero_le, binW, binD, compL, stays_nil, decide_true, decide_false, LINE, Int.cast_ofNat_Int, Int.reduceLE, Int.reduceLT, Int.natCast_zero, Int.natCast_one, ixL_0, ixL_1, ixL_2, eqD_int, eqD_str, ixD_tup, ixD_lst, biD, boolsOf, lstOf, Option.bind_some, List.all_cons, List.all_nil, id, isx_non, isx_bl, isx_int, isx_str, isx_tup, isx_lst, isx_frz, isx_ref, isx_exn, String.reduceBEq, Bool.or_false, Bool.or_true, Bool.true_or, Bool.false_or, Bool.and_true, Bool.true_and, Bool.and_false, Bool.false_and, reduceIte, Bool.false_eq_true, Option.map_some, Option.map_none, Bool.not_true, Bool.not_false, isRoad, hx1]
    cases hy1 : isAm 0 (n - 1) y
    · simp only [xs_nil, xs_cons, evs, compF, x_asg, x_put, x_xpr, x_ret, x_cond, x_loop_seq, x_loop_enum, x_loop_rng, x_loop_zip, x_whl, x_raise, x_raiseN, x_tryx, x_tryr, x_pass, x_brk, x_cont, loopR_enum, loopR_tup, loopR_lst, ev_var, e_cst, e_bin, e_neg, e_cmp, e_chn, e_and, e_or, e_not, e_ite, e_tup, e_lst, e_new, e_dct, e_ix, e_sl, e_call, e_bi, e_mt, e_app, e_isi, e_comp_seq, e_comp_rng, e_comp_enum, e_comp_zip, e_xfld, bind_ok, bind_exc, to_ok, to_exc, opt_some, then_nx, then_rt, then_exc, d_val, d_new, tru_bl, tru_non, fin_bl, fin_int, fin_str, fin_non, fin_xnon, fin_xint, GK_call, GK_sub, GK_fld, GK_hot, List.map_cons, List.map_nil, List.cons_append, List.nil_append, List.replicate_succ, List.replicate_zero, Nat.sub_self, Nat.reduceSub, List.getElem?_cons_zero, List.getElem?_cons_succ, List.set_cons_zero, List.set_cons_succ, wipe, bindT, bindTs, List.length_cons, List.length_nil, Nat.reduceAdd, Nat.reduceLT, Nat.reduceLeDiff, Nat.zero_le, binW, binD, compL, stays_nil, decide_true, decide_false, LINE, Int.cast_ofNat_Int, Int.reduceLE, Int.reduceLT, Int.natCast_zero, Int.natCast_one, ixL_0, ixL_1, ixL_2, eqD_int, eqD_str, ixD_tup, ixD_lst, biD, boolsOf, lstOf, Option.bind_some, List.all_cons, List.all_nil, id, isx_non, isx_bl, isx_int, isx_str, isx_tup, isx_lst, isx_frz, isx_ref, isx_exn, String.reduceBEq, Bool.or_false, Bool.or_true, Bool.true_or, Bool.false_or, Bool.and_true, Bool.true_and, Bool.and_false, Bool.false_and, reduceIte, Bool.false_eq_true, Option.map_some, Option.map_none, Bool.not_true, Bool.not_false, isRoad, hx1, hy1]
    obtain ⟨i, rfl⟩ := isAm_int hx1
    obtain ⟨j, rfl⟩ := isAm_int hy1
    simp only [xs_nil, xs_cons, evs, compF, x_asg, x_put, x_xpr, x_ret, x_cond, x_loop_seq, x_loop_enum, x_loop_rng, x_loop_zip, x_whl, x_raise, x_raiseN, x_tryx, x_tryr, x_pass, x_brk, x_cont, loopR_enum, loopR_tup, loopR_lst, ev_var, e_cst, e_bin, e_neg, e_cmp, e_chn, e_and, e_or, e_not, e_ite, e_tup, e_lst, e_new, e_dct, e_ix, e_sl, e_call, e_bi, e_mt, e_app, e_isi, e_comp_seq, e_comp_rng, e_comp_enum, e_comp_zip, e_xfld, bind_ok, bind_exc, to_ok, to_exc, opt_some, then_nx, then_rt, then_exc, d_val, d_new, tru_bl, tru_non, fin_bl, fin_int, fin_str, fin_non, fin_xnon, fin_xint, GK_call, GK_sub, GK_fld, GK_hot, List.map_cons, List.map_nil, List.cons_append, List.nil_append, List.replicate_succ, List.replicate_zero, Nat.sub_self, Nat.reduceSub, List.getElem?_cons_zero, List.getElem?_cons_succ, List.set_cons_zero, List.set_cons_succ, wipe, bindT, bindTs, List.length_cons, List.length_nil, Nat.reduceAdd, Nat.reduceLT, Nat.reduceLeDiff, Nat.zero_le, binW, binD, compL, stays_nil, decide_true, decide_false, LINE, Int.cast_ofNat_Int, Int.reduceLE, Int.reduceLT, Int.natCast_zero, Int.natCast_one, ixL_0, ixL_1, ixL_2, eqD_int, eqD_str, ixD_tup, ixD_lst, biD, boolsOf, lstOf, Option.bind_some, List.all_cons, List.all_nil, id, isx_non, isx_bl, isx_int, isx_str, isx_tup, isx_lst, isx_frz, isx_ref, isx_exn, String.reduceBEq, Bool.or_false, Bool.or_true, Bool.true_or, Bool.false_or, Bool.and_true, Bool.true_and, Bool.and_false, Bool.false_and, reduceIte, Bool.false_eq_true, Option.map_some, Option.map_none, Bool.not_true, Bool.not_false, isRoad, hx1, hy1, cmpD]
    simp

def roadsFault (n : Int) : List D → List D → Nat → Option Nat
  | _, [], _ => none
  | known, r :: rs, i => if isRoad n r && !(known.contains r) then roadsFault n (known ++ [r]) rs (i + 1) else some i
def netFault : D → Option D
  | .tup [a, b] => if isAm 1 16 a then (if isTup 0 60 b then (match a, b with
      | .int n, .tup rs => (roadsFault n [] rs 0).map fun i => .tup [.int 1, .int (i : Nat)]
      | _, _ => some (.int 1)) else some (.int 1)) else some (.int 0)
  | _ => some .non
def resOf (c : Nat) (d : D) (S : Store) : Option D → R D
  | none => .ok d S
  | some p => .exc c p S
theorem isRoad_ints {n : Int} {d : D} (h : isRoad n d = true) : ∃ i j, d = .tup [.int i, .int j] ∧ 0 ≤ i ∧ i < n ∧ 0 ≤ j ∧ j < n ∧ i ≠ j := by
  unfold isRoad at h; split at h
  · rename_i a b
    simp only [Bool.and_eq_true, decide_eq_true_eq] at h
    obtain ⟨i, rfl⟩ := isAm_int h.1.1
    obtain ⟨j, rfl⟩ := isAm_int h.1.2
    simp [isAm] at h
    exact ⟨i, j, rfl, by omega, by omega, by omega, by omega, h.2⟩
  · simp at h
def kdR (known : List D) : List (D × D) := known.map fun r => (r, .bl true)
theorem dget_kdR (known : List D) (r : D) : (dget (kdR known) r).isSome = known.contains r := by
  induction known with
  | nil => rfl
  | cons x xs ih =>
    simp only [kdR, dget, List.map_cons, List.find?_cons, List.contains_cons] at ih ⊢
    by_cases h : x = r
    · subst h; simp
    · have h' : ¬ r = x := fun e => h e.symm
      have hb : (r == x) = false := by simpa using h'
      simp only [h, decide_false, hb, Bool.false_or]; exact ih
theorem dput_kdR {known : List D} {r : D} (h : known.contains r = false) : dput (kdR known) r (.bl true) = kdR (known ++ [r]) := by
  unfold dput
  rw [if_neg]
  · simp [kdR]
  · simp only [kdR, List.any_map, List.any_eq_true, Function.comp, decide_eq_true_eq, not_exists, not_and]
    intro x hx e
    subst e
    simp [hx] at h
theorem kdR_len (known : List D) : (kdR known).length = known.length := by simp [kdR]
theorem need_net_loop (k : Nat) (f : D → Env → Store → RS) (n : Int) (net : D) (S : Store)
    (hf : f = bodyF (GK (k + 3)) none (.tp [(.nm 2), (.nm 3)]) (.cons (.cond (.or (.not (.call (3 : Nat) (.cons (.var 3) (.cons (.ix (.var 0) (.cst (.int (0)))) .nil)))) (.cmp .isin (.var 3) (.var 1)))
  (.cons (.raise 0 (.tup (.cons (.cst (.int (1))) (.cons (.var 2) .nil))))
  .nil)
  .nil)
  (.cons (.put (.var 1) (.var 3) (.cst (.bl true)))
  .nil))) (b : D) : ∀ (rs known : List D) (i : Nat) (u v : Option D), D.plns rs = true → known.length + rs.length ≤ 60 →
    match roadsFault n known rs i with
    | none => ∃ u' v' X, forL [] f (en i rs) [some (.tup [.int n, b]), some (.ref S.length), u, v] (S ++ [.dct true (kdR known)]) = .nx [some (.tup [.int n, b]), some (.ref S.length), u', v'] (S ++ X)
    | some j => ∃ ρ X, forL [] f (en i rs) [some (.tup [.int n, b]), some (.ref S.length), u, v] (S ++ [.dct true (kdR known)]) = .exc 0 (.tup [.int 1, .int (j : Nat)]) ρ (S ++ X)
  | [], known, i, u, v, _, _ => ⟨u, v, [.dct true (kdR known)], by simp [en, forL, stays]⟩
  | r :: rs, known, i, u, v, hp, hl => by
    have hr : r.pln = true ∧ D.plns rs = true := by simpa [D.plns] using hp
    have hl' : known.length + rs.length + 1 ≤ 60 := by simpa [Nat.add_assoc] using hl
    have ih := need_net_loop k f n net S hf b rs (known ++ [r]) (i + 1) (some (.int i)) (some r) hr.2 (by simp; omega)
    have st : forL [] f (en i (r :: rs)) [some (.tup [.int n, b]), some (.ref S.length), u, v] (S ++ [.dct true (kdR known)]) =
      match f (.tup [.int (i : Nat), r]) [some (.tup [.int n, b]), some (.ref S.length), u, v] (S ++ [.dct true (kdR known)]) with
      | .nx ρ' S' => forL [] f (en (i + 1) rs) ρ' S'
      | .ct ρ' S' => forL [] f (en (i + 1) rs) ρ' S'
      | .bk ρ' S' => .nx ρ' S'
      | r => r := by
      rw [en, forL, if_pos (stays_nil _)] <;> rfl
    have ef : f (.tup [.int (i : Nat), r]) [some (.tup [.int n, b]), some (.ref S.length), u, v] (S ++ [.dct true (kdR known)]) =
      if isRoad n r && !(known.contains r) then .nx [some (.tup [.int n, b]), some (.ref S.length), some (.int i), some r] (S ++ [.dct true (kdR (known ++ [r]))])
      else .exc 0 (.tup [.int 1, .int (i : Nat)]) [some (.tup [.int n, b]), some (.ref S.length), some (.int i), some r] (S ++ [.dct true (kdR known)]) := by
      rw [hf, bodyF]
      simp only [xs_nil, xs_cons, evs, compF, x_asg, x_put, x_xpr, x_ret, x_cond, x_loop_seq, x_loop_enum, x_loop_rng, x_loop_zip, x_whl, x_raise, x_raiseN, x_tryx, x_tryr, x_pass, x_brk, x_cont, loopR_enum, loopR_tup, loopR_lst, ev_var, e_cst, e_bin, e_neg, e_cmp, e_chn, e_and, e_or, e_not, e_ite, e_tup, e_lst, e_new, e_dct, e_ix, e_sl, e_call, e_bi, e_mt, e_app, e_isi, e_comp_seq, e_comp_rng, e_comp_enum, e_comp_zip, e_xfld, bind_ok, bind_exc, to_ok, to_exc, opt_some, then_nx, then_rt, then_exc, d_val, d_new, tru_bl, tru_non, fin_bl, fin_int, fin_str, fin_non, fin_xnon, fin_xint, GK_call, GK_sub, GK_fld, GK_hot, List.map_cons, List.map_nil, List.cons_append, List.nil_append, List.replicate_succ, List.replicate_zero, Nat.sub_self, Nat.reduceSub, List.getElem?_cons_zero, List.getElem?_cons_succ, List.set_cons_zero, List.set_cons_succ, wipe, bindT, bindTs, List.length_cons, List.length_nil, Nat.reduceAdd, Nat.reduceLT, Nat.reduceLeDiff, Nat.zero_le, binW, binD, compL, stays_nil, decide_true, decide_false, LINE, Int.cast_ofNat_Int, Int.reduceLE, Int.reduceLT, Int.natCast_zero, Int.natCast_one, ixL_0, ixL_1, ixL_2, eqD_int, eqD_str, ixD_tup, ixD_lst, biD, boolsOf, lstOf, Option.bind_some, List.all_cons, List.all_nil, id, isx_non, isx_bl, isx_int, isx_str, isx_tup, isx_lst, isx_frz, isx_ref, isx_exn, String.reduceBEq, Bool.or_false, Bool.or_true, Bool.true_or, Bool.false_or, Bool.and_true, Bool.true_and, Bool.and_false, Bool.false_and, reduceIte, Bool.false_eq_true, Option.map_some, Option.map_none, Bool.not_true, Bool.not_false, D.pln_isx hr.1, r_is_road k r n _ hr.1]
      cases h1 : isRoad n r
      · simp only [xs_nil, xs_cons, evs, compF, x_asg, x_put, x_xpr, x_ret, x_cond, x_loop_seq, x_loop_enum, x_loop_rng, x_loop_zip, x_whl, x_raise, x_raiseN, x_tryx, x_tryr, x_pass, x_brk, x_cont, loopR_enum, loopR_tup, loopR_lst, ev_var, e_cst, e_bin, e_neg, e_cmp, e_chn, e_and, e_or, e_not, e_ite, e_tup, e_lst, e_new, e_dct, e_ix, e_sl, e_call, e_bi, e_mt, e_app, e_isi, e_comp_seq, e_comp_rng, e_comp_enum, e_comp_zip, e_xfld, bind_ok, bind_exc, to_ok, to_exc, opt_some, then_nx, then_rt, then_exc, d_val, d_new, tru_bl, tru_non, fin_bl, fin_int, fin_str, fin_non, fin_xnon, fin_xint, GK_call, GK_sub, GK_fld, GK_hot, List.map_cons, List.map_nil, List.cons_append, List.nil_append, List.replicate_succ, List.replicate_zero, Nat.sub_self, Nat.reduceSub, List.getElem?_cons_zero, List.getElem?_cons_succ, List.set_cons_zero, List.set_cons_succ, wipe, bindT, bindTs, List.length_cons, List.length_nil, Nat.reduceAdd, Nat.reduceLT, Nat.reduceLeDiff, Nat.zero_le, binW, binD, compL, stays_nil, decide_true, decide_false, LINE, Int.cast_ofNat_Int, Int.reduceLE, Int.reduceLT, Int.natCast_zero, Int.natCast_one, ixL_0, ixL_1, ixL_2, eqD_int, eqD_str, ixD_tup, ixD_lst, biD, boolsOf, lstOf, Option.bind_some, List.all_cons, List.all_nil, id, isx_non, isx_bl, isx_int, isx_str, isx_tup, isx_lst, isx_frz, isx_ref, isx_exn, String.reduceBEq, Bool.or_false, Bool.or_true, Bool.true_or, Bool.false_or, Bool.and_true, Bool.true_and, Bool.and_false, Bool.false_and, reduceIte, Bool.false_eq_true, Option.map_some, Option.map_none, Bool.not_true, Bool.not_false]
      · obtain ⟨x, y, rfl, _⟩ := isRoad_ints h1
        simp only [xs_nil, xs_cons, evs, compF, x_asg, x_put, x_xpr, x_ret, x_cond, x_loop_seq, x_loop_enum, x_loop_rng, x_loop_zip, x_whl, x_raise, x_raiseN, x_tryx, x_tryr, x_pass, x_brk, x_cont, loopR_enum, loopR_tup, loopR_lst, ev_var, e_cst, e_bin, e_neg, e_cmp, e_chn, e_and, e_or, e_not, e_ite, e_tup, e_lst, e_new, e_dct, e_ix, e_sl, e_call, e_bi, e_mt, e_app, e_isi, e_comp_seq, e_comp_rng, e_comp_enum, e_comp_zip, e_xfld, bind_ok, bind_exc, to_ok, to_exc, opt_some, then_nx, then_rt, then_exc, d_val, d_new, tru_bl, tru_non, fin_bl, fin_int, fin_str, fin_non, fin_xnon, fin_xint, GK_call, GK_sub, GK_fld, GK_hot, List.map_cons, List.map_nil, List.cons_append, List.nil_append, List.replicate_succ, List.replicate_zero, Nat.sub_self, Nat.reduceSub, List.getElem?_cons_zero, List.getElem?_cons_succ, List.set_cons_zero, List.set_cons_succ, wipe, bindT, bindTs, List.length_cons, List.length_nil, Nat.reduceAdd, Nat.reduceLT, Nat.reduceLeDiff, Nat.zero_le, binW, binD, compL, stays_nil, decide_true, decide_false, LINE, Int.cast_ofNat_Int, Int.reduceLE, Int.reduceLT, Int.natCast_zero, Int.natCast_one, ixL_0, ixL_1, ixL_2, eqD_int, eqD_str, ixD_tup, ixD_lst, biD, boolsOf, lstOf, Option.bind_some, List.all_cons, List.all_nil, id, isx_non, isx_bl, isx_int, isx_str, isx_tup, isx_lst, isx_frz, isx_ref, isx_exn, String.reduceBEq, Bool.or_false, Bool.or_true, Bool.true_or, Bool.false_or, Bool.and_true, Bool.true_and, Bool.and_false, Bool.false_and, reduceIte, Bool.false_eq_true, Option.map_some, Option.map_none, Bool.not_true, Bool.not_false, cmpD, inD, get_app, keyOk, flatKey, List.all_cons, List.all_nil, dget_kdR]
        cases h2 : known.contains (D.tup [D.int x, D.int y])
        · have hk : decide (known.length < 16777216) = true := by simp; omega
          simp only [xs_nil, xs_cons, evs, compF, x_asg, x_put, x_xpr, x_ret, x_cond, x_loop_seq, x_loop_enum, x_loop_rng, x_loop_zip, x_whl, x_raise, x_raiseN, x_tryx, x_tryr, x_pass, x_brk, x_cont, loopR_enum, loopR_tup, loopR_lst, ev_var, e_cst, e_bin, e_neg, e_cmp, e_chn, e_and, e_or, e_not, e_ite, e_tup, e_lst, e_new, e_dct, e_ix, e_sl, e_call, e_bi, e_mt, e_app, e_isi, e_comp_seq, e_comp_rng, e_comp_enum, e_comp_zip, e_xfld, bind_ok, bind_exc, to_ok, to_exc, opt_some, then_nx, then_rt, then_exc, d_val, d_new, tru_bl, tru_non, fin_bl, fin_int, fin_str, fin_non, fin_xnon, fin_xint, GK_call, GK_sub, GK_fld, GK_hot, List.map_cons, List.map_nil, List.cons_append, List.nil_append, List.replicate_succ, List.replicate_zero, Nat.sub_self, Nat.reduceSub, List.getElem?_cons_zero, List.getElem?_cons_succ, List.set_cons_zero, List.set_cons_succ, wipe, bindT, bindTs, List.length_cons, List.length_nil, Nat.reduceAdd, Nat.reduceLT, Nat.reduceLeDiff, Nat.zero_le, binW, binD, compL, stays_nil, decide_true, decide_false, LINE, Int.cast_ofNat_Int, Int.reduceLE, Int.reduceLT, Int.natCast_zero, Int.natCast_one, ixL_0, ixL_1, ixL_2, eqD_int, eqD_str, ixD_tup, ixD_lst, biD, boolsOf, lstOf, Option.bind_some, List.all_cons, List.all_nil, id, isx_non, isx_bl, isx_int, isx_str, isx_tup, isx_lst, isx_frz, isx_ref, isx_exn, String.reduceBEq, Bool.or_false, Bool.or_true, Bool.true_or, Bool.false_or, Bool.and_true, Bool.true_and, Bool.and_false, Bool.false_and, reduceIte, Bool.false_eq_true, Option.map_some, Option.map_none, Bool.not_true, Bool.not_false, putD, get_app, keyOk, flatKey, List.all_cons, List.all_nil, kdR_len, set_app, dput_kdR h2, hk]
        · simp only [xs_nil, xs_cons, evs, compF, x_asg, x_put, x_xpr, x_ret, x_cond, x_loop_seq, x_loop_enum, x_loop_rng, x_loop_zip, x_whl, x_raise, x_raiseN, x_tryx, x_tryr, x_pass, x_brk, x_cont, loopR_enum, loopR_tup, loopR_lst, ev_var, e_cst, e_bin, e_neg, e_cmp, e_chn, e_and, e_or, e_not, e_ite, e_tup, e_lst, e_new, e_dct, e_ix, e_sl, e_call, e_bi, e_mt, e_app, e_isi, e_comp_seq, e_comp_rng, e_comp_enum, e_comp_zip, e_xfld, bind_ok, bind_exc, to_ok, to_exc, opt_some, then_nx, then_rt, then_exc, d_val, d_new, tru_bl, tru_non, fin_bl, fin_int, fin_str, fin_non, fin_xnon, fin_xint, GK_call, GK_sub, GK_fld, GK_hot, List.map_cons, List.map_nil, List.cons_append, List.nil_append, List.replicate_succ, List.replicate_zero, Nat.sub_self, Nat.reduceSub, List.getElem?_cons_zero, List.getElem?_cons_succ, List.set_cons_zero, List.set_cons_succ, wipe, bindT, bindTs, List.length_cons, List.length_nil, Nat.reduceAdd, Nat.reduceLT, Nat.reduceLeDiff, Nat.zero_le, binW, binD, compL, stays_nil, decide_true, decide_false, LINE, Int.cast_ofNat_Int, Int.reduceLE, Int.reduceLT, Int.natCast_zero, Int.natCast_one, ixL_0, ixL_1, ixL_2, eqD_int, eqD_str, ixD_tup, ixD_lst, biD, boolsOf, lstOf, Option.bind_some, List.all_cons, List.all_nil, id, isx_non, isx_bl, isx_int, isx_str, isx_tup, isx_lst, isx_frz, isx_ref, isx_exn, String.reduceBEq, Bool.or_false, Bool.or_true, Bool.true_or, Bool.false_or, Bool.and_true, Bool.true_and, Bool.and_false, Bool.false_and, reduceIte, Bool.false_eq_true, Option.map_some, Option.map_none, Bool.not_true, Bool.not_false]
    rw [st, ef, roadsFault]
    cases h : isRoad n r && !(known.contains r)
    · simp only [Bool.false_eq_true, if_false]; exact ⟨_, _, rfl⟩
    · simp only [if_true]; exact ih
theorem isTup_tup {a b : Int} {d : D} (h : isTup a b d = true) : ∃ xs, d = .tup xs ∧ a ≤ xs.length ∧ (xs.length : Int) ≤ b := by
  cases d <;> simp [isTup] at h
  exact ⟨_, rfl, h⟩
theorem r_need_net (k : Nat) (d : D) (S : Store) (h : d.pln = true) : Rn (k + 4) (4 : Nat) [d] S = resOf 0 d S (netFault d) := by
  rw [Rn_at t_need_net rfl, b_need_net]
  simp only [xs_nil, xs_cons, evs, compF, x_asg, x_put, x_xpr, x_ret, x_cond, x_loop_seq, x_loop_enum, x_loop_rng, x_loop_zip, x_whl, x_raise, x_raiseN, x_tryx, x_tryr, x_pass, x_brk, x_cont, loopR_enum, loopR_tup, loopR_lst, ev_var, e_cst, e_bin, e_neg, e_cmp, e_chn, e_and, e_or, e_not, e_ite, e_tup, e_lst, e_new, e_dct, e_ix, e_sl, e_call, e_bi, e_mt, e_app, e_isi, e_comp_seq, e_comp_rng, e_comp_enum, e_comp_zip, e_xfld, bind_ok, bind_exc, to_ok, to_exc, opt_some, then_nx, then_rt, then_exc, d_val, d_new, tru_bl, tru_non, fin_bl, fin_int, fin_str, fin_non, fin_xnon, fin_xint, GK_call, GK_sub, GK_fld, GK_hot, List.map_cons, List.map_nil, List.cons_append, List.nil_append, List.replicate_succ, List.replicate_zero, Nat.sub_self, Nat.reduceSub, List.getElem?_cons_zero, List.getElem?_cons_succ, List.set_cons_zero, List.set_cons_succ, wipe, bindT, bindTs, List.length_cons, List.length_nil, Nat.reduceAdd, Nat.reduceLT, Nat.reduceLeDiff, Nat.zero_le, binW, binD, compL, stays_nil, decide_true, decide_false, LINE, Int.cast_ofNat_Int, Int.reduceLE, Int.reduceLT, Int.natCast_zero, Int.natCast_one, ixL_0, ixL_1, ixL_2, eqD_int, eqD_str, ixD_tup, ixD_lst, biD, boolsOf, lstOf, Option.bind_some, List.all_cons, List.all_nil, id, isx_non, isx_bl, isx_int, isx_str, isx_tup, isx_lst, isx_frz, isx_ref, isx_exn, String.reduceBEq, Bool.or_false, Bool.or_true, Bool.true_or, Bool.false_or, Bool.and_true, Bool.true_and, Bool.and_false, Bool.false_and, reduceIte, Bool.false_eq_true, Option.map_some, Option.map_none, Bool.not_true, Bool.not_false, D.pln_isx h, r_is_tuple_of (k + 2) d _ _ _ h]
  cases ht : isTup 2 2 d
  · have e : netFault d = some .non := by
      unfold netFault; split
      · simp [isTup] at ht
      · rfl
    simp only [xs_nil, xs_cons, evs, compF, x_asg, x_put, x_xpr, x_ret, x_cond, x_loop_seq, x_loop_enum, x_loop_rng, x_loop_zip, x_whl, x_raise, x_raiseN, x_tryx, x_tryr, x_pass, x_brk, x_cont, loopR_enum, loopR_tup, loopR_lst, ev_var, e_cst, e_bin, e_neg, e_cmp, e_chn, e_and, e_or, e_not, e_ite, e_tup, e_lst, e_new, e_dct, e_ix, e_sl, e_call, e_bi, e_mt, e_app, e_isi, e_comp_seq, e_comp_rng, e_comp_enum, e_comp_zip, e_xfld, bind_ok, bind_exc, to_ok, to_exc, opt_some, then_nx, then_rt, then_exc, d_val, d_new, tru_bl, tru_non, fin_bl, fin_int, fin_str, fin_non, fin_xnon, fin_xint, GK_call, GK_sub, GK_fld, GK_hot, List.map_cons, List.map_nil, List.cons_append, List.nil_append, List.replicate_succ, List.replicate_zero, Nat.sub_self, Nat.reduceSub, List.getElem?_cons_zero, List.getElem?_cons_succ, List.set_cons_zero, List.set_cons_succ, wipe, bindT, bindTs, List.length_cons, List.length_nil, Nat.reduceAdd, Nat.reduceLT, Nat.reduceLeDiff, Nat.zero_le, binW, binD, compL, stays_nil, decide_true, decide_false, LINE, Int.cast_ofNat_Int, Int.reduceLE, Int.reduceLT, Int.natCast_zero, Int.natCast_one, ixL_0, ixL_1, ixL_2, eqD_int, eqD_str, ixD_tup, ixD_lst, biD, boolsOf, lstOf, Option.bind_some, List.all_cons, List.all_nil, id, isx_non, isx_bl, isx_int, isx_str, isx_tup, isx_lst, isx_frz, isx_ref, isx_exn, String.reduceBEq, Bool.or_false, Bool.or_true, Bool.true_or, Bool.false_or, Bool.and_true, Bool.true_and, Bool.and_false, Bool.false_and, reduceIte, Bool.false_eq_true, Option.map_some, Option.map_none, Bool.not_true, Bool.not_false, e, resOf]
  obtain ⟨x, y, rfl⟩ := isTup_2 ht
  have hx : x.pln = true ∧ y.pln = true := by simpa [D.pln, D.plns] using h
  simp only [xs_nil, xs_cons, evs, compF, x_asg, x_put, x_xpr, x_ret, x_cond, x_loop_seq, x_loop_enum, x_loop_rng, x_loop_zip, x_whl, x_raise, x_raiseN, x_tryx, x_tryr, x_pass, x_brk, x_cont, loopR_enum, loopR_tup, loopR_lst, ev_var, e_cst, e_bin, e_neg, e_cmp, e_chn, e_and, e_or, e_not, e_ite, e_tup, e_lst, e_new, e_dct, e_ix, e_sl, e_call, e_bi, e_mt, e_app, e_isi, e_comp_seq, e_comp_rng, e_comp_enum, e_comp_zip, e_xfld, bind_ok, bind_exc, to_ok, to_exc, opt_some, then_nx, then_rt, then_exc, d_val, d_new, tru_bl, tru_non, fin_bl, fin_int, fin_str, fin_non, fin_xnon, fin_xint, GK_call, GK_sub, GK_fld, GK_hot, List.map_cons, List.map_nil, List.cons_append, List.nil_append, List.replicate_succ, List.replicate_zero, Nat.sub_self, Nat.reduceSub, List.getElem?_cons_zero, List.getElem?_cons_succ, List.set_cons_zero, List.set_cons_succ, wipe, bindT, bindTs, List.length_cons, List.length_nil, Nat.reduceAdd, Nat.reduceLT, Nat.reduceLeDiff, Nat.zero_le, binW, binD, compL, stays_nil, decide_true, decide_false, LINE, Int.cast_ofNat_Int, Int.reduceLE, Int.reduceLT, Int.natCast_zero, Int.natCast_one, ixL_0, ixL_1, ixL_2, eqD_int, eqD_str, ixD_tup, ixD_lst, biD, boolsOf, lstOf, Option.bind_some, List.all_cons, List.all_nil, id, isx_non, isx_bl, isx_int, isx_str, isx_tup, isx_lst, isx_frz, isx_ref, isx_exn, String.reduceBEq, Bool.or_false, Bool.or_true, Bool.true_or, Bool.false_or, Bool.and_true, Bool.true_and, Bool.and_false, Bool.false_and, reduceIte, Bool.false_eq_true, Option.map_some, Option.map_none, Bool.not_true, Bool.not_false, r_is_among (k + 1) x _ _ _ hx.1, netFault]
  cases hx1 : isAm 1 16 x
  · simp only [xs_nil, xs_cons, evs, compF, x_asg, x_put, x_xpr, x_ret, x_cond, x_loop_seq, x_loop_enum, x_loop_rng, x_loop_zip, x_whl, x_raise, x_raiseN, x_tryx, x_tryr, x_pass, x_brk, x_cont, loopR_enum, loopR_tup, loopR_lst, ev_var, e_cst, e_bin, e_neg, e_cmp, e_chn, e_and, e_or, e_not, e_ite, e_tup, e_lst, e_new, e_dct, e_ix, e_sl, e_call, e_bi, e_mt, e_app, e_isi, e_comp_seq, e_comp_rng, e_comp_enum, e_comp_zip, e_xfld, bind_ok, bind_exc, to_ok, to_exc, opt_some, then_nx, then_rt, then_exc, d_val, d_new, tru_bl, tru_non, fin_bl, fin_int, fin_str, fin_non, fin_xnon, fin_xint, GK_call, GK_sub, GK_fld, GK_hot, List.map_cons, List.map_nil, List.cons_append, List.nil_append, List.replicate_succ, List.replicate_zero, Nat.sub_self, Nat.reduceSub, List.getElem?_cons_zero, List.getElem?_cons_succ, List.set_cons_zero, List.set_cons_succ, wipe, bindT, bindTs, List.length_cons, List.length_nil, Nat.reduceAdd, Nat.reduceLT, Nat.reduceLeDiff, Nat.zero_le, binW, binD, compL, stays_nil, decide_true, decide_false, LINE, Int.cast_ofNat_Int, Int.reduceLE, Int.reduceLT, Int.natCast_zero, Int.natCast_one, ixL_0, ixL_1, ixL_2, eqD_int, eqD_str, ixD_tup, ixD_lst, biD, boolsOf, lstOf, Option.bind_some, List.all_cons, List.all_nil, id, isx_non, isx_bl, isx_int, isx_str, isx_tup, isx_lst, isx_frz, isx_ref, isx_exn, String.reduceBEq, Bool.or_false, Bool.or_true, Bool.true_or, Bool.false_or, Bool.and_true, Bool.true_and, Bool.and_false, Bool.false_and, reduceIte, Bool.false_eq_true, Option.map_some, Option.map_none, Bool.not_true, Bool.not_false, resOf]
  simp only [xs_nil, xs_cons, evs, compF, x_asg, x_put, x_xpr, x_ret, x_cond, x_loop_seq, x_loop_enum, x_loop_rng, x_loop_zip, x_whl, x_raise, x_raiseN, x_tryx, x_tryr, x_pass, x_brk, x_cont, loopR_enum, loopR_tup, loopR_lst, ev_var, e_cst, e_bin, e_neg, e_cmp, e_chn, e_and, e_or, e_not, e_ite, e_tup, e_lst, e_new, e_dct, e_ix, e_sl, e_call, e_bi, e_mt, e_app, e_isi, e_comp_seq, e_comp_rng, e_comp_enum, e_comp_zip, e_xfld, bind_ok, bind_exc, to_ok, to_exc, opt_some, then_nx, then_rt, then_exc, d_val, d_new, tru_bl, tru_non, fin_bl, fin_int, fin_str, fin_non, fin_xnon, fin_xint, GK_call, GK_sub, GK_fld, GK_hot, List.map_cons, List.map_nil, List.cons_append, List.nil_append, List.replicate_succ, List.replicate_zero, Nat.sub_self, Nat.reduceSub, List.getElem?_cons_zero, List.getElem?_cons_succ, List.set_cons_zero, List.set_cons_succ, wipe, bindT, bindTs, List.length_cons, List.length_nil, Nat.reduceAdd, Nat.reduceLT, Nat.reduceLeDiff, Nat.zero_le, binW, binD, compL, stays_nil, decide_true, decide_false, LINE, Int.cast_ofNat_Int, Int.reduceLE, Int.reduceLT, Int.natCast_zero, Int.natCast_one, ixL_0, ixL_1, ixL_2, eqD_int, eqD_str, ixD_tup, ixD_lst, biD, boolsOf, lstOf, Option.bind_some, List.all_cons, List.all_nil, id, isx_non, isx_bl, isx_int, isx_str, isx_tup, isx_lst, isx_frz, isx_ref, isx_exn, String.reduceBEq, Bool.or_false, Bool.or_true, Bool.true_or, Bool.false_or, Bool.and_true, Bool.true_and, Bool.and_false, Bool.false_and, reduceIte, Bool.false_eq_true, Option.map_some, Option.map_none, Bool.not_true, Bool.not_false, r_is_tuple_of (k + 2) y _ _ _ hx.2]
  cases hy1 : isTup 0 60 y
  · simp only [xs_nil, xs_cons, evs, compF, x_asg, x_put, x_xpr, x_ret, x_cond, x_loop_seq, x_loop_enum, x_loop_rng, x_loop_zip, x_whl, x_raise, x_raiseN, x_tryx, x_tryr, x_pass, x_brk, x_cont, loopR_enum, loopR_tup, loopR_lst, ev_var, e_cst, e_bin, e_neg, e_cmp, e_chn, e_and, e_or, e_not, e_ite, e_tup, e_lst, e_new, e_dct, e_ix, e_sl, e_call, e_bi, e_mt, e_app, e_isi, e_comp_seq, e_comp_rng, e_comp_enum, e_comp_zip, e_xfld, bind_ok, bind_exc, to_ok, to_exc, opt_some, then_nx, then_rt, then_exc, d_val, d_new, tru_bl, tru_non, fin_bl, fin_int, fin_str, fin_non, fin_xnon, fin_xint, GK_call, GK_sub, GK_fld, GK_hot, List.map_cons, List.map_nil, List.cons_append, List.nil_append, List.replicate_succ, List.replicate_zero, Nat.sub_self, Nat.reduceSub, List.getElem?_cons_zero, List.getElem?_cons_succ, List.set_cons_zero, List.set_cons_succ, wipe, bindT, bindTs, List.length_cons, List.length_nil, Nat.reduceAdd, Nat.reduceLT, Nat.reduceLeDiff, Nat.zero_le, binW, binD, compL, stays_nil, decide_true, decide_false, LINE, Int.cast_ofNat_Int, Int.reduceLE, Int.reduceLT, Int.natCast_zero, Int.natCast_one, ixL_0, ixL_1, ixL_2, eqD_int, eqD_str, ixD_tup, ixD_lst, biD, boolsOf, lstOf, Option.bind_some, List.all_cons, List.all_nil, id, isx_non, isx_bl, isx_int, isx_str, isx_tup, isx_lst, isx_frz, isx_ref, isx_exn, String.reduceBEq, Bool.or_false, Bool.or_true, Bool.true_or, Bool.false_or, Bool.and_true, Bool.true_and, Bool.and_false, Bool.false_and, reduceIte, Bool.false_eq_true, Option.map_some, Option.map_none, Bool.not_true, Bool.not_false, resOf]
  obtain ⟨n, rfl⟩ := isAm_int hx1
  obtain ⟨rs, rfl, _, hl⟩ := isTup_tup hy1
  have hp : D.plns rs = true := by simpa [D.pln] using hx.2
  have L := need_net_loop k _ n (.tup [.int n, .tup rs]) S rfl (.tup rs) rs [] 0 none none hp (by simp; omega)
  simp only [xs_nil, xs_cons, evs, compF, x_asg, x_put, x_xpr, x_ret, x_cond, x_loop_seq, x_loop_enum, x_loop_rng, x_loop_zip, x_whl, x_raise, x_raiseN, x_tryx, x_tryr, x_pass, x_brk, x_cont, loopR_enum, loopR_tup, loopR_lst, ev_var, e_cst, e_bin, e_neg, e_cmp, e_chn, e_and, e_or, e_not, e_ite, e_tup, e_lst, e_new, e_dct, e_ix, e_sl, e_call, e_bi, e_mt, e_app, e_isi, e_comp_seq, e_comp_rng, e_comp_enum, e_comp_zip, e_xfld, bind_ok, bind_exc, to_ok, to_exc, opt_some, then_nx, then_rt, then_exc, d_val, d_new, tru_bl, tru_non, fin_bl, fin_int, fin_str, fin_non, fin_xnon, fin_xint, GK_call, GK_sub, GK_fld, GK_hot, List.map_cons, List.map_nil, List.cons_append, List.nil_append, List.replicate_succ, List.replicate_zero, Nat.sub_self, Nat.reduceSub, List.getElem?_cons_zero, List.getElem?_cons_succ, List.set_cons_zero, List.set_cons_succ, wipe, bindT, bindTs, List.length_cons, List.length_nil, Nat.reduceAdd, Nat.reduceLT, Nat.reduceLeDiff, Nat.zero_le, binW, binD, compL, stays_nil, decide_true, decide_false, LINE, Int.cast_ofNat_Int, Int.reduceLE, Int.reduceLT, Int.natCast_zero, Int.natCast_one, ixL_0, ixL_1, ixL_2, eqD_int, eqD_str, ixD_tup, ixD_lst, biD, boolsOf, lstOf, Option.bind_some, List.all_cons, List.all_nil, id, isx_non, isx_bl, isx_int, isx_str, isx_tup, isx_lst, isx_frz, isx_ref, isx_exn, String.reduceBEq, Bool.or_false, Bool.or_true, Bool.true_or, Bool.false_or, Bool.and_true, Bool.true_and, Bool.and_false, Bool.false_and, reduceIte, Bool.false_eq_true, Option.map_some, Option.map_none, Bool.not_true, Bool.not_false, itemsOf, srcOf, List.all_nil, Bool.and_true, Nat.zero_le, List.zip_nil_left, List.foldl_nil, enumD_en]
  cases hf : roadsFault n [] rs 0 <;> simp only [hf] at L
  · obtain ⟨u, v, X, e⟩ := L
    simp only [kdR, List.map_nil] at e
    simp only [xs_nil, xs_cons, evs, compF, x_asg, x_put, x_xpr, x_ret, x_cond, x_loop_seq, x_loop_enum, x_loop_rng, x_loop_zip, x_whl, x_raise, x_raiseN, x_tryx, x_tryr, x_pass, x_brk, x_cont, loopR_enum, loopR_tup, loopR_lst, ev_var, e_cst, e_bin, e_neg, e_cmp, e_chn, e_and, e_or, e_not, e_ite, e_tup, e_lst, e_new, e_dct, e_ix, e_sl, e_call, e_bi, e_mt, e_app, e_isi, e_comp_seq, e_comp_rng, e_comp_enum, e_comp_zip, e_xfld, bind_ok, bind_exc, to_ok, to_exc, opt_some, then_nx, then_rt, then_exc, d_val, d_new, tru_bl, tru_non, fin_bl, fin_int, fin_str, fin_non, fin_xnon, fin_xint, GK_call, GK_sub, GK_fld, GK_hot, List.map_cons, List.map_nil, List.cons_append, List.nil_append, List.replicate_succ, List.replicate_zero, Nat.sub_self, Nat.reduceSub, List.getElem?_cons_zero, List.getElem?_cons_succ, List.set_cons_zero, List.set_cons_succ, wipe, bindT, bindTs, List.length_cons, List.length_nil, Nat.reduceAdd, Nat.reduceLT, Nat.reduceLeDiff, Nat.zero_le, binW, binD, compL, stays_nil, decide_true, decide_false, LINE, Int.cast_ofNat_Int, Int.reduceLE, Int.reduceLT, Int.natCast_zero, Int.natCast_one, ixL_0, ixL_1, ixL_2, eqD_int, eqD_str, ixD_tup, ixD_lst, biD, boolsOf, lstOf, Option.bind_some, List.all_cons, List.all_nil, id, isx_non, isx_bl, isx_int, isx_str, isx_tup, isx_lst, isx_frz, isx_ref, isx_exn, String.reduceBEq, Bool.or_false, Bool.or_true, Bool.true_or, Bool.false_or, Bool.and_true, Bool.true_and, Bool.and_false, Bool.false_and, reduceIte, Bool.false_eq_true, Option.map_some, Option.map_none, Bool.not_true, Bool.not_false, e, resOf]
    exact fin_rt_app h
  · obtain ⟨ρ, X, e⟩ := L
    simp only [kdR, List.map_nil] at e
    simp only [xs_nil, xs_cons, evs, compF, x_asg, x_put, x_xpr, x_ret, x_cond, x_loop_seq, x_loop_enum, x_loop_rng, x_loop_zip, x_whl, x_raise, x_raiseN, x_tryx, x_tryr, x_pass, x_brk, x_cont, loopR_enum, loopR_tup, loopR_lst, ev_var, e_cst, e_bin, e_neg, e_cmp, e_chn, e_and, e_or, e_not, e_ite, e_tup, e_lst, e_new, e_dct, e_ix, e_sl, e_call, e_bi, e_mt, e_app, e_isi, e_comp_seq, e_comp_rng, e_comp_enum, e_comp_zip, e_xfld, bind_ok, bind_exc, to_ok, to_exc, opt_some, then_nx, then_rt, then_exc, d_val, d_new, tru_bl, tru_non, fin_bl, fin_int, fin_str, fin_non, fin_xnon, fin_xint, GK_call, GK_sub, GK_fld, GK_hot, List.map_cons, List.map_nil, List.cons_append, List.nil_append, List.replicate_succ, List.replicate_zero, Nat.sub_self, Nat.reduceSub, List.getElem?_cons_zero, List.getElem?_cons_succ, List.set_cons_zero, List.set_cons_succ, wipe, bindT, bindTs, List.length_cons, List.length_nil, Nat.reduceAdd, Nat.reduceLT, Nat.reduceLeDiff, Nat.zero_le, binW, binD, compL, stays_nil, decide_true, decide_false, LINE, Int.cast_ofNat_Int, Int.reduceLE, Int.reduceLT, Int.natCast_zero, Int.natCast_one, ixL_0, ixL_1, ixL_2, eqD_int, eqD_str, ixD_tup, ixD_lst, biD, boolsOf, lstOf, Option.bind_some, List.all_cons, List.all_nil, id, isx_non, isx_bl, isx_int, isx_str, isx_tup, isx_lst, isx_frz, isx_ref, isx_exn, String.reduceBEq, Bool.or_false, Bool.or_true, Bool.true_or, Bool.false_or, Bool.and_true, Bool.true_and, Bool.and_false, Bool.false_and, reduceIte, Bool.false_eq_true, Option.map_some, Option.map_none, Bool.not_true, Bool.not_false, e, resOf]
    exact fin_exc_app (by simp [D.pln, D.plns])

def doorsFault (n : Int) : List D → List D → Nat → Option Nat
  | _, [], _ => none
  | known, r :: rs, i => if isAm 0 (n - 1) r && !(known.contains r) then doorsFault n (known ++ [r]) rs (i + 1) else some i
def doorFault (n s : Int) : D → Option D
  | .tup ds => if isTup 0 5 (.tup ds) then (doorsFault n [] ds 0).map fun i => .tup [.int s, .int (i : Nat)] else some (.int s)
  | _ => some (.int s)
theorem need_doors_loop (k : Nat) (f : D → Env → Store → RS) (n s : Int) (S : Store) (b d : D)
    (hf : f = bodyF (GK (k + 2)) none (.tp [(.nm 4), (.nm 5)]) (.cons (.cond (.or (.not (.call (1 : Nat) (.cons (.var 5) (.cons (.cst (.int (0))) (.cons (.bin .sub (.ix (.var 0) (.cst (.int (0)))) (.cst (.int (1)))) .nil))))) (.cmp .isin (.var 5) (.var 3)))
  (.cons (.raise 1 (.tup (.cons (.var 2) (.cons (.var 4) .nil))))
  .nil)
  .nil)
  (.cons (.put (.var 3) (.var 5) (.cst (.bl true)))
  .nil))) (hd : d.isx = false) : ∀ (rs known : List D) (i : Nat) (u v : Option D), D.plns rs = true → known.length + rs.length ≤ 60 →
    match doorsFault n known rs i with
    | none => ∃ u' v' X, forL [] f (en i rs) [some (.tup [.int n, b]), some d, some (.int s), some (.ref S.length), u, v] (S ++ [.dct false (kdR known)]) = .nx [some (.tup [.int n, b]), some d, some (.int s), some (.ref S.length), u', v'] (S ++ X)
    | some j => ∃ ρ X, forL [] f (en i rs) [some (.tup [.int n, b]), some d, some (.int s), some (.ref S.length), u, v] (S ++ [.dct false (kdR known)]) = .exc 1 (.tup [.int s, .int (j : Nat)]) ρ (S ++ X)
  | [], known, i, u, v, _, _ => ⟨u, v, [.dct false (kdR known)], by simp [en, forL, stays]⟩
  | r :: rs, known, i, u, v, hp, hl => by
    have hr : r.pln = true ∧ D.plns rs = true := by simpa [D.plns] using hp
    have hl' : known.length + rs.length + 1 ≤ 60 := by simpa [Nat.add_assoc] using hl
    have ih := need_doors_loop k f n s S b d hf hd rs (known ++ [r]) (i + 1) (some (.int i)) (some r) hr.2 (by simp; omega)
    have st : forL [] f (en i (r :: rs)) [some (.tup [.int n, b]), some d, some (.int s), some (.ref S.length), u, v] (S ++ [.dct false (kdR known)]) =
      match f (.tup [.int (i : Nat), r]) [some (.tup [.int n, b]), some d, some (.int s), some (.ref S.length), u, v] (S ++ [.dct false (kdR known)]) with
      | .nx ρ' S' => forL [] f (en (i + 1) rs) ρ' S'
      | .ct ρ' S' => forL [] f (en (i + 1) rs) ρ' S'
      | .bk ρ' S' => .nx ρ' S'
      | r => r := by
      rw [en, forL, if_pos (stays_nil _)] <;> rfl
    have ef : f (.tup [.int (i : Nat), r]) [some (.tup [.int n, b]), some d, some (.int s), some (.ref S.length), u, v] (S ++ [.dct false (kdR known)]) =
      if isAm 0 (n - 1) r && !(known.contains r) then .nx [some (.tup [.int n, b]), some d, some (.int s), some (.ref S.length), some (.int i), some r] (S ++ [.dct false (kdR (known ++ [r]))])
      else .exc 1 (.tup [.int s, .int (i : Nat)]) [some (.tup [.int n, b]), some d, some (.int s), some (.ref S.length), some (.int i), some r] (S ++ [.dct false (kdR known)]) := by
      rw [hf, bodyF]
      simp only [xs_nil, xs_cons, evs, compF, x_asg, x_put, x_xpr, x_ret, x_cond, x_loop_seq, x_loop_enum, x_loop_rng, x_loop_zip, x_whl, x_raise, x_raiseN, x_tryx, x_tryr, x_pass, x_brk, x_cont, loopR_enum, loopR_tup, loopR_lst, ev_var, e_cst, e_bin, e_neg, e_cmp, e_chn, e_and, e_or, e_not, e_ite, e_tup, e_lst, e_new, e_dct, e_ix, e_sl, e_call, e_bi, e_mt, e_app, e_isi, e_comp_seq, e_comp_rng, e_comp_enum, e_comp_zip, e_xfld, bind_ok, bind_exc, to_ok, to_exc, opt_some, then_nx, then_rt, then_exc, d_val, d_new, tru_bl, tru_non, fin_bl, fin_int, fin_str, fin_non, fin_xnon, fin_xint, GK_call, GK_sub, GK_fld, GK_hot, List.map_cons, List.map_nil, List.cons_append, List.nil_append, List.replicate_succ, List.replicate_zero, Nat.sub_self, Nat.reduceSub, List.getElem?_cons_zero, List.getElem?_cons_succ, List.set_cons_zero, List.set_cons_succ, wipe, bindT, bindTs, List.length_cons, List.length_nil, Nat.reduceAdd, Nat.reduceLT, Nat.reduceLeDiff, Nat.zero_le, binW, binD, compL, stays_nil, decide_true, decide_false, LINE, Int.cast_ofNat_Int, Int.reduceLE, Int.reduceLT, Int.natCast_zero, Int.natCast_one, ixL_0, ixL_1, ixL_2, eqD_int, eqD_str, ixD_tup, ixD_lst, biD, boolsOf, lstOf, Option.bind_some, List.all_cons, List.all_nil, id, isx_non, isx_bl, isx_int, isx_str, isx_tup, isx_lst, isx_frz, isx_ref, isx_exn, String.reduceBEq, Bool.or_false, Bool.or_true, Bool.true_or, Bool.false_or, Bool.and_true, Bool.true_and, Bool.and_false, Bool.false_and, reduceIte, Bool.false_eq_true, Option.map_some, Option.map_none, Bool.not_true, Bool.not_false, D.pln_isx hr.1, hd, r_is_among k r _ _ _ hr.1]
      cases h1 : isAm 0 (n - 1) r
      · simp only [xs_nil, xs_cons, evs, compF, x_asg, x_put, x_xpr, x_ret, x_cond, x_loop_seq, x_loop_enum, x_loop_rng, x_loop_zip, x_whl, x_raise, x_raiseN, x_tryx, x_tryr, x_pass, x_brk, x_cont, loopR_enum, loopR_tup, loopR_lst, ev_var, e_cst, e_bin, e_neg, e_cmp, e_chn, e_and, e_or, e_not, e_ite, e_tup, e_lst, e_new, e_dct, e_ix, e_sl, e_call, e_bi, e_mt, e_app, e_isi, e_comp_seq, e_comp_rng, e_comp_enum, e_comp_zip, e_xfld, bind_ok, bind_exc, to_ok, to_exc, opt_some, then_nx, then_rt, then_exc, d_val, d_new, tru_bl, tru_non, fin_bl, fin_int, fin_str, fin_non, fin_xnon, fin_xint, GK_call, GK_sub, GK_fld, GK_hot, List.map_cons, List.map_nil, List.cons_append, List.nil_append, List.replicate_succ, List.replicate_zero, Nat.sub_self, Nat.reduceSub, List.getElem?_cons_zero, List.getElem?_cons_succ, List.set_cons_zero, List.set_cons_succ, wipe, bindT, bindTs, List.length_cons, List.length_nil, Nat.reduceAdd, Nat.reduceLT, Nat.reduceLeDiff, Nat.zero_le, binW, binD, compL, stays_nil, decide_true, decide_false, LINE, Int.cast_ofNat_Int, Int.reduceLE, Int.reduceLT, Int.natCast_zero, Int.natCast_one, ixL_0, ixL_1, ixL_2, eqD_int, eqD_str, ixD_tup, ixD_lst, biD, boolsOf, lstOf, Option.bind_some, List.all_cons, List.all_nil, id, isx_non, isx_bl, isx_int, isx_str, isx_tup, isx_lst, isx_frz, isx_ref, isx_exn, String.reduceBEq, Bool.or_false, Bool.or_true, Bool.true_or, Bool.false_or, Bool.and_true, Bool.true_and, Bool.and_false, Bool.false_and, reduceIte, Bool.false_eq_true, Option.map_some, Option.map_none, Bool.not_true, Bool.not_false]
      · obtain ⟨x, rfl⟩ := isAm_int h1
        simp only [xs_nil, xs_cons, evs, compF, x_asg, x_put, x_xpr, x_ret, x_cond, x_loop_seq, x_loop_enum, x_loop_rng, x_loop_zip, x_whl, x_raise, x_raiseN, x_tryx, x_tryr, x_pass, x_brk, x_cont, loopR_enum, loopR_tup, loopR_lst, ev_var, e_cst, e_bin, e_neg, e_cmp, e_chn, e_and, e_or, e_not, e_ite, e_tup, e_lst, e_new, e_dct, e_ix, e_sl, e_call, e_bi, e_mt, e_app, e_isi, e_comp_seq, e_comp_rng, e_comp_enum, e_comp_zip, e_xfld, bind_ok, bind_exc, to_ok, to_exc, opt_some, then_nx, then_rt, then_exc, d_val, d_new, tru_bl, tru_non, fin_bl, fin_int, fin_str, fin_non, fin_xnon, fin_xint, GK_call, GK_sub, GK_fld, GK_hot, List.map_cons, List.map_nil, List.cons_append, List.nil_append, List.replicate_succ, List.replicate_zero, Nat.sub_self, Nat.reduceSub, List.getElem?_cons_zero, List.getElem?_cons_succ, List.set_cons_zero, List.set_cons_succ, wipe, bindT, bindTs, List.length_cons, List.length_nil, Nat.reduceAdd, Nat.reduceLT, Nat.reduceLeDiff, Nat.zero_le, binW, binD, compL, stays_nil, decide_true, decide_false, LINE, Int.cast_ofNat_Int, Int.reduceLE, Int.reduceLT, Int.natCast_zero, Int.natCast_one, ixL_0, ixL_1, ixL_2, eqD_int, eqD_str, ixD_tup, ixD_lst, biD, boolsOf, lstOf, Option.bind_some, List.all_cons, List.all_nil, id, isx_non, isx_bl, isx_int, isx_str, isx_tup, isx_lst, isx_frz, isx_ref, isx_exn, String.reduceBEq, Bool.or_false, Bool.or_true, Bool.true_or, Bool.false_or, Bool.and_true, Bool.true_and, Bool.and_false, Bool.false_and, reduceIte, Bool.false_eq_true, Option.map_some, Option.map_none, Bool.not_true, Bool.not_false, cmpD, inD, get_app, keyOk, flatKey, dget_kdR]
        cases h2 : known.contains (D.int x)
        · have hk : decide (known.length < 16777216) = true := by simp; omega
          simp only [xs_nil, xs_cons, evs, compF, x_asg, x_put, x_xpr, x_ret, x_cond, x_loop_seq, x_loop_enum, x_loop_rng, x_loop_zip, x_whl, x_raise, x_raiseN, x_tryx, x_tryr, x_pass, x_brk, x_cont, loopR_enum, loopR_tup, loopR_lst, ev_var, e_cst, e_bin, e_neg, e_cmp, e_chn, e_and, e_or, e_not, e_ite, e_tup, e_lst, e_new, e_dct, e_ix, e_sl, e_call, e_bi, e_mt, e_app, e_isi, e_comp_seq, e_comp_rng, e_comp_enum, e_comp_zip, e_xfld, bind_ok, bind_exc, to_ok, to_exc, opt_some, then_nx, then_rt, then_exc, d_val, d_new, tru_bl, tru_non, fin_bl, fin_int, fin_str, fin_non, fin_xnon, fin_xint, GK_call, GK_sub, GK_fld, GK_hot, List.map_cons, List.map_nil, List.cons_append, List.nil_append, List.replicate_succ, List.replicate_zero, Nat.sub_self, Nat.reduceSub, List.getElem?_cons_zero, List.getElem?_cons_succ, List.set_cons_zero, List.set_cons_succ, wipe, bindT, bindTs, List.length_cons, List.length_nil, Nat.reduceAdd, Nat.reduceLT, Nat.reduceLeDiff, Nat.zero_le, binW, binD, compL, stays_nil, decide_true, decide_false, LINE, Int.cast_ofNat_Int, Int.reduceLE, Int.reduceLT, Int.natCast_zero, Int.natCast_one, ixL_0, ixL_1, ixL_2, eqD_int, eqD_str, ixD_tup, ixD_lst, biD, boolsOf, lstOf, Option.bind_some, List.all_cons, List.all_nil, id, isx_non, isx_bl, isx_int, isx_str, isx_tup, isx_lst, isx_frz, isx_ref, isx_exn, String.reduceBEq, Bool.or_false, Bool.or_true, Bool.true_or, Bool.false_or, Bool.and_true, Bool.true_and, Bool.and_false, Bool.false_and, reduceIte, Bool.false_eq_true, Option.map_some, Option.map_none, Bool.not_true, Bool.not_false, putD, get_app, keyOk, flatKey, kdR_len, set_app, dput_kdR h2, hk]
        · simp only [xs_nil, xs_cons, evs, compF, x_asg, x_put, x_xpr, x_ret, x_cond, x_loop_seq, x_loop_enum, x_loop_rng, x_loop_zip, x_whl, x_raise, x_raiseN, x_tryx, x_tryr, x_pass, x_brk, x_cont, loopR_enum, loopR_tup, loopR_lst, ev_var, e_cst, e_bin, e_neg, e_cmp, e_chn, e_and, e_or, e_not, e_ite, e_tup, e_lst, e_new, e_dct, e_ix, e_sl, e_call, e_bi, e_mt, e_app, e_isi, e_comp_seq, e_comp_rng, e_comp_enum, e_comp_zip, e_xfld, bind_ok, bind_exc, to_ok, to_exc, opt_some, then_nx, then_rt, then_exc, d_val, d_new, tru_bl, tru_non, fin_bl, fin_int, fin_str, fin_non, fin_xnon, fin_xint, GK_call, GK_sub, GK_fld, GK_hot, List.map_cons, List.map_nil, List.cons_append, List.nil_append, List.replicate_succ, List.replicate_zero, Nat.sub_self, Nat.reduceSub, List.getElem?_cons_zero, List.getElem?_cons_succ, List.set_cons_zero, List.set_cons_succ, wipe, bindT, bindTs, List.length_cons, List.length_nil, Nat.reduceAdd, Nat.reduceLT, Nat.reduceLeDiff, Nat.zero_le, binW, binD, compL, stays_nil, decide_true, decide_false, LINE, Int.cast_ofNat_Int, Int.reduceLE, Int.reduceLT, Int.natCast_zero, Int.natCast_one, ixL_0, ixL_1, ixL_2, eqD_int, eqD_str, ixD_tup, ixD_lst, biD, boolsOf, lstOf, Option.bind_some, List.all_cons, List.all_nil, id, isx_non, isx_bl, isx_int, isx_str, isx_tup, isx_lst, isx_frz, isx_ref, isx_exn, String.reduceBEq, Bool.or_false, Bool.or_true, Bool.true_or, Bool.false_or, Bool.and_true, Bool.true_and, Bool.and_false, Bool.false_and, reduceIte, Bool.false_eq_true, Option.map_some, Option.map_none, Bool.not_true, Bool.not_false]
    rw [st, ef, doorsFault]
    cases h : isAm 0 (n - 1) r && !(known.contains r)
    · simp only [Bool.false_eq_true, if_false]; exact ⟨_, _, rfl⟩
    · simp only [if_true]; exact ih
theorem r_need_doors (k : Nat) (n s : Int) (b d : D) (S : Store) (h : d.pln = true) :
    Rn (k + 3) (5 : Nat) [.tup [.int n, b], d, .int s] S = resOf 1 d S (doorFault n s d) := by
  rw [Rn_at t_need_doors rfl, b_need_doors]
  simp only [xs_nil, xs_cons, evs, compF, x_asg, x_put, x_xpr, x_ret, x_cond, x_loop_seq, x_loop_enum, x_loop_rng, x_loop_zip, x_whl, x_raise, x_raiseN, x_tryx, x_tryr, x_pass, x_brk, x_cont, loopR_enum, loopR_tup, loopR_lst, ev_var, e_cst, e_bin, e_neg, e_cmp, e_chn, e_and, e_or, e_not, e_ite, e_tup, e_lst, e_new, e_dct, e_ix, e_sl, e_call, e_bi, e_mt, e_app, e_isi, e_comp_seq, e_comp_rng, e_comp_enum, e_comp_zip, e_xfld, bind_ok, bind_exc, to_ok, to_exc, opt_some, then_nx, then_rt, then_exc, d_val, d_new, tru_bl, tru_non, fin_bl, fin_int, fin_str, fin_non, fin_xnon, fin_xint, GK_call, GK_sub, GK_fld, GK_hot, List.map_cons, List.map_nil, List.cons_append, List.nil_append, List.replicate_succ, List.replicate_zero, Nat.sub_self, Nat.reduceSub, List.getElem?_cons_zero, List.getElem?_cons_succ, List.set_cons_zero, List.set_cons_succ, wipe, bindT, bindTs, List.length_cons, List.length_nil, Nat.reduceAdd, Nat.reduceLT, Nat.reduceLeDiff, Nat.zero_le, binW, binD, compL, stays_nil, decide_true, decide_false, LINE, Int.cast_ofNat_Int, Int.reduceLE, Int.reduceLT, Int.natCast_zero, Int.natCast_one, ixL_0, ixL_1, ixL_2, eqD_int, eqD_str, ixD_tup, ixD_lst, biD, boolsOf, lstOf, Option.bind_some, List.all_cons, List.all_nil, id, isx_non, isx_bl, isx_int, isx_str, isx_tup, isx_lst, isx_frz, isx_ref, isx_exn, String.reduceBEq, Bool.or_false, Bool.or_true, Bool.true_or, Bool.false_or, Bool.and_true, Bool.true_and, Bool.and_false, Bool.false_and, reduceIte, Bool.false_eq_true, Option.map_some, Option.map_none, Bool.not_true, Bool.not_false, D.pln_isx h, r_is_tuple_of (k + 1) d _ _ _ h]
  cases ht : isTup 0 5 d
  · have e : doorFault n s d = some (.int s) := by
      unfold doorFault; split
      · rw [ht]; rfl
      · rfl
    simp only [xs_nil, xs_cons, evs, compF, x_asg, x_put, x_xpr, x_ret, x_cond, x_loop_seq, x_loop_enum, x_loop_rng, x_loop_zip, x_whl, x_raise, x_raiseN, x_tryx, x_tryr, x_pass, x_brk, x_cont, loopR_enum, loopR_tup, loopR_lst, ev_var, e_cst, e_bin, e_neg, e_cmp, e_chn, e_and, e_or, e_not, e_ite, e_tup, e_lst, e_new, e_dct, e_ix, e_sl, e_call, e_bi, e_mt, e_app, e_isi, e_comp_seq, e_comp_rng, e_comp_enum, e_comp_zip, e_xfld, bind_ok, bind_exc, to_ok, to_exc, opt_some, then_nx, then_rt, then_exc, d_val, d_new, tru_bl, tru_non, fin_bl, fin_int, fin_str, fin_non, fin_xnon, fin_xint, GK_call, GK_sub, GK_fld, GK_hot, List.map_cons, List.map_nil, List.cons_append, List.nil_append, List.replicate_succ, List.replicate_zero, Nat.sub_self, Nat.reduceSub, List.getElem?_cons_zero, List.getElem?_cons_succ, List.set_cons_zero, List.set_cons_succ, wipe, bindT, bindTs, List.length_cons, List.length_nil, Nat.reduceAdd, Nat.reduceLT, Nat.reduceLeDiff, Nat.zero_le, binW, binD, compL, stays_nil, decide_true, decide_false, LINE, Int.cast_ofNat_Int, Int.reduceLE, Int.reduceLT, Int.natCast_zero, Int.natCast_one, ixL_0, ixL_1, ixL_2, eqD_int, eqD_str, ixD_tup, ixD_lst, biD, boolsOf, lstOf, Option.bind_some, List.all_cons, List.all_nil, id, isx_non, isx_bl, isx_int, isx_str, isx_tup, isx_lst, isx_frz, isx_ref, isx_exn, String.reduceBEq, Bool.or_false, Bool.or_true, Bool.true_or, Bool.false_or, Bool.and_true, Bool.true_and, Bool.and_false, Bool.false_and, reduceIte, Bool.false_eq_true, Option.map_some, Option.map_none, Bool.not_true, Bool.not_false, e, resOf]
  obtain ⟨rs, rfl, _, hl⟩ := isTup_tup ht
  have hp : D.plns rs = true := by simpa [D.pln] using h
  have L := need_doors_loop k _ n s S b (.tup rs) rfl rfl rs [] 0 none none hp (by simp; omega)
  simp only [xs_nil, xs_cons, evs, compF, x_asg, x_put, x_xpr, x_ret, x_cond, x_loop_seq, x_loop_enum, x_loop_rng, x_loop_zip, x_whl, x_raise, x_raiseN, x_tryx, x_tryr, x_pass, x_brk, x_cont, loopR_enum, loopR_tup, loopR_lst, ev_var, e_cst, e_bin, e_neg, e_cmp, e_chn, e_and, e_or, e_not, e_ite, e_tup, e_lst, e_new, e_dct, e_ix, e_sl, e_call, e_bi, e_mt, e_app, e_isi, e_comp_seq, e_comp_rng, e_comp_enum, e_comp_zip, e_xfld, bind_ok, bind_exc, to_ok, to_exc, opt_some, then_nx, then_rt, then_exc, d_val, d_new, tru_bl, tru_non, fin_bl, fin_int, fin_str, fin_non, fin_xnon, fin_xint, GK_call, GK_sub, GK_fld, GK_hot, List.map_cons, List.map_nil, List.cons_append, List.nil_append, List.replicate_succ, List.replicate_zero, Nat.sub_self, Nat.reduceSub, List.getElem?_cons_zero, List.getElem?_cons_succ, List.set_cons_zero, List.set_cons_succ, wipe, bindT, bindTs, List.length_cons, List.length_nil, Nat.reduceAdd, Nat.reduceLT, Nat.reduceLeDiff, Nat.zero_le, binW, binD, compL, stays_nil, decide_true, decide_false, LINE, Int.cast_ofNat_Int, Int.reduceLE, Int.reduceLT, Int.natCast_zero, Int.natCast_one, ixL_0, ixL_1, ixL_2, eqD_int, eqD_str, ixD_tup, ixD_lst, biD, boolsOf, lstOf, Option.bind_some, List.all_cons, List.all_nil, id, isx_non, isx_bl, isx_int, isx_str, isx_tup, isx_lst, isx_frz, isx_ref, isx_exn, String.reduceBEq, Bool.or_false, Bool.or_true, Bool.true_or, Bool.false_or, Bool.and_true, Bool.true_and, Bool.and_false, Bool.false_and, reduceIte, Bool.false_eq_true, Option.map_some, Option.map_none, Bool.not_true, Bool.not_false, itemsOf, srcOf, List.all_nil, Bool.and_true, Nat.zero_le, List.zip_nil_left, List.foldl_nil, enumD_en, doorFault, ht]
  cases hf : doorsFault n [] rs 0 <;> simp only [hf] at L
  · obtain ⟨u, v, X, e⟩ := L
    simp only [kdR, List.map_nil] at e
    simp only [xs_nil, xs_cons, evs, compF, x_asg, x_put, x_xpr, x_ret, x_cond, x_loop_seq, x_loop_enum, x_loop_rng, x_loop_zip, x_whl, x_raise, x_raiseN, x_tryx, x_tryr, x_pass, x_brk, x_cont, loopR_enum, loopR_tup, loopR_lst, ev_var, e_cst, e_bin, e_neg, e_cmp, e_chn, e_and, e_or, e_not, e_ite, e_tup, e_lst, e_new, e_dct, e_ix, e_sl, e_call, e_bi, e_mt, e_app, e_isi, e_comp_seq, e_comp_rng, e_comp_enum, e_comp_zip, e_xfld, bind_ok, bind_exc, to_ok, to_exc, opt_some, then_nx, then_rt, then_exc, d_val, d_new, tru_bl, tru_non, fin_bl, fin_int, fin_str, fin_non, fin_xnon, fin_xint, GK_call, GK_sub, GK_fld, GK_hot, List.map_cons, List.map_nil, List.cons_append, List.nil_append, List.replicate_succ, List.replicate_zero, Nat.sub_self, Nat.reduceSub, List.getElem?_cons_zero, List.getElem?_cons_succ, List.set_cons_zero, List.set_cons_succ, wipe, bindT, bindTs, List.length_cons, List.length_nil, Nat.reduceAdd, Nat.reduceLT, Nat.reduceLeDiff, Nat.zero_le, binW, binD, compL, stays_nil, decide_true, decide_false, LINE, Int.cast_ofNat_Int, Int.reduceLE, Int.reduceLT, Int.natCast_zero, Int.natCast_one, ixL_0, ixL_1, ixL_2, eqD_int, eqD_str, ixD_tup, ixD_lst, biD, boolsOf, lstOf, Option.bind_some, List.all_cons, List.all_nil, id, isx_non, isx_bl, isx_int, isx_str, isx_tup, isx_lst, isx_frz, isx_ref, isx_exn, String.reduceBEq, Bool.or_false, Bool.or_true, Bool.true_or, Bool.false_or, Bool.and_true, Bool.true_and, Bool.and_false, Bool.false_and, reduceIte, Bool.false_eq_true, Option.map_some, Option.map_none, Bool.not_true, Bool.not_false, e, resOf]
    exact fin_rt_app h
  · obtain ⟨ρ, X, e⟩ := L
    simp only [kdR, List.map_nil] at e
    simp only [xs_nil, xs_cons, evs, compF, x_asg, x_put, x_xpr, x_ret, x_cond, x_loop_seq, x_loop_enum, x_loop_rng, x_loop_zip, x_whl, x_raise, x_raiseN, x_tryx, x_tryr, x_pass, x_brk, x_cont, loopR_enum, loopR_tup, loopR_lst, ev_var, e_cst, e_bin, e_neg, e_cmp, e_chn, e_and, e_or, e_not, e_ite, e_tup, e_lst, e_new, e_dct, e_ix, e_sl, e_call, e_bi, e_mt, e_app, e_isi, e_comp_seq, e_comp_rng, e_comp_enum, e_comp_zip, e_xfld, bind_ok, bind_exc, to_ok, to_exc, opt_some, then_nx, then_rt, then_exc, d_val, d_new, tru_bl, tru_non, fin_bl, fin_int, fin_str, fin_non, fin_xnon, fin_xint, GK_call, GK_sub, GK_fld, GK_hot, List.map_cons, List.map_nil, List.cons_append, List.nil_append, List.replicate_succ, List.replicate_zero, Nat.sub_self, Nat.reduceSub, List.getElem?_cons_zero, List.getElem?_cons_succ, List.set_cons_zero, List.set_cons_succ, wipe, bindT, bindTs, List.length_cons, List.length_nil, Nat.reduceAdd, Nat.reduceLT, Nat.reduceLeDiff, Nat.zero_le, binW, binD, compL, stays_nil, decide_true, decide_false, LINE, Int.cast_ofNat_Int, Int.reduceLE, Int.reduceLT, Int.natCast_zero, Int.natCast_one, ixL_0, ixL_1, ixL_2, eqD_int, eqD_str, ixD_tup, ixD_lst, biD, boolsOf, lstOf, Option.bind_some, List.all_cons, List.all_nil, id, isx_non, isx_bl, isx_int, isx_str, isx_tup, isx_lst, isx_frz, isx_ref, isx_exn, String.reduceBEq, Bool.or_false, Bool.or_true, Bool.true_or, Bool.false_or, Bool.and_true, Bool.true_and, Bool.and_false, Bool.false_and, reduceIte, Bool.false_eq_true, Option.map_some, Option.map_none, Bool.not_true, Bool.not_false, e, resOf]
    exact fin_exc_app (by simp [D.pln, D.plns])
theorem netFault_none {d : D} (h : netFault d = none) : ∃ n rs, d = .tup [.int n, .tup rs] ∧ 1 ≤ n ∧ n ≤ 16 ∧ rs.length ≤ 60 ∧ roadsFault n [] rs 0 = none := by
  unfold netFault at h; split at h
  · rename_i a b
    cases h1 : isAm 1 16 a <;> simp only [h1, if_true, Bool.false_eq_true, if_false] at h
    · cases h
    cases h2 : isTup 0 60 b <;> simp only [h2, if_true, Bool.false_eq_true, if_false] at h
    · cases h
    obtain ⟨n, rfl⟩ := isAm_int h1
    obtain ⟨rs, rfl, _, hl⟩ := isTup_tup h2
    simp [isAm] at h1
    refine ⟨n, rs, rfl, h1.1, h1.2, by omega, ?_⟩
    cases e : roadsFault n [] rs 0
    · rfl
    · simp [e] at h
  · cases h
def pieceFault : D → Option (Nat × D)
  | .tup [a, b, c] => match netFault a with
    | some p => some (0, p)
    | none => match a with
      | .tup (.int n :: _) => match doorFault n 1 b with
        | some p => some (1, p)
        | none => (doorFault n 2 c).map fun p => (1, p)
      | _ => some (0, .non)
  | _ => some (1, .non)
def resP (d : D) (S : Store) : Option (Nat × D) → R D
  | none => .ok d S
  | some p => .exc p.1 p.2 S
theorem isAm_pln {a b : Int} {d : D} (h : isAm a b d = true) : d.pln = true := by obtain ⟨i, rfl⟩ := isAm_int h; simp [D.pln]
theorem netFault_pln {d p : D} (h : netFault d = some p) : p.pln = true := by
  unfold netFault at h
  split at h
  · split at h
    · split at h
      · split at h
        · rw [Option.map_eq_some_iff] at h; obtain ⟨i, _, rfl⟩ := h; simp [D.pln, D.plns]
        · cases h; simp [D.pln]
      · cases h; simp [D.pln]
    · cases h; simp [D.pln]
  · cases h; simp [D.pln]
theorem doorFault_pln {n s : Int} {d p : D} (h : doorFault n s d = some p) : p.pln = true := by
  unfold doorFault at h
  split at h
  · split at h
    · rw [Option.map_eq_some_iff] at h; obtain ⟨i, _, rfl⟩ := h; simp [D.pln, D.plns]
    · cases h; simp [D.pln]
  · cases h; simp [D.pln]
theorem r_need_piece (k : Nat) (d : D) (S : Store) (h : d.pln = true) : Rn (k + 5) (6 : Nat) [d] S = resP d S (pieceFault d) := by
  rw [Rn_at t_need_piece rfl, b_need_piece]
  simp only [xs_nil, xs_cons, evs, compF, x_asg, x_put, x_xpr, x_ret, x_cond, x_loop_seq, x_loop_enum, x_loop_rng, x_loop_zip, x_whl, x_raise, x_raiseN, x_tryx, x_tryr, x_pass, x_brk, x_cont, loopR_enum, loopR_tup, loopR_lst, ev_var, e_cst, e_bin, e_neg, e_cmp, e_chn, e_and, e_or, e_not, e_ite, e_tup, e_lst, e_new, e_dct, e_ix, e_sl, e_call, e_bi, e_mt, e_app, e_isi, e_comp_seq, e_comp_rng, e_comp_enum, e_comp_zip, e_xfld, bind_ok, bind_exc, to_ok, to_exc, opt_some, then_nx, then_rt, then_exc, d_val, d_new, tru_bl, tru_non, fin_bl, fin_int, fin_str, fin_non, fin_xnon, fin_xint, GK_call, GK_sub, GK_fld, GK_hot, List.map_cons, List.map_nil, List.cons_append, List.nil_append, List.replicate_succ, List.replicate_zero, Nat.sub_self, Nat.reduceSub, List.getElem?_cons_zero, List.getElem?_cons_succ, List.set_cons_zero, List.set_cons_succ, wipe, bindT, bindTs, List.length_cons, List.length_nil, Nat.reduceAdd, Nat.reduceLT, Nat.reduceLeDiff, Nat.zero_le, binW, binD, compL, stays_nil, decide_true, decide_false, LINE, Int.cast_ofNat_Int, Int.reduceLE, Int.reduceLT, Int.natCast_zero, Int.natCast_one, ixL_0, ixL_1, ixL_2, eqD_int, eqD_str, ixD_tup, ixD_lst, biD, boolsOf, lstOf, Option.bind_some, List.all_cons, List.all_nil, id, isx_non, isx_bl, isx_int, isx_str, isx_tup, isx_lst, isx_frz, isx_ref, isx_exn, String.reduceBEq, Bool.or_false, Bool.or_true, Bool.true_or, Bool.false_or, Bool.and_true, Bool.true_and, Bool.and_false, Bool.false_and, reduceIte, Bool.false_eq_true, Option.map_some, Option.map_none, Bool.not_true, Bool.not_false, D.pln_isx h, r_is_tuple_of (k + 3) d _ _ _ h]
  cases ht : isTup 3 3 d
  · have e : pieceFault d = some (1, .non) := by
      unfold pieceFault; split
      · simp [isTup] at ht
      · rfl
    simp only [xs_nil, xs_cons, evs, compF, x_asg, x_put, x_xpr, x_ret, x_cond, x_loop_seq, x_loop_enum, x_loop_rng, x_loop_zip, x_whl, x_raise, x_raiseN, x_tryx, x_tryr, x_pass, x_brk, x_cont, loopR_enum, loopR_tup, loopR_lst, ev_var, e_cst, e_bin, e_neg, e_cmp, e_chn, e_and, e_or, e_not, e_ite, e_tup, e_lst, e_new, e_dct, e_ix, e_sl, e_call, e_bi, e_mt, e_app, e_isi, e_comp_seq, e_comp_rng, e_comp_enum, e_comp_zip, e_xfld, bind_ok, bind_exc, to_ok, to_exc, opt_some, then_nx, then_rt, then_exc, d_val, d_new, tru_bl, tru_non, fin_bl, fin_int, fin_str, fin_non, fin_xnon, fin_xint, GK_call, GK_sub, GK_fld, GK_hot, List.map_cons, List.map_nil, List.cons_append, List.nil_append, List.replicate_succ, List.replicate_zero, Nat.sub_self, Nat.reduceSub, List.getElem?_cons_zero, List.getElem?_cons_succ, List.set_cons_zero, List.set_cons_succ, wipe, bindT, bindTs, List.length_cons, List.length_nil, Nat.reduceAdd, Nat.reduceLT, Nat.reduceLeDiff, Nat.zero_le, binW, binD, compL, stays_nil, decide_true, decide_false, LINE, Int.cast_ofNat_Int, Int.reduceLE, Int.reduceLT, Int.natCast_zero, Int.natCast_one, ixL_0, ixL_1, ixL_2, eqD_int, eqD_str, ixD_tup, ixD_lst, biD, boolsOf, lstOf, Option.bind_some, List.all_cons, List.all_nil, id, isx_non, isx_bl, isx_int, isx_str, isx_tup, isx_lst, isx_frz, isx_ref, isx_exn, String.reduceBEq, Bool.or_false, Bool.or_true, Bool.true_or, Bool.false_or, Bool.and_true, Bool.true_and, Bool.and_false, Bool.false_and, reduceIte, Bool.false_eq_true, Option.map_some, Option.map_none, Bool.not_true, Bool.not_false, e, resP]
  obtain ⟨x, y, z, rfl⟩ := isTup_3 ht
  have hx : x.pln = true ∧ y.pln = true ∧ z.pln = true := by simpa [D.pln, D.plns] using h
  simp only [xs_nil, xs_cons, evs, compF, x_asg, x_put, x_xpr, x_ret, x_cond, x_loop_seq, x_loop_enum, x_loop_rng, x_loop_zip, x_whl, x_raise, x_raiseN, x_tryx, x_tryr, x_pass, x_brk, x_cont, loopR_enum, loopR_tup, loopR_lst, ev_var, e_cst, e_bin, e_neg, e_cmp, e_chn, e_and, e_or, e_not, e_ite, e_tup, e_lst, e_new, e_dct, e_ix, e_sl, e_call, e_bi, e_mt, e_app, e_isi, e_comp_seq, e_comp_rng, e_comp_enum, e_comp_zip, e_xfld, bind_ok, bind_exc, to_ok, to_exc, opt_some, then_nx, then_rt, then_exc, d_val, d_new, tru_bl, tru_non, fin_bl, fin_int, fin_str, fin_non, fin_xnon, fin_xint, GK_call, GK_sub, GK_fld, GK_hot, List.map_cons, List.map_nil, List.cons_append, List.nil_append, List.replicate_succ, List.replicate_zero, Nat.sub_self, Nat.reduceSub, List.getElem?_cons_zero, List.getElem?_cons_succ, List.set_cons_zero, List.set_cons_succ, wipe, bindT, bindTs, List.length_cons, List.length_nil, Nat.reduceAdd, Nat.reduceLT, Nat.reduceLeDiff, Nat.zero_le, binW, binD, compL, stays_nil, decide_true, decide_false, LINE, Int.cast_ofNat_Int, Int.reduceLE, Int.reduceLT, Int.natCast_zero, Int.natCast_one, ixL_0, ixL_1, ixL_2, eqD_int, eqD_str, ixD_tup, ixD_lst, biD, boolsOf, lstOf, Option.bind_some, List.all_cons, List.all_nil, id, isx_non, isx_bl, isx_int, isx_str, isx_tup, isx_lst, isx_frz, isx_ref, isx_exn, String.reduceBEq, Bool.or_false, Bool.or_true, Bool.true_or, Bool.false_or, Bool.and_true, Bool.true_and, Bool.and_false, Bool.false_and, reduceIte, Bool.false_eq_true, Option.map_some, Option.map_none, Bool.not_true, Bool.not_false, r_need_net k x _ hx.1, pieceFault]
  cases hn : netFault x with
  | some p =>
    simp only [xs_nil, xs_cons, evs, compF, x_asg, x_put, x_xpr, x_ret, x_cond, x_loop_seq, x_loop_enum, x_loop_rng, x_loop_zip, x_whl, x_raise, x_raiseN, x_tryx, x_tryr, x_pass, x_brk, x_cont, loopR_enum, loopR_tup, loopR_lst, ev_var, e_cst, e_bin, e_neg, e_cmp, e_chn, e_and, e_or, e_not, e_ite, e_tup, e_lst, e_new, e_dct, e_ix, e_sl, e_call, e_bi, e_mt, e_app, e_isi, e_comp_seq, e_comp_rng, e_comp_enum, e_comp_zip, e_xfld, bind_ok, bind_exc, to_ok, to_exc, opt_some, then_nx, then_rt, then_exc, d_val, d_new, tru_bl, tru_non, fin_bl, fin_int, fin_str, fin_non, fin_xnon, fin_xint, GK_call, GK_sub, GK_fld, GK_hot, List.map_cons, List.map_nil, List.cons_append, List.nil_append, List.replicate_succ, List.replicate_zero, Nat.sub_self, Nat.reduceSub, List.getElem?_cons_zero, List.getElem?_cons_succ, List.set_cons_zero, List.set_cons_succ, wipe, bindT, bindTs, List.length_cons, List.length_nil, Nat.reduceAdd, Nat.reduceLT, Nat.reduceLeDiff, Nat.zero_le, binW, binD, compL, stays_nil, decide_true, decide_false, LINE, Int.cast_ofNat_Int, Int.reduceLE, Int.reduceLT, Int.natCast_zero, Int.natCast_one, ixL_0, ixL_1, ixL_2, eqD_int, eqD_str, ixD_tup, ixD_lst, biD, boolsOf, lstOf, Option.bind_some, List.all_cons, List.all_nil, id, isx_non, isx_bl, isx_int, isx_str, isx_tup, isx_lst, isx_frz, isx_ref, isx_exn, String.reduceBEq, Bool.or_false, Bool.or_true, Bool.true_or, Bool.false_or, Bool.and_true, Bool.true_and, Bool.and_false, Bool.false_and, reduceIte, Bool.false_eq_true, Option.map_some, Option.map_none, Bool.not_true, Bool.not_false, resOf, resP]
    exact fin_exc (netFault_pln hn)
  | none =>
    obtain ⟨n, rs, rfl, _⟩ := netFault_none hn
    simp only [xs_nil, xs_cons, evs, compF, x_asg, x_put, x_xpr, x_ret, x_cond, x_loop_seq, x_loop_enum, x_loop_rng, x_loop_zip, x_whl, x_raise, x_raiseN, x_tryx, x_tryr, x_pass, x_brk, x_cont, loopR_enum, loopR_tup, loopR_lst, ev_var, e_cst, e_bin, e_neg, e_cmp, e_chn, e_and, e_or, e_not, e_ite, e_tup, e_lst, e_new, e_dct, e_ix, e_sl, e_call, e_bi, e_mt, e_app, e_isi, e_comp_seq, e_comp_rng, e_comp_enum, e_comp_zip, e_xfld, bind_ok, bind_exc, to_ok, to_exc, opt_some, then_nx, then_rt, then_exc, d_val, d_new, tru_bl, tru_non, fin_bl, fin_int, fin_str, fin_non, fin_xnon, fin_xint, GK_call, GK_sub, GK_fld, GK_hot, List.map_cons, List.map_nil, List.cons_append, List.nil_append, List.replicate_succ, List.replicate_zero, Nat.sub_self, Nat.reduceSub, List.getElem?_cons_zero, List.getElem?_cons_succ, List.set_cons_zero, List.set_cons_succ, wipe, bindT, bindTs, List.length_cons, List.length_nil, Nat.reduceAdd, Nat.reduceLT, Nat.reduceLeDiff, Nat.zero_le, binW, binD, compL, stays_nil, decide_true, decide_false, LINE, Int.cast_ofNat_Int, Int.reduceLE, Int.reduceLT, Int.natCast_zero, Int.natCast_one, ixL_0, ixL_1, ixL_2, eqD_int, eqD_str, ixD_tup, ixD_lst, biD, boolsOf, lstOf, Option.bind_some, List.all_cons, List.all_nil, id, isx_non, isx_bl, isx_int, isx_str, isx_tup, isx_lst, isx_frz, isx_ref, isx_exn, String.reduceBEq, Bool.or_false, Bool.or_true, Bool.true_or, Bool.false_or, Bool.and_true, Bool.true_and, Bool.and_false, Bool.false_and, reduceIte, Bool.false_eq_true, Option.map_some, Option.map_none, Bool.not_true, Bool.not_false, resOf, r_need_doors (k + 1) n _ _ y _ hx.2.1]
    cases h1 : doorFault n 1 y with
    | some p => simp only [xs_nil, xs_cons, evs, compF, x_asg, x_put, x_xpr, x_ret, x_cond, x_loop_seq, x_loop_enum, x_loop_rng, x_loop_zip, x_whl, x_raise, x_raiseN, x_tryx, x_tryr, x_pass, x_brk, x_cont, loopR_enum, loopR_tup, loopR_lst, ev_var, e_cst, e_bin, e_neg, e_cmp, e_chn, e_and, e_or, e_not, e_ite, e_tup, e_lst, e_new, e_dct, e_ix, e_sl, e_call, e_bi, e_mt, e_app, e_isi, e_comp_seq, e_comp_rng, e_comp_enum, e_comp_zip, e_xfld, bind_ok, bind_exc, to_ok, to_exc, opt_some, then_nx, then_rt, then_exc, d_val, d_new, tru_bl, tru_non, fin_bl, fin_int, fin_str, fin_non, fin_xnon, fin_xint, GK_call, GK_sub, GK_fld, GK_hot, List.map_cons, List.map_nil, List.cons_append, List.nil_append, List.replicate_succ, List.replicate_zero, Nat.sub_self, Nat.reduceSub, List.getElem?_cons_zero, List.getElem?_cons_succ, List.set_cons_zero, List.set_cons_succ, wipe, bindT, bindTs, List.length_cons, List.length_nil, Nat.reduceAdd, Nat.reduceLT, Nat.reduceLeDiff, Nat.zero_le, binW, binD, compL, stays_nil, decide_true, decide_false, LINE, Int.cast_ofNat_Int, Int.reduceLE, Int.reduceLT, Int.natCast_zero, Int.natCast_one, ixL_0, ixL_1, ixL_2, eqD_int, eqD_str, ixD_tup, ixD_lst, biD, boolsOf, lstOf, Option.bind_some, List.all_cons, List.all_nil, id, isx_non, isx_bl, isx_int, isx_str, isx_tup, isx_lst, isx_frz, isx_ref, isx_exn, String.reduceBEq, Bool.or_false, Bool.or_true, Bool.true_or, Bool.false_or, Bool.and_true, Bool.true_and, Bool.and_false, Bool.false_and, reduceIte, Bool.false_eq_true, Option.map_some, Option.map_none, Bool.not_true, Bool.not_false, resOf, resP]; exact fin_exc (doorFault_pln h1)
    | none =>
      simp only [xs_nil, xs_cons, evs, compF, x_asg, x_put, x_xpr, x_ret, x_cond, x_loop_seq, x_loop_enum, x_loop_rng, x_loop_zip, x_whl, x_raise, x_raiseN, x_tryx, x_tryr, x_pass, x_brk, x_cont, loopR_enum, loopR_tup, loopR_lst, ev_var, e_cst, e_bin, e_neg, e_cmp, e_chn, e_and, e_or, e_not, e_ite, e_tup, e_lst, e_new, e_dct, e_ix, e_sl, e_call, e_bi, e_mt, e_app, e_isi, e_comp_seq, e_comp_rng, e_comp_enum, e_comp_zip, e_xfld, bind_ok, bind_exc, to_ok, to_exc, opt_some, then_nx, then_rt, then_exc, d_val, d_new, tru_bl, tru_non, fin_bl, fin_int, fin_str, fin_non, fin_xnon, fin_xint, GK_call, GK_sub, GK_fld, GK_hot, List.map_cons, List.map_nil, List.cons_append, List.nil_append, List.replicate_succ, List.replicate_zero, Nat.sub_self, Nat.reduceSub, List.getElem?_cons_zero, List.getElem?_cons_succ, List.set_cons_zero, List.set_cons_succ, wipe, bindT, bindTs, List.length_cons, List.length_nil, Nat.reduceAdd, Nat.reduceLT, Nat.reduceLeDiff, Nat.zero_le, binW, binD, compL, stays_nil, decide_true, decide_false, LINE, Int.cast_ofNat_Int, Int.reduceLE, Int.reduceLT, Int.natCast_zero, Int.natCast_one, ixL_0, ixL_1, ixL_2, eqD_int, eqD_str, ixD_tup, ixD_lst, biD, boolsOf, lstOf, Option.bind_some, List.all_cons, List.all_nil, id, isx_non, isx_bl, isx_int, isx_str, isx_tup, isx_lst, isx_frz, isx_ref, isx_exn, String.reduceBEq, Bool.or_false, Bool.or_true, Bool.true_or, Bool.false_or, Bool.and_true, Bool.true_and, Bool.and_false, Bool.false_and, reduceIte, Bool.false_eq_true, Option.map_some, Option.map_none, Bool.not_true, Bool.not_false, resOf, r_need_doors (k + 1) n _ _ z _ hx.2.2]
      cases h2 : doorFault n 2 z with
      | some p => simp only [xs_nil, xs_cons, evs, compF, x_asg, x_put, x_xpr, x_ret, x_cond, x_loop_seq, x_loop_enum, x_loop_rng, x_loop_zip, x_whl, x_raise, x_raiseN, x_tryx, x_tryr, x_pass, x_brk, x_cont, loopR_enum, loopR_tup, loopR_lst, ev_var, e_cst, e_bin, e_neg, e_cmp, e_chn, e_and, e_or, e_not, e_ite, e_tup, e_lst, e_new, e_dct, e_ix, e_sl, e_call, e_bi, e_mt, e_app, e_isi, e_comp_seq, e_comp_rng, e_comp_enum, e_comp_zip, e_xfld, bind_ok, bind_exc, to_ok, to_exc, opt_some, then_nx, then_rt, then_exc, d_val, d_new, tru_bl, tru_non, fin_bl, fin_int, fin_str, fin_non, fin_xnon, fin_xint, GK_call, GK_sub, GK_fld, GK_hot, List.map_cons, List.map_nil, List.cons_append, List.nil_append, List.replicate_succ, List.replicate_zero, Nat.sub_self, Nat.reduceSub, List.getElem?_cons_zero, List.getElem?_cons_succ, List.set_cons_zero, List.set_cons_succ, wipe, bindT, bindTs, List.length_cons, List.length_nil, Nat.reduceAdd, Nat.reduceLT, Nat.reduceLeDiff, Nat.zero_le, binW, binD, compL, stays_nil, decide_true, decide_false, LINE, Int.cast_ofNat_Int, Int.reduceLE, Int.reduceLT, Int.natCast_zero, Int.natCast_one, ixL_0, ixL_1, ixL_2, eqD_int, eqD_str, ixD_tup, ixD_lst, biD, boolsOf, lstOf, Option.bind_some, List.all_cons, List.all_nil, id, isx_non, isx_bl, isx_int, isx_str, isx_tup, isx_lst, isx_frz, isx_ref, isx_exn, String.reduceBEq, Bool.or_false, Bool.or_true, Bool.true_or, Bool.false_or, Bool.and_true, Bool.true_and, Bool.and_false, Bool.false_and, reduceIte, Bool.false_eq_true, Option.map_some, Option.map_none, Bool.not_true, Bool.not_false, resOf, resP]; exact fin_exc (doorFault_pln h2)
      | none => simp only [xs_nil, xs_cons, evs, compF, x_asg, x_put, x_xpr, x_ret, x_cond, x_loop_seq, x_loop_enum, x_loop_rng, x_loop_zip, x_whl, x_raise, x_raiseN, x_tryx, x_tryr, x_pass, x_brk, x_cont, loopR_enum, loopR_tup, loopR_lst, ev_var, e_cst, e_bin, e_neg, e_cmp, e_chn, e_and, e_or, e_not, e_ite, e_tup, e_lst, e_new, e_dct, e_ix, e_sl, e_call, e_bi, e_mt, e_app, e_isi, e_comp_seq, e_comp_rng, e_comp_enum, e_comp_zip, e_xfld, bind_ok, bind_exc, to_ok, to_exc, opt_some, then_nx, then_rt, then_exc, d_val, d_new, tru_bl, tru_non, fin_bl, fin_int, fin_str, fin_non, fin_xnon, fin_xint, GK_call, GK_sub, GK_fld, GK_hot, List.map_cons, List.map_nil, List.cons_append, List.nil_append, List.replicate_succ, List.replicate_zero, Nat.sub_self, Nat.reduceSub, List.getElem?_cons_zero, List.getElem?_cons_succ, List.set_cons_zero, List.set_cons_succ, wipe, bindT, bindTs, List.length_cons, List.length_nil, Nat.reduceAdd, Nat.reduceLT, Nat.reduceLeDiff, Nat.zero_le, binW, binD, compL, stays_nil, decide_true, decide_false, LINE, Int.cast_ofNat_Int, Int.reduceLE, Int.reduceLT, Int.natCast_zero, Int.natCast_one, ixL_0, ixL_1, ixL_2, eqD_int, eqD_str, ixD_tup, ixD_lst, biD, boolsOf, lstOf, Option.bind_some, List.all_cons, List.all_nil, id, isx_non, isx_bl, isx_int, isx_str, isx_tup, isx_lst, isx_frz, isx_ref, isx_exn, String.reduceBEq, Bool.or_false, Bool.or_true, Bool.true_or, Bool.false_or, Bool.and_true, Bool.true_and, Bool.and_false, Bool.false_and, reduceIte, Bool.false_eq_true, Option.map_some, Option.map_none, Bool.not_true, Bool.not_false, resOf, resP]; exact fin_rt h
theorem r_law_is_number (k : Nat) (d : D) (a b : Int) (S : Store) (h : d.pln = true) : Rn (k + 1) (15 : Nat) [d, .int a, .int b] S = .ok (.bl (isAm a b d)) S := by
  rw [Rn_at t_law_is_number rfl, b_law_is_number]
  simp only [xs_nil, xs_cons, evs, compF, x_asg, x_put, x_xpr, x_ret, x_cond, x_loop_seq, x_loop_enum, x_loop_rng, x_loop_zip, x_whl, x_raise, x_raiseN, x_tryx, x_tryr, x_pass, x_brk, x_cont, loopR_enum, loopR_tup, loopR_lst, ev_var, e_cst, e_bin, e_neg, e_cmp, e_chn, e_and, e_or, e_not, e_ite, e_tup, e_lst, e_new, e_dct, e_ix, e_sl, e_call, e_bi, e_mt, e_app, e_isi, e_comp_seq, e_comp_rng, e_comp_enum, e_comp_zip, e_xfld, bind_ok, bind_exc, to_ok, to_exc, opt_some, then_nx, then_rt, then_exc, d_val, d_new, tru_bl, tru_non, fin_bl, fin_int, fin_str, fin_non, fin_xnon, fin_xint, GK_call, GK_sub, GK_fld, GK_hot, List.map_cons, List.map_nil, List.cons_append, List.nil_append, List.replicate_succ, List.replicate_zero, Nat.sub_self, Nat.reduceSub, List.getElem?_cons_zero, List.getElem?_cons_succ, List.set_cons_zero, List.set_cons_succ, wipe, bindT, bindTs, List.length_cons, List.length_nil, Nat.reduceAdd, Nat.reduceLT, Nat.reduceLeDiff, Nat.zero_le, binW, binD, compL, stays_nil, decide_true, decide_false, LINE, Int.cast_ofNat_Int, Int.reduceLE, Int.reduceLT, Int.natCast_zero, Int.natCast_one, ixL_0, ixL_1, ixL_2, eqD_int, eqD_str, ixD_tup, ixD_lst, biD, boolsOf, lstOf, Option.bind_some, List.all_cons, List.all_nil, id, isx_non, isx_bl, isx_int, isx_str, isx_tup, isx_lst, isx_frz, isx_ref, isx_exn, String.reduceBEq, Bool.or_false, Bool.or_true, Bool.true_or, Bool.false_or, Bool.and_true, Bool.true_and, Bool.and_false, Bool.false_and, reduceIte, Bool.false_eq_true, Option.map_some, Option.map_none, Bool.not_true, Bool.not_false, D.pln_isx h]
  cases d
  case int i =>
    by_cases h1 : a ≤ i <;> (simp only [xs_nil, xs_cons, evs, compF, x_asg, x_put, x_xpr, x_ret, x_cond, x_loop_seq, x_loop_enum, x_loop_rng, x_loop_zip, x_whl, x_raise, x_raiseN, x_tryx, x_tryr, x_pass, x_brk, x_cont, loopR_enum, loopR_tup, loopR_lst, ev_var, e_cst, e_bin, e_neg, e_cmp, e_chn, e_and, e_or, e_not, e_ite, e_tup, e_lst, e_new, e_dct, e_ix, e_sl, e_call, e_bi, e_mt, e_app, e_isi, e_comp_seq, e_comp_rng, e_comp_enum, e_comp_zip, e_xfld, bind_ok, bind_exc, to_ok, to_exc, opt_some, then_nx, then_rt, then_exc, d_val, d_new, tru_bl, tru_non, fin_bl, fin_int, fin_str, fin_non, fin_xnon, fin_xint, GK_call, GK_sub, GK_fld, GK_hot, List.map_cons, List.map_nil, List.cons_append, List.nil_append, List.replicate_succ, List.replicate_zero, Nat.sub_self, Nat.reduceSub, List.getElem?_cons_zero, List.getElem?_cons_succ, List.set_cons_zero, List.set_cons_succ, wipe, bindT, bindTs, List.length_cons, List.length_nil, Nat.reduceAdd, Nat.reduceLT, Nat.reduceLeDiff, Nat.zero_le, binW, binD, compL, stays_nil, decide_true, decide_false, LINE, Int.cast_ofNat_Int, Int.reduceLE, Int.reduceLT, Int.natCast_zero, Int.natCast_one, ixL_0, ixL_1, ixL_2, eqD_int, eqD_str, ixD_tup, ixD_lst, biD, boolsOf, lstOf, Option.bind_some, List.all_cons, List.all_nil, id, isx_non, isx_bl, isx_int, isx_str, isx_tup, isx_lst, isx_frz, isx_ref, isx_exn, String.reduceBEq, Bool.or_false, Bool.or_true, Bool.true_or, Bool.false_or, Bool.and_true, Bool.true_and, Bool.and_false, Bool.false_and, reduceIte, Bool.false_eq_true, Option.map_some, Option.map_none, Bool.not_true, Bool.not_false, isiD, isAm, cmpD, h1, decide_true, decide_false])
  all_goals first | (simp [D.pln] at h; done) | (simp only [xs_nil, xs_cons, evs, compF, x_asg, x_put, x_xpr, x_ret, x_cond, x_loop_seq, x_loop_enum, x_loop_rng, x_loop_zip, x_whl, x_raise, x_raiseN, x_tryx, x_tryr, x_pass, x_brk, x_cont, loopR_enum, loopR_tup, loopR_lst, ev_var, e_cst, e_bin, e_neg, e_cmp, e_chn, e_and, e_or, e_not, e_ite, e_tup, e_lst, e_new, e_dct, e_ix, e_sl, e_call, e_bi, e_mt, e_app, e_isi, e_comp_seq, e_comp_rng, e_comp_enum, e_comp_zip, e_xfld, bind_ok, bind_exc, to_ok, to_exc, opt_some, then_nx, then_rt, then_exc, d_val, d_new, tru_bl, tru_non, fin_bl, fin_int, fin_str, fin_non, fin_xnon, fin_xint, GK_call, GK_sub, GK_fld, GK_hot, List.map_cons, List.map_nil, List.cons_append, List.nil_append, List.replicate_succ, List.replicate_zero, Nat.sub_self, Nat.reduceSub, List.getElem?_cons_zero, List.getElem?_cons_succ, List.set_cons_zero, List.set_cons_succ, wipe, bindT, bindTs, List.length_cons, List.length_nil, Nat.reduceAdd, Nat.reduceLT, Nat.reduceLeDiff, Nat.zero_le, binW, binD, compL, stays_nil, decide_true, decide_false, LINE, Int.cast_ofNat_Int, Int.reduceLE, Int.reduceLT, Int.natCast_zero, Int.natCast_one, ixL_0, ixL_1, ixL_2, eqD_int, eqD_str, ixD_tup, ixD_lst, biD, boolsOf, lstOf, Option.bind_some, List.all_cons, List.all_nil, id, isx_non, isx_bl, isx_int, isx_str, isx_tup, isx_lst, isx_frz, isx_ref, isx_exn, String.reduceBEq, Bool.or_false, Bool.or_true, Bool.true_or, Bool.false_or, Bool.and_true, Bool.true_and, Bool.and_false, Bool.false_and, reduceIte, Bool.false_eq_true, Option.map_some, Option.map_none, Bool.not_true, Bool.not_false, isiD, isAm])
theorem isRoad_pr {n : Int} {d : D} (h : isRoad n d = true) : isPr d := by
  obtain ⟨i, j, rfl, _⟩ := isRoad_ints h; trivial
theorem law_net_loop (k : Nat) (f : D → Env → Store → RS) (n : Int) (S : Store) (all : List D)
    (hf : f = bodyF (GK (k + 1)) none (.tp [(.nm 1), (.nm 2)]) (.cons (.cond (.or (.not (.isi (.var 2) "tuple")) (.or (.cmp .ne (.bi .len (.cons (.var 2) .nil)) (.cst (.int (2)))) (.cmp .ne (.comp [3] (.nm 3) .seq (.cons (.var 2) .nil) (.not (.call (15 : Nat) (.cons (.var 3) (.cons (.cst (.int (0))) (.cons (.bin .sub (.ix (.var 0) (.cst (.int (0)))) (.cst (.int (1)))) .nil))))) (.cst (.int (1)))) (.lst .nil))))
  (.cons (.ret (.tup (.cons (.tup (.cons (.cst (.int (1))) (.cons (.var 1) .nil))) .nil)))
  .nil)
  .nil)
  (.cons (.cond (.or (.cmp .eq (.ix (.var 2) (.cst (.int (0)))) (.ix (.var 2) (.cst (.int (1))))) (.cmp .isin (.var 2) (.sl (.ix (.var 0) (.cst (.int (1)))) (.cst .non) (.var 1))))
  (.cons (.ret (.tup (.cons (.tup (.cons (.cst (.int (1))) (.cons (.var 1) .nil))) .nil)))
  .nil)
  .nil)
  .nil))) : ∀ (rs known : List D) (u v : Option D), D.plns rs = true → all = known ++ rs → (∀ x ∈ known, isPr x) →
    match roadsFault n known rs known.length with
    | none => ∃ u' v', forL [] f (en known.length rs) [some (.tup [.int n, .tup all]), u, v, none] S = .nx [some (.tup [.int n, .tup all]), u', v', none] S
    | some j => forL [] f (en known.length rs) [some (.tup [.int n, .tup all]), u, v, none] S = .rt (.tup [.tup [.int 1, .int (j : Nat)]]) S
  | [], known, u, v, _, _, _ => ⟨u, v, by simp [en, forL, stays]⟩
  | r :: rs, known, u, v, hp, ha, hk => by
    have hr : r.pln = true ∧ D.plns rs = true := by simpa [D.plns] using hp
    have st : forL [] f (en known.length (r :: rs)) [some (.tup [.int n, .tup all]), u, v, none] S =
      match f (.tup [.int (known.length : Nat), r]) [some (.tup [.int n, .tup all]), u, v, none] S with
      | .nx ρ' S' => forL [] f (en (known.length + 1) rs) ρ' S'
      | .ct ρ' S' => forL [] f (en (known.length + 1) rs) ρ' S'
      | .bk ρ' S' => .nx ρ' S'
      | r => r := by
      rw [en, forL, if_pos (stays_nil _)] <;> rfl
    have ef : f (.tup [.int (known.length : Nat), r]) [some (.tup [.int n, .tup all]), u, v, none] S =
      if isRoad n r && !(known.contains r) then .nx [some (.tup [.int n, .tup all]), some (.int known.length), some r, none] S
      else .rt (.tup [.tup [.int 1, .int (known.length : Nat)]]) S := by
      rw [hf, bodyF]
      simp only [xs_nil, xs_cons, evs, compF, x_asg, x_put, x_xpr, x_ret, x_cond, x_loop_seq, x_loop_enum, x_loop_rng, x_loop_zip, x_whl, x_raise, x_raiseN, x_tryx, x_tryr, x_pass, x_brk, x_cont, loopR_enum, loopR_tup, loopR_lst, ev_var, e_cst, e_bin, e_neg, e_cmp, e_chn, e_and, e_or, e_not, e_ite, e_tup, e_lst, e_new, e_dct, e_ix, e_sl, e_call, e_bi, e_mt, e_app, e_isi, e_comp_seq, e_comp_rng, e_comp_enum, e_comp_zip, e_xfld, bind_ok, bind_exc, to_ok, to_exc, opt_some, then_nx, then_rt, then_exc, d_val, d_new, tru_bl, tru_non, fin_bl, fin_int, fin_str, fin_non, fin_xnon, fin_xint, GK_call, GK_sub, GK_fld, GK_hot, List.map_cons, List.map_nil, List.cons_append, List.nil_append, List.replicate_succ, List.replicate_zero, Nat.sub_self, Nat.reduceSub, List.getElem?_cons_zero, List.getElem?_cons_succ, List.set_cons_zero, List.set_cons_succ, wipe, bindT, bindTs, List.length_cons, List.length_nil, Nat.reduceAdd, Nat.reduceLT, Nat.reduceLeDiff, Nat.zero_le, binW, binD, compL, stays_nil, decide_true, decide_false, LINE, Int.cast_ofNat_Int, Int.reduceLE, Int.reduceLT, Int.natCast_zero, Int.natCast_one, ixL_0, ixL_1, ixL_2, eqD_int, eqD_str, ixD_tup, ixD_lst, biD, boolsOf, lstOf, Option.bind_some, List.all_cons, List.all_nil, id, isx_non, isx_bl, isx_int, isx_str, isx_tup, isx_lst, isx_frz, isx_ref, isx_exn, String.reduceBEq, Bool.or_false, Bool.or_true, Bool.true_or, Bool.false_or, Bool.and_true, Bool.true_and, Bool.and_false, Bool.false_and, reduceIte, Bool.false_eq_true, Option.map_some, Option.map_none, Bool.not_true, Bool.not_false, D.pln_isx hr.1]
      cases ht : isTup 2 2 r
      · have e : isRoad n r = false := isRoad_tup ht
        cases r
        case tup xs =>
          have hl : decide ((xs.length : Int) = 2) = false := by
            simp only [isTup] at ht
            by_cases h : (xs.length : Int) = 2
            · rw [h] at ht; simp at ht
            · simp [h]
          simp only [xs_nil, xs_cons, evs, compF, x_asg, x_put, x_xpr, x_ret, x_cond, x_loop_seq, x_loop_enum, x_loop_rng, x_loop_zip, x_whl, x_raise, x_raiseN, x_tryx, x_tryr, x_pass, x_brk, x_cont, loopR_enum, loopR_tup, loopR_lst, ev_var, e_cst, e_bin, e_neg, e_cmp, e_chn, e_and, e_or, e_not, e_ite, e_tup, e_lst, e_new, e_dct, e_ix, e_sl, e_call, e_bi, e_mt, e_app, e_isi, e_comp_seq, e_comp_rng, e_comp_enum, e_comp_zip, e_xfld, bind_ok, bind_exc, to_ok, to_exc, opt_some, then_nx, then_rt, then_exc, d_val, d_new, tru_bl, tru_non, fin_bl, fin_int, fin_str, fin_non, fin_xnon, fin_xint, GK_call, GK_sub, GK_fld, GK_hot, List.map_cons, List.map_nil, List.cons_append, List.nil_append, List.replicate_succ, List.replicate_zero, Nat.sub_self, Nat.reduceSub, List.getElem?_cons_zero, List.getElem?_cons_succ, List.set_cons_zero, List.set_cons_succ, wipe, bindT, bindTs, List.length_cons, List.length_nil, Nat.reduceAdd, Nat.reduceLT, Nat.reduceLeDiff, Nat.zero_le, binW, binD, compL, stays_nil, decide_true, decide_false, LINE, Int.cast_ofNat_Int, Int.reduceLE, Int.reduceLT, Int.natCast_zero, Int.natCast_one, ixL_0, ixL_1, ixL_2, eqD_int, eqD_str, ixD_tup, ixD_lst, biD, boolsOf, lstOf, Option.bind_some, List.all_cons, List.all_nil, id, isx_non, isx_bl, isx_int, isx_str, isx_tup, isx_lst, isx_frz, isx_ref, isx_exn, String.reduceBEq, Bool.or_false, Bool.or_true, Bool.true_or, Bool.false_or, Bool.and_true, Bool.true_and, Bool.and_false, Bool.false_and, reduceIte, Bool.false_eq_true, Option.map_some, Option.map_none, Bool.not_true, Bool.not_false, isiD, lenD, cmpD, hl, e]
        all_goals first | (have := hr.1; simp [D.pln] at this; done) | (simp only [xs_nil, xs_cons, evs, compF, x_asg, x_put, x_xpr, x_ret, x_cond, x_loop_seq, x_loop_enum, x_loop_rng, x_loop_zip, x_whl, x_raise, x_raiseN, x_tryx, x_tryr, x_pass, x_brk, x_cont, loopR_enum, loopR_tup, loopR_lst, ev_var, e_cst, e_bin, e_neg, e_cmp, e_chn, e_and, e_or, e_not, e_ite, e_tup, e_lst, e_new, e_dct, e_ix, e_sl, e_call, e_bi, e_mt, e_app, e_isi, e_comp_seq, e_comp_rng, e_comp_enum, e_comp_zip, e_xfld, bind_ok, bind_exc, to_ok, to_exc, opt_some, then_nx, then_rt, then_exc, d_val, d_new, tru_bl, tru_non, fin_bl, fin_int, fin_str, fin_non, fin_xnon, fin_xint, GK_call, GK_sub, GK_fld, GK_hot, List.map_cons, List.map_nil, List.cons_append, List.nil_append, List.replicate_succ, List.replicate_zero, Nat.sub_self, Nat.reduceSub, List.getElem?_cons_zero, List.getElem?_cons_succ, List.set_cons_zero, List.set_cons_succ, wipe, bindT, bindTs, List.length_cons, List.length_nil, Nat.reduceAdd, Nat.reduceLT, Nat.reduceLeDiff, Nat.zero_le, binW, binD, compL, stays_nil, decide_true, decide_false, LINE, Int.cast_ofNat_Int, Int.reduceLE, Int.reduceLT, Int.natCast_zero, Int.natCast_one, ixL_0, ixL_1, ixL_2, eqD_int, eqD_str, ixD_tup, ixD_lst, biD, boolsOf, lstOf, Option.bind_some, List.all_cons, List.all_nil, id, isx_non, isx_bl, isx_int, isx_str, isx_tup, isx_lst, isx_frz, isx_ref, isx_exn, String.reduceBEq, Bool.or_false, Bool.or_true, Bool.true_or, Bool.false_or, Bool.and_true, Bool.true_and, Bool.and_false, Bool.false_and, reduceIte, Bool.false_eq_true, Option.map_some, Option.map_none, Bool.not_true, Bool.not_false, isiD, e])
      · obtain ⟨x, y, rfl⟩ := isTup_2 ht
        have hx : x.pln = true ∧ y.pln = true := by simpa [D.pln, D.plns] using hr.1
        simp only [xs_nil, xs_cons, evs, compF, x_asg, x_put, x_xpr, x_ret, x_cond, x_loop_seq, x_loop_enum, x_loop_rng, x_loop_zip, x_whl, x_raise, x_raiseN, x_tryx, x_tryr, x_pass, x_brk, x_cont, loopR_enum, loopR_tup, loopR_lst, ev_var, e_cst, e_bin, e_neg, e_cmp, e_chn, e_and, e_or, e_not, e_ite, e_tup, e_lst, e_new, e_dct, e_ix, e_sl, e_call, e_bi, e_mt, e_app, e_isi, e_comp_seq, e_comp_rng, e_comp_enum, e_comp_zip, e_xfld, bind_ok, bind_exc, to_ok, to_exc, opt_some, then_nx, then_rt, then_exc, d_val, d_new, tru_bl, tru_non, fin_bl, fin_int, fin_str, fin_non, fin_xnon, fin_xint, GK_call, GK_sub, GK_fld, GK_hot, List.map_cons, List.map_nil, List.cons_append, List.nil_append, List.replicate_succ, List.replicate_zero, Nat.sub_self, Nat.reduceSub, List.getElem?_cons_zero, List.getElem?_cons_succ, List.set_cons_zero, List.set_cons_succ, wipe, bindT, bindTs, List.length_cons, List.length_nil, Nat.reduceAdd, Nat.reduceLT, Nat.reduceLeDiff, Nat.zero_le, binW, binD, compL, stays_nil, decide_true, decide_false, LINE, Int.cast_ofNat_Int, Int.reduceLE, Int.reduceLT, Int.natCast_zero, Int.natCast_one, ixL_0, ixL_1, ixL_2, eqD_int, eqD_str, ixD_tup, ixD_lst, biD, boolsOf, lstOf, Option.bind_some, List.all_cons, List.all_nil, id, isx_non, isx_bl, isx_int, isx_str, isx_tup, isx_lst, isx_frz, isx_ref, isx_exn, String.reduceBEq, Bool.or_false, Bool.or_true, Bool.true_or, Bool.false_or, Bool.and_true, Bool.true_and, Bool.and_false, Bool.false_and, reduceIte, Bool.false_eq_true, Option.map_some, Option.map_none, Bool.not_true, Bool.not_false, isiD, lenD, cmpD, decide_true, itemsOf, srcOf, D.pln_isx hx.1, D.pln_isx hx.2, r_law_is_number k x _ _ _ hx.1, r_law_is_number k y _ _ _ hx.2]
        cases hx1 : isAm 0 (n - 1) x
        · cases hy1 : isAm 0 (n - 1) y <;> simp only [xs_nil, xs_cons, evs, compF, x_asg, x_put, x_xpr, x_ret, x_cond, x_loop_seq, x_loop_enum, x_loop_rng, x_loop_zip, x_whl, x_raise, x_raiseN, x_tryx, x_tryr, x_pass, x_brk, x_cont, loopR_enum, loopR_tup, loopR_lst, ev_var, e_cst, e_bin, e_neg, e_cmp, e_chn, e_and, e_or, e_not, e_ite, e_tup, e_lst, e_new, e_dct, e_ix, e_sl, e_call, e_bi, e_mt, e_app, e_isi, e_comp_seq, e_comp_rng, e_comp_enum, e_comp_zip, e_xfld, bind_ok, bind_exc, to_ok, to_exc, opt_some, then_nx, then_rt, then_exc, d_val, d_new, tru_bl, tru_non, fin_bl, fin_int, fin_str, fin_non, fin_xnon, fin_xint, GK_call, GK_sub, GK_fld, GK_hot, List.map_cons, List.map_nil, List.cons_append, List.nil_append, List.replicate_succ, List.replicate_zero, Nat.sub_self, Nat.reduceSub, List.getElem?_cons_zero, List.getElem?_cons_succ, List.set_cons_zero, List.set_cons_succ, wipe, bindT, bindTs, List.length_cons, List.length_nil, Nat.reduceAdd, Nat.reduceLT, Nat.reduceLeDiff, Nat.zero_le, binW, binD, compL, stays_nil, decide_true, decide_false, LINE, Int.cast_ofNat_Int, Int.reduceLE, Int.reduceLT, Int.natCast_zero, Int.natCast_one, ixL_0, ixL_1, ixL_2, eqD_int, eqD_str, ixD_tup, ixD_lst, biD, boolsOf, lstOf, Option.bind_some, List.all_cons, List.all_nil, id, isx_non, isx_bl, isx_int, isx_str, isx_tup, isx_lst, isx_frz, isx_ref, isx_exn, String.reduceBEq, Bool.or_false, Bool.or_true, Bool.true_or, Bool.false_or, Bool.and_true, Bool.true_and, Bool.and_false, Bool.false_and, reduceIte, Bool.false_eq_true, Option.map_some, Option.map_none, Bool.not_true, Bool.not_false, isRoad, hx1, hy1, eqD_lst_nil (xs := [.int 1]) (by simp), eqD_lst_nil (xs := [.int 1, .int 1]) (by simp), List.isEmpty_cons]
        cases hy1 : isAm 0 (n - 1) y
        · simp only [xs_nil, xs_cons, evs, compF, x_asg, x_put, x_xpr, x_ret, x_cond, x_loop_seq, x_loop_enum, x_loop_rng, x_loop_zip, x_whl, x_raise, x_raiseN, x_tryx, x_tryr, x_pass, x_brk, x_cont, loopR_enum, loopR_tup, loopR_lst, ev_var, e_cst, e_bin, e_neg, e_cmp, e_chn, e_and, e_or, e_not, e_ite, e_tup, e_lst, e_new, e_dct, e_ix, e_sl, e_call, e_bi, e_mt, e_app, e_isi, e_comp_seq, e_comp_rng, e_comp_enum, e_comp_zip, e_xfld, bind_ok, bind_exc, to_ok, to_exc, opt_some, then_nx, then_rt, then_exc, d_val, d_new, tru_bl, tru_non, fin_bl, fin_int, fin_str, fin_non, fin_xnon, fin_xint, GK_call, GK_sub, GK_fld, GK_hot, List.map_cons, List.map_nil, List.cons_append, List.nil_append, List.replicate_succ, List.replicate_zero, Nat.sub_self, Nat.reduceSub, List.getElem?_cons_zero, List.getElem?_cons_succ, List.set_cons_zero, List.set_cons_succ, wipe, bindT, bindTs, List.length_cons, List.length_nil, Nat.reduceAdd, Nat.reduceLT, Nat.reduceLeDiff, Nat.zero_le, binW, binD, compL, stays_nil, decide_true, decide_false, LINE, Int.cast_ofNat_Int, Int.reduceLE, Int.reduceLT, Int.natCast_zero, Int.natCast_one, ixL_0, ixL_1, ixL_2, eqD_int, eqD_str, ixD_tup, ixD_lst, biD, boolsOf, lstOf, Option.bind_some, List.all_cons, List.all_nil, id, isx_non, isx_bl, isx_int, isx_str, isx_tup, isx_lst, isx_frz, isx_ref, isx_exn, String.reduceBEq, Bool.or_false, Bool.or_true, Bool.true_or, Bool.false_or, Bool.and_true, Bool.true_and, Bool.and_false, Bool.false_and, reduceIte, Bool.false_eq_true, Option.map_some, Option.map_none, Bool.not_true, Bool.not_false, isRoad, hx1, hy1, eqD_lst_nil (xs := [.int 1]) (by simp), List.isEmpty_cons]
        obtain ⟨i, rfl⟩ := isAm_int hx1
        obtain ⟨j, rfl⟩ := isAm_int hy1
        have hpr : isPr (.tup [.int i, .int j]) := trivial
        simp only [xs_nil, xs_cons, evs, compF, x_asg, x_put, x_xpr, x_ret, x_cond, x_loop_seq, x_loop_enum, x_loop_rng, x_loop_zip, x_whl, x_raise, x_raiseN, x_tryx, x_tryr, x_pass, x_brk, x_cont, loopR_enum, loopR_tup, loopR_lst, ev_var, e_cst, e_bin, e_neg, e_cmp, e_chn, e_and, e_or, e_not, e_ite, e_tup, e_lst, e_new, e_dct, e_ix, e_sl, e_call, e_bi, e_mt, e_app, e_isi, e_comp_seq, e_comp_rng, e_comp_enum, e_comp_zip, e_xfld, bind_ok, bind_exc, to_ok, to_exc, opt_some, then_nx, then_rt, then_exc, d_val, d_new, tru_bl, tru_non, fin_bl, fin_int, fin_str, fin_non, fin_xnon, fin_xint, GK_call, GK_sub, GK_fld, GK_hot, List.map_cons, List.map_nil, List.cons_append, List.nil_append, List.replicate_succ, List.replicate_zero, Nat.sub_self, Nat.reduceSub, List.getElem?_cons_zero, List.getElem?_cons_succ, List.set_cons_zero, List.set_cons_succ, wipe, bindT, bindTs, List.length_cons, List.length_nil, Nat.reduceAdd, Nat.reduceLT, Nat.reduceLeDiff, Nat.zero_le, binW, binD, compL, stays_nil, decide_true, decide_false, LINE, Int.cast_ofNat_Int, Int.reduceLE, Int.reduceLT, Int.natCast_zero, Int.natCast_one, ixL_0, ixL_1, ixL_2, eqD_int, eqD_str, ixD_tup, ixD_lst, biD, boolsOf, lstOf, Option.bind_some, List.all_cons, List.all_nil, id, isx_non, isx_bl, isx_int, isx_str, isx_tup, isx_lst, isx_frz, isx_ref, isx_exn, String.reduceBEq, Bool.or_false, Bool.or_true, Bool.true_or, Bool.false_or, Bool.and_true, Bool.true_and, Bool.and_false, Bool.false_and, reduceIte, Bool.false_eq_true, Option.map_some, Option.map_none, Bool.not_true, Bool.not_false, isRoad, hx1, hy1, eqD_lst_nil (xs := []) (by simp), List.isEmpty_nil, slD, noPart, partOf, ha, cutL_pre, inD, inL_pr hpr hk]
        by_cases hij : i = j
        · simp only [xs_nil, xs_cons, evs, compF, x_asg, x_put, x_xpr, x_ret, x_cond, x_loop_seq, x_loop_enum, x_loop_rng, x_loop_zip, x_whl, x_raise, x_raiseN, x_tryx, x_tryr, x_pass, x_brk, x_cont, loopR_enum, loopR_tup, loopR_lst, ev_var, e_cst, e_bin, e_neg, e_cmp, e_chn, e_and, e_or, e_not, e_ite, e_tup, e_lst, e_new, e_dct, e_ix, e_sl, e_call, e_bi, e_mt, e_app, e_isi, e_comp_seq, e_comp_rng, e_comp_enum, e_comp_zip, e_xfld, bind_ok, bind_exc, to_ok, to_exc, opt_some, then_nx, then_rt, then_exc, d_val, d_new, tru_bl, tru_non, fin_bl, fin_int, fin_str, fin_non, fin_xnon, fin_xint, GK_call, GK_sub, GK_fld, GK_hot, List.map_cons, List.map_nil, List.cons_append, List.nil_append, List.replicate_succ, List.replicate_zero, Nat.sub_self, Nat.reduceSub, List.getElem?_cons_zero, List.getElem?_cons_succ, List.set_cons_zero, List.set_cons_succ, wipe, bindT, bindTs, List.length_cons, List.length_nil, Nat.reduceAdd, Nat.reduceLT, Nat.reduceLeDiff, Nat.zero_le, binW, binD, compL, stays_nil, decide_true, decide_false, LINE, Int.cast_ofNat_Int, Int.reduceLE, Int.reduceLT, Int.natCast_zero, Int.natCast_one, ixL_0, ixL_1, ixL_2, eqD_int, eqD_str, ixD_tup, ixD_lst, biD, boolsOf, lstOf, Option.bind_some, List.all_cons, List.all_nil, id, isx_non, isx_bl, isx_int, isx_str, isx_tup, isx_lst, isx_frz, isx_ref, isx_exn, String.reduceBEq, Bool.or_false, Bool.or_true, Bool.true_or, Bool.false_or, Bool.and_true, Bool.true_and, Bool.and_false, Bool.false_and, reduceIte, Bool.false_eq_true, Option.map_some, Option.map_none, Bool.not_true, Bool.not_false, hij, decide_true]; simp
        · have e2 : decide (D.int i ≠ D.int j) = true := by simp [hij]
          simp only [xs_nil, xs_cons, evs, compF, x_asg, x_put, x_xpr, x_ret, x_cond, x_loop_seq, x_loop_enum, x_loop_rng, x_loop_zip, x_whl, x_raise, x_raiseN, x_tryx, x_tryr, x_pass, x_brk, x_cont, loopR_enum, loopR_tup, loopR_lst, ev_var, e_cst, e_bin, e_neg, e_cmp, e_chn, e_and, e_or, e_not, e_ite, e_tup, e_lst, e_new, e_dct, e_ix, e_sl, e_call, e_bi, e_mt, e_app, e_isi, e_comp_seq, e_comp_rng, e_comp_enum, e_comp_zip, e_xfld, bind_ok, bind_exc, to_ok, to_exc, opt_some, then_nx, then_rt, then_exc, d_val, d_new, tru_bl, tru_non, fin_bl, fin_int, fin_str, fin_non, fin_xnon, fin_xint, GK_call, GK_sub, GK_fld, GK_hot, List.map_cons, List.map_nil, List.cons_append, List.nil_append, List.replicate_succ, List.replicate_zero, Nat.sub_self, Nat.reduceSub, List.getElem?_cons_zero, List.getElem?_cons_succ, List.set_cons_zero, List.set_cons_succ, wipe, bindT, bindTs, List.length_cons, List.length_nil, Nat.reduceAdd, Nat.reduceLT, Nat.reduceLeDiff, Nat.zero_le, binW, binD, compL, stays_nil, decide_true, decide_false, LINE, Int.cast_ofNat_Int, Int.reduceLE, Int.reduceLT, Int.natCast_zero, Int.natCast_one, ixL_0, ixL_1, ixL_2, eqD_int, eqD_str, ixD_tup, ixD_lst, biD, boolsOf, lstOf, Option.bind_some, List.all_cons, List.all_nil, id, isx_non, isx_bl, isx_int, isx_str, isx_tup, isx_lst, isx_frz, isx_ref, isx_exn, String.reduceBEq, Bool.or_false, Bool.or_true, Bool.true_or, Bool.false_or, Bool.and_true, Bool.true_and, Bool.and_false, Bool.false_and, reduceIte, Bool.false_eq_true, Option.map_some, Option.map_none, Bool.not_true, Bool.not_false, hij, decide_false, e2]
          cases known.contains (D.tup [D.int i, D.int j]) <;> simp only [xs_nil, xs_cons, evs, compF, x_asg, x_put, x_xpr, x_ret, x_cond, x_loop_seq, x_loop_enum, x_loop_rng, x_loop_zip, x_whl, x_raise, x_raiseN, x_tryx, x_tryr, x_pass, x_brk, x_cont, loopR_enum, loopR_tup, loopR_lst, ev_var, e_cst, e_bin, e_neg, e_cmp, e_chn, e_and, e_or, e_not, e_ite, e_tup, e_lst, e_new, e_dct, e_ix, e_sl, e_call, e_bi, e_mt, e_app, e_isi, e_comp_seq, e_comp_rng, e_comp_enum, e_comp_zip, e_xfld, bind_ok, bind_exc, to_ok, to_exc, opt_some, then_nx, then_rt, then_exc, d_val, d_new, tru_bl, tru_non, fin_bl, fin_int, fin_str, fin_non, fin_xnon, fin_xint, GK_call, GK_sub, GK_fld, GK_hot, List.map_cons, List.map_nil, List.cons_append, List.nil_append, List.replicate_succ, List.replicate_zero, Nat.sub_self, Nat.reduceSub, List.getElem?_cons_zero, List.getElem?_cons_succ, List.set_cons_zero, List.set_cons_succ, wipe, bindT, bindTs, List.length_cons, List.length_nil, Nat.reduceAdd, Nat.reduceLT, Nat.reduceLeDiff, Nat.zero_le, binW, binD, compL, stays_nil, decide_true, decide_false, LINE, Int.cast_ofNat_Int, Int.reduceLE, Int.reduceLT, Int.natCast_zero, Int.natCast_one, ixL_0, ixL_1, ixL_2, eqD_int, eqD_str, ixD_tup, ixD_lst, biD, boolsOf, lstOf, Option.bind_some, List.all_cons, List.all_nil, id, isx_non, isx_bl, isx_int, isx_str, isx_tup, isx_lst, isx_frz, isx_ref, isx_exn, String.reduceBEq, Bool.or_false, Bool.or_true, Bool.true_or, Bool.false_or, Bool.and_true, Bool.true_and, Bool.and_false, Bool.false_and, reduceIte, Bool.false_eq_true, Option.map_some, Option.map_none, Bool.not_true, Bool.not_false]
    rw [st, ef, roadsFault]
    cases h : isRoad n r && !(known.contains r)
    · simp only [Bool.false_eq_true, if_false]
    · simp only [if_true]
      have h1 : isRoad n r = true := by simp at h; exact h.1
      have ih := law_net_loop k f n S all hf rs (known ++ [r]) (some (.int known.length)) (some r) hr.2 (by simp [ha]) (by
        intro x hx; rw [List.mem_append] at hx
        rcases hx with hx | hx
        · exact hk x hx
        · simp at hx; subst hx; exact isRoad_pr h1)
      rw [List.length_append] at ih
      exact ih
def faultT : Option D → D
  | none => .non
  | some p => .tup [p]
theorem r_law_net_fault (k : Nat) (d : D) (S : Store) (h : d.pln = true) : Rn (k + 2) (16 : Nat) [d] S = .ok (faultT (netFault d)) S := by
  rw [Rn_at t_law_net_fault rfl, b_law_net_fault]
  simp only [xs_nil, xs_cons, evs, compF, x_asg, x_put, x_xpr, x_ret, x_cond, x_loop_seq, x_loop_enum, x_loop_rng, x_loop_zip, x_whl, x_raise, x_raiseN, x_tryx, x_tryr, x_pass, x_brk, x_cont, loopR_enum, loopR_tup, loopR_lst, ev_var, e_cst, e_bin, e_neg, e_cmp, e_chn, e_and, e_or, e_not, e_ite, e_tup, e_lst, e_new, e_dct, e_ix, e_sl, e_call, e_bi, e_mt, e_app, e_isi, e_comp_seq, e_comp_rng, e_comp_enum, e_comp_zip, e_xfld, bind_ok, bind_exc, to_ok, to_exc, opt_some, then_nx, then_rt, then_exc, d_val, d_new, tru_bl, tru_non, fin_bl, fin_int, fin_str, fin_non, fin_xnon, fin_xint, GK_call, GK_sub, GK_fld, GK_hot, List.map_cons, List.map_nil, List.cons_append, List.nil_append, List.replicate_succ, List.replicate_zero, Nat.sub_self, Nat.reduceSub, List.getElem?_cons_zero, List.getElem?_cons_succ, List.set_cons_zero, List.set_cons_succ, wipe, bindT, bindTs, List.length_cons, List.length_nil, Nat.reduceAdd, Nat.reduceLT, Nat.reduceLeDiff, Nat.zero_le, binW, binD, compL, stays_nil, decide_true, decide_false, LINE, Int.cast_ofNat_Int, Int.reduceLE, Int.reduceLT, Int.natCast_zero, Int.natCast_one, ixL_0, ixL_1, ixL_2, eqD_int, eqD_str, ixD_tup, ixD_lst, biD, boolsOf, lstOf, Option.bind_some, List.all_cons, List.all_nil, id, isx_non, isx_bl, isx_int, isx_str, isx_tup, isx_lst, isx_frz, isx_ref, isx_exn, String.reduceBEq, Bool.or_false, Bool.or_true, Bool.true_or, Bool.false_or, Bool.and_true, Bool.true_and, Bool.and_false, Bool.false_and, reduceIte, Bool.false_eq_true, Option.map_some, Option.map_none, Bool.not_true, Bool.not_false, D.pln_isx h]
  cases ht : isTup 2 2 d
  · have e : netFault d = some .non := by
      unfold netFault; split
      · simp [isTup] at ht
      · rfl
    cases d
    case tup xs =>
      have hl : decide ((xs.length : Int) = 2) = false := by
        simp only [isTup] at ht
        by_cases h : (xs.length : Int) = 2
        · rw [h] at ht; simp at ht
        · simp [h]
      simp only [xs_nil, xs_cons, evs, compF, x_asg, x_put, x_xpr, x_ret, x_cond, x_loop_seq, x_loop_enum, x_loop_rng, x_loop_zip, x_whl, x_raise, x_raiseN, x_tryx, x_tryr, x_pass, x_brk, x_cont, loopR_enum, loopR_tup, loopR_lst, ev_var, e_cst, e_bin, e_neg, e_cmp, e_chn, e_and, e_or, e_not, e_ite, e_tup, e_lst, e_new, e_dct, e_ix, e_sl, e_call, e_bi, e_mt, e_app, e_isi, e_comp_seq, e_comp_rng, e_comp_enum, e_comp_zip, e_xfld, bind_ok, bind_exc, to_ok, to_exc, opt_some, then_nx, then_rt, then_exc, d_val, d_new, tru_bl, tru_non, fin_bl, fin_int, fin_str, fin_non, fin_xnon, fin_xint, GK_call, GK_sub, GK_fld, GK_hot, List.map_cons, List.map_nil, List.cons_append, List.nil_append, List.replicate_succ, List.replicate_zero, Nat.sub_self, Nat.reduceSub, List.getElem?_cons_zero, List.getElem?_cons_succ, List.set_cons_zero, List.set_cons_succ, wipe, bindT, bindTs, List.length_cons, List.length_nil, Nat.reduceAdd, Nat.reduceLT, Nat.reduceLeDiff, Nat.zero_le, binW, binD, compL, stays_nil, decide_true, decide_false, LINE, Int.cast_ofNat_Int, Int.reduceLE, Int.reduceLT, Int.natCast_zero, Int.natCast_one, ixL_0, ixL_1, ixL_2, eqD_int, eqD_str, ixD_tup, ixD_lst, biD, boolsOf, lstOf, Option.bind_some, List.all_cons, List.all_nil, id, isx_non, isx_bl, isx_int, isx_str, isx_tup, isx_lst, isx_frz, isx_ref, isx_exn, String.reduceBEq, Bool.or_false, Bool.or_true, Bool.true_or, Bool.false_or, Bool.and_true, Bool.true_and, Bool.and_false, Bool.false_and, reduceIte, Bool.false_eq_true, Option.map_some, Option.map_none, Bool.not_true, Bool.not_false, isiD, lenD, cmpD, hl, e, faultT]; exact fin_rt (by simp [D.pln, D.plns])
    all_goals first | (simp [D.pln] at h; done) | (simp only [xs_nil, xs_cons, evs, compF, x_asg, x_put, x_xpr, x_ret, x_cond, x_loop_seq, x_loop_enum, x_loop_rng, x_loop_zip, x_whl, x_raise, x_raiseN, x_tryx, x_tryr, x_pass, x_brk, x_cont, loopR_enum, loopR_tup, loopR_lst, ev_var, e_cst, e_bin, e_neg, e_cmp, e_chn, e_and, e_or, e_not, e_ite, e_tup, e_lst, e_new, e_dct, e_ix, e_sl, e_call, e_bi, e_mt, e_app, e_isi, e_comp_seq, e_comp_rng, e_comp_enum, e_comp_zip, e_xfld, bind_ok, bind_exc, to_ok, to_exc, opt_some, then_nx, then_rt, then_exc, d_val, d_new, tru_bl, tru_non, fin_bl, fin_int, fin_str, fin_non, fin_xnon, fin_xint, GK_call, GK_sub, GK_fld, GK_hot, List.map_cons, List.map_nil, List.cons_append, List.nil_append, List.replicate_succ, List.replicate_zero, Nat.sub_self, Nat.reduceSub, List.getElem?_cons_zero, List.getElem?_cons_succ, List.set_cons_zero, List.set_cons_succ, wipe, bindT, bindTs, List.length_cons, List.length_nil, Nat.reduceAdd, Nat.reduceLT, Nat.reduceLeDiff, Nat.zero_le, binW, binD, compL, stays_nil, decide_true, decide_false, LINE, Int.cast_ofNat_Int, Int.reduceLE, Int.reduceLT, Int.natCast_zero, Int.natCast_one, ixL_0, ixL_1, ixL_2, eqD_int, eqD_str, ixD_tup, ixD_lst, biD, boolsOf, lstOf, Option.bind_some, List.all_cons, List.all_nil, id, isx_non, isx_bl, isx_int, isx_str, isx_tup, isx_lst, isx_frz, isx_ref, isx_exn, String.reduceBEq, Bool.or_false, Bool.or_true, Bool.true_or, Bool.false_or, Bool.and_true, Bool.true_and, Bool.and_false, Bool.false_and, reduceIte, Bool.false_eq_true, Option.map_some, Option.map_none, Bool.not_true, Bool.not_false, isiD, e, faultT]; exact fin_rt (by simp [D.pln, D.plns]))
  obtain ⟨x, y, rfl⟩ := isTup_2 ht
  have hx : x.pln = true ∧ y.pln = true := by simpa [D.pln, D.plns] using h
  simp only [xs_nil, xs_cons, evs, compF, x_asg, x_put, x_xpr, x_ret, x_cond, x_loop_seq, x_loop_enum, x_loop_rng, x_loop_zip, x_whl, x_raise, x_raiseN, x_tryx, x_tryr, x_pass, x_brk, x_cont, loopR_enum, loopR_tup, loopR_lst, ev_var, e_cst, e_bin, e_neg, e_cmp, e_chn, e_and, e_or, e_not, e_ite, e_tup, e_lst, e_new, e_dct, e_ix, e_sl, e_call, e_bi, e_mt, e_app, e_isi, e_comp_seq, e_comp_rng, e_comp_enum, e_comp_zip, e_xfld, bind_ok, bind_exc, to_ok, to_exc, opt_some, then_nx, then_rt, then_exc, d_val, d_new, tru_bl, tru_non, fin_bl, fin_int, fin_str, fin_non, fin_xnon, fin_xint, GK_call, GK_sub, GK_fld, GK_hot, List.map_cons, List.map_nil, List.cons_append, List.nil_append, List.replicate_succ, List.replicate_zero, Nat.sub_self, Nat.reduceSub, List.getElem?_cons_zero, List.getElem?_cons_succ, List.set_cons_zero, List.set_cons_succ, wipe, bindT, bindTs, List.length_cons, List.length_nil, Nat.reduceAdd, Nat.reduceLT, Nat.reduceLeDiff, Nat.zero_le, binW, binD, compL, stays_nil, decide_true, decide_false, LINE, Int.cast_ofNat_Int, Int.reduceLE, Int.reduceLT, Int.natCast_zero, Int.natCast_one, ixL_0, ixL_1, ixL_2, eqD_int, eqD_str, ixD_tup, ixD_lst, biD, boolsOf, lstOf, Option.bind_some, List.all_cons, List.all_nil, id, isx_non, isx_bl, isx_int, isx_str, isx_tup, isx_lst, isx_frz, isx_ref, isx_exn, String.reduceBEq, Bool.or_false, Bool.or_true, Bool.true_or, Bool.false_or, Bool.and_true, Bool.true_and, Bool.and_false, Bool.false_and, reduceIte, Bool.false_eq_true, Option.map_some, Option.map_none, Bool.not_true, Bool.not_false, isiD, lenD, cmpD, decide_true, r_law_is_number k x _ _ _ hx.1, netFault]
  cases hx1 : isAm 1 16 x
  · simp only [xs_nil, xs_cons, evs, compF, x_asg, x_put, x_xpr, x_ret, x_cond, x_loop_seq, x_loop_enum, x_loop_rng, x_loop_zip, x_whl, x_raise, x_raiseN, x_tryx, x_tryr, x_pass, x_brk, x_cont, loopR_enum, loopR_tup, loopR_lst, ev_var, e_cst, e_bin, e_neg, e_cmp, e_chn, e_and, e_or, e_not, e_ite, e_tup, e_lst, e_new, e_dct, e_ix, e_sl, e_call, e_bi, e_mt, e_app, e_isi, e_comp_seq, e_comp_rng, e_comp_enum, e_comp_zip, e_xfld, bind_ok, bind_exc, to_ok, to_exc, opt_some, then_nx, then_rt, then_exc, d_val, d_new, tru_bl, tru_non, fin_bl, fin_int, fin_str, fin_non, fin_xnon, fin_xint, GK_call, GK_sub, GK_fld, GK_hot, List.map_cons, List.map_nil, List.cons_append, List.nil_append, List.replicate_succ, List.replicate_zero, Nat.sub_self, Nat.reduceSub, List.getElem?_cons_zero, List.getElem?_cons_succ, List.set_cons_zero, List.set_cons_succ, wipe, bindT, bindTs, List.length_cons, List.length_nil, Nat.reduceAdd, Nat.reduceLT, Nat.reduceLeDiff, Nat.zero_le, binW, binD, compL, stays_nil, decide_true, decide_false, LINE, Int.cast_ofNat_Int, Int.reduceLE, Int.reduceLT, Int.natCast_zero, Int.natCast_one, ixL_0, ixL_1, ixL_2, eqD_int, eqD_str, ixD_tup, ixD_lst, biD, boolsOf, lstOf, Option.bind_some, List.all_cons, List.all_nil, id, isx_non, isx_bl, isx_int, isx_str, isx_tup, isx_lst, isx_frz, isx_ref, isx_exn, String.reduceBEq, Bool.or_false, Bool.or_true, Bool.true_or, Bool.false_or, Bool.and_true, Bool.true_and, Bool.and_false, Bool.false_and, reduceIte, Bool.false_eq_true, Option.map_some, Option.map_none, Bool.not_true, Bool.not_false, faultT]; exact fin_rt (by simp [D.pln, D.plns])
  obtain ⟨n, rfl⟩ := isAm_int hx1
  cases hy1 : isTup 0 60 y
  · cases y
    case tup xs =>
      have hl : decide (60 < (xs.length : Int)) = true := by
        simp [isTup] at ht hy1; simp; omega
      simp only [xs_nil, xs_cons, evs, compF, x_asg, x_put, x_xpr, x_ret, x_cond, x_loop_seq, x_loop_enum, x_loop_rng, x_loop_zip, x_whl, x_raise, x_raiseN, x_tryx, x_tryr, x_pass, x_brk, x_cont, loopR_enum, loopR_tup, loopR_lst, ev_var, e_cst, e_bin, e_neg, e_cmp, e_chn, e_and, e_or, e_not, e_ite, e_tup, e_lst, e_new, e_dct, e_ix, e_sl, e_call, e_bi, e_mt, e_app, e_isi, e_comp_seq, e_comp_rng, e_comp_enum, e_comp_zip, e_xfld, bind_ok, bind_exc, to_ok, to_exc, opt_some, then_nx, then_rt, then_exc, d_val, d_new, tru_bl, tru_non, fin_bl, fin_int, fin_str, fin_non, fin_xnon, fin_xint, GK_call, GK_sub, GK_fld, GK_hot, List.map_cons, List.map_nil, List.cons_append, List.nil_append, List.replicate_succ, List.replicate_zero, Nat.sub_self, Nat.reduceSub, List.getElem?_cons_zero, List.getElem?_cons_succ, List.set_cons_zero, List.set_cons_succ, wipe, bindT, bindTs, List.length_cons, List.length_nil, Nat.reduceAdd, Nat.reduceLT, Nat.reduceLeDiff, Nat.zero_le, binW, binD, compL, stays_nil, decide_true, decide_false, LINE, Int.cast_ofNat_Int, Int.reduceLE, Int.reduceLT, Int.natCast_zero, Int.natCast_one, ixL_0, ixL_1, ixL_2, eqD_int, eqD_str, ixD_tup, ixD_lst, biD, boolsOf, lstOf, Option.bind_some, List.all_cons, List.all_nil, id, isx_non, isx_bl, isx_int, isx_str, isx_tup, isx_lst, isx_frz, isx_ref, isx_exn, String.reduceBEq, Bool.or_false, Bool.or_true, Bool.true_or, Bool.false_or, Bool.and_true, Bool.true_and, Bool.and_false, Bool.false_and, reduceIte, Bool.false_eq_true, Option.map_some, Option.map_none, Bool.not_true, Bool.not_false, isiD, lenD, hl, faultT]; exact fin_rt (by simp [D.pln, D.plns])
    all_goals first | (have := hx.2; simp [D.pln] at this; done) | (simp only [xs_nil, xs_cons, evs, compF, x_asg, x_put, x_xpr, x_ret, x_cond, x_loop_seq, x_loop_enum, x_loop_rng, x_loop_zip, x_whl, x_raise, x_raiseN, x_tryx, x_tryr, x_pass, x_brk, x_cont, loopR_enum, loopR_tup, loopR_lst, ev_var, e_cst, e_bin, e_neg, e_cmp, e_chn, e_and, e_or, e_not, e_ite, e_tup, e_lst, e_new, e_dct, e_ix, e_sl, e_call, e_bi, e_mt, e_app, e_isi, e_comp_seq, e_comp_rng, e_comp_enum, e_comp_zip, e_xfld, bind_ok, bind_exc, to_ok, to_exc, opt_some, then_nx, then_rt, then_exc, d_val, d_new, tru_bl, tru_non, fin_bl, fin_int, fin_str, fin_non, fin_xnon, fin_xint, GK_call, GK_sub, GK_fld, GK_hot, List.map_cons, List.map_nil, List.cons_append, List.nil_append, List.replicate_succ, List.replicate_zero, Nat.sub_self, Nat.reduceSub, List.getElem?_cons_zero, List.getElem?_cons_succ, List.set_cons_zero, List.set_cons_succ, wipe, bindT, bindTs, List.length_cons, List.length_nil, Nat.reduceAdd, Nat.reduceLT, Nat.reduceLeDiff, Nat.zero_le, binW, binD, compL, stays_nil, decide_true, decide_false, LINE, Int.cast_ofNat_Int, Int.reduceLE, Int.reduceLT, Int.natCast_zero, Int.natCast_one, ixL_0, ixL_1, ixL_2, eqD_int, eqD_str, ixD_tup, ixD_lst, biD, boolsOf, lstOf, Option.bind_some, List.all_cons, List.all_nil, id, isx_non, isx_bl, isx_int, isx_str, isx_tup, isx_lst, isx_frz, isx_ref, isx_exn, String.reduceBEq, Bool.or_false, Bool.or_true, Bool.true_or, Bool.false_or, Bool.and_true, Bool.true_and, Bool.and_false, Bool.false_and, reduceIte, Bool.false_eq_true, Option.map_some, Option.map_none, Bool.not_true, Bool.not_false, isiD, faultT]; exact fin_rt (by simp [D.pln, D.plns]))
  obtain ⟨rs, rfl, _, hl⟩ := isTup_tup hy1
  have hp : D.plns rs = true := by simpa [D.pln] using hx.2
  have hl : decide (60 < (rs.length : Int)) = false := by simp; omega
  have L := law_net_loop k _ n S rs rfl rs [] none none hp rfl (by simp)
  simp only [xs_nil, xs_cons, evs, compF, x_asg, x_put, x_xpr, x_ret, x_cond, x_loop_seq, x_loop_enum, x_loop_rng, x_loop_zip, x_whl, x_raise, x_raiseN, x_tryx, x_tryr, x_pass, x_brk, x_cont, loopR_enum, loopR_tup, loopR_lst, ev_var, e_cst, e_bin, e_neg, e_cmp, e_chn, e_and, e_or, e_not, e_ite, e_tup, e_lst, e_new, e_dct, e_ix, e_sl, e_call, e_bi, e_mt, e_app, e_isi, e_comp_seq, e_comp_rng, e_comp_enum, e_comp_zip, e_xfld, bind_ok, bind_exc, to_ok, to_exc, opt_some, then_nx, then_rt, then_exc, d_val, d_new, tru_bl, tru_non, fin_bl, fin_int, fin_str, fin_non, fin_xnon, fin_xint, GK_call, GK_sub, GK_fld, GK_hot, List.map_cons, List.map_nil, List.cons_append, List.nil_append, List.replicate_succ, List.replicate_zero, Nat.sub_self, Nat.reduceSub, List.getElem?_cons_zero, List.getElem?_cons_succ, List.set_cons_zero, List.set_cons_succ, wipe, bindT, bindTs, List.length_cons, List.length_nil, Nat.reduceAdd, Nat.reduceLT, Nat.reduceLeDiff, Nat.zero_le, binW, binD, compL, stays_nil, decide_true, decide_false, LINE, Int.cast_ofNat_Int, Int.reduceLE, Int.reduceLT, Int.natCast_zero, Int.natCast_one, ixL_0, ixL_1, ixL_2, eqD_int, eqD_str, ixD_tup, ixD_lst, biD, boolsOf, lstOf, Option.bind_some, List.all_cons, List.all_nil, id, isx_non, isx_bl, isx_int, isx_str, isx_tup, isx_lst, isx_frz, isx_ref, isx_exn, String.reduceBEq, Bool.or_false, Bool.or_true, Bool.true_or, Bool.false_or, Bool.and_true, Bool.true_and, Bool.and_false, Bool.false_and, reduceIte, Bool.false_eq_true, Option.map_some, Option.map_none, Bool.not_true, Bool.not_false, isiD, lenD, hl, itemsOf, srcOf, enumD_en]
  cases hf : roadsFault n [] rs 0 <;> simp only [List.length_nil, hf] at L
  · obtain ⟨u, v, e⟩ := L
    simp only [xs_nil, xs_cons, evs, compF, x_asg, x_put, x_xpr, x_ret, x_cond, x_loop_seq, x_loop_enum, x_loop_rng, x_loop_zip, x_whl, x_raise, x_raiseN, x_tryx, x_tryr, x_pass, x_brk, x_cont, loopR_enum, loopR_tup, loopR_lst, ev_var, e_cst, e_bin, e_neg, e_cmp, e_chn, e_and, e_or, e_not, e_ite, e_tup, e_lst, e_new, e_dct, e_ix, e_sl, e_call, e_bi, e_mt, e_app, e_isi, e_comp_seq, e_comp_rng, e_comp_enum, e_comp_zip, e_xfld, bind_ok, bind_exc, to_ok, to_exc, opt_some, then_nx, then_rt, then_exc, d_val, d_new, tru_bl, tru_non, fin_bl, fin_int, fin_str, fin_non, fin_xnon, fin_xint, GK_call, GK_sub, GK_fld, GK_hot, List.map_cons, List.map_nil, List.cons_append, List.nil_append, List.replicate_succ, List.replicate_zero, Nat.sub_self, Nat.reduceSub, List.getElem?_cons_zero, List.getElem?_cons_succ, List.set_cons_zero, List.set_cons_succ, wipe, bindT, bindTs, List.length_cons, List.length_nil, Nat.reduceAdd, Nat.reduceLT, Nat.reduceLeDiff, Nat.zero_le, binW, binD, compL, stays_nil, decide_true, decide_false, LINE, Int.cast_ofNat_Int, Int.reduceLE, Int.reduceLT, Int.natCast_zero, Int.natCast_one, ixL_0, ixL_1, ixL_2, eqD_int, eqD_str, ixD_tup, ixD_lst, biD, boolsOf, lstOf, Option.bind_some, List.all_cons, List.all_nil, id, isx_non, isx_bl, isx_int, isx_str, isx_tup, isx_lst, isx_frz, isx_ref, isx_exn, String.reduceBEq, Bool.or_false, Bool.or_true, Bool.true_or, Bool.false_or, Bool.and_true, Bool.true_and, Bool.and_false, Bool.false_and, reduceIte, Bool.false_eq_true, Option.map_some, Option.map_none, Bool.not_true, Bool.not_false, e, faultT]
  · simp only [xs_nil, xs_cons, evs, compF, x_asg, x_put, x_xpr, x_ret, x_cond, x_loop_seq, x_loop_enum, x_loop_rng, x_loop_zip, x_whl, x_raise, x_raiseN, x_tryx, x_tryr, x_pass, x_brk, x_cont, loopR_enum, loopR_tup, loopR_lst, ev_var, e_cst, e_bin, e_neg, e_cmp, e_chn, e_and, e_or, e_not, e_ite, e_tup, e_lst, e_new, e_dct, e_ix, e_sl, e_call, e_bi, e_mt, e_app, e_isi, e_comp_seq, e_comp_rng, e_comp_enum, e_comp_zip, e_xfld, bind_ok, bind_exc, to_ok, to_exc, opt_some, then_nx, then_rt, then_exc, d_val, d_new, tru_bl, tru_non, fin_bl, fin_int, fin_str, fin_non, fin_xnon, fin_xint, GK_call, GK_sub, GK_fld, GK_hot, List.map_cons, List.map_nil, List.cons_append, List.nil_append, List.replicate_succ, List.replicate_zero, Nat.sub_self, Nat.reduceSub, List.getElem?_cons_zero, List.getElem?_cons_succ, List.set_cons_zero, List.set_cons_succ, wipe, bindT, bindTs, List.length_cons, List.length_nil, Nat.reduceAdd, Nat.reduceLT, Nat.reduceLeDiff, Nat.zero_le, binW, binD, compL, stays_nil, decide_true, decide_false, LINE, Int.cast_ofNat_Int, Int.reduceLE, Int.reduceLT, Int.natCast_zero, Int.natCast_one, ixL_0, ixL_1, ixL_2, eqD_int, eqD_str, ixD_tup, ixD_lst, biD, boolsOf, lstOf, Option.bind_some, List.all_cons, List.all_nil, id, isx_non, isx_bl, isx_int, isx_str, isx_tup, isx_lst, isx_frz, isx_ref, isx_exn, String.reduceBEq, Bool.or_false, Bool.or_true, Bool.true_or, Bool.false_or, Bool.and_true, Bool.true_and, Bool.and_false, Bool.false_and, reduceIte, Bool.false_eq_true, Option.map_some, Option.map_none, Bool.not_true, Bool.not_false, L, faultT]
    exact fin_rt (by simp [D.pln, D.plns])
theorem law_doors_loop (k : Nat) (f : D → Env → Store → RS) (n s : Int) (S : Store) (b : D) (pr : List D) (all : List D) (F : Option D)
    (hf : f = bodyF (GK (k + 1)) none (.tp [(.nm 4), (.nm 5)]) (.cons (.cond (.or (.not (.call (15 : Nat) (.cons (.var 5) (.cons (.cst (.int (0))) (.cons (.bin .sub (.ix (.ix (.var 0) (.cst (.int (0)))) (.cst (.int (0)))) (.cst (.int (1)))) .nil))))) (.cmp .isin (.var 5) (.sl (.var 3) (.cst .non) (.var 4))))
  (.cons (.ret (.tup (.cons (.cst (.str ("piece" : PySem.Str))) (.cons (.tup (.cons (.var 2) (.cons (.var 4) .nil))) .nil))))
  .nil)
  .nil)
  .nil)) : ∀ (rs known : List D) (u v : Option D), D.plns rs = true → all = known ++ rs → (∀ x ∈ known, ∃ j, x = .int j) →
    match doorsFault n known rs known.length with
    | none => ∃ u' v', forL [] f (en known.length rs) [some (.tup (.tup [.int n, b] :: pr)), F, some (.int s), some (.tup all), u, v] S = .nx [some (.tup (.tup [.int n, b] :: pr)), F, some (.int s), some (.tup all), u', v'] S
    | some j => forL [] f (en known.length rs) [some (.tup (.tup [.int n, b] :: pr)), F, some (.int s), some (.tup all), u, v] S = .rt (.tup [.str ("piece" : PySem.Str), .tup [.int s, .int (j : Nat)]]) S
  | [], known, u, v, _, _, _ => ⟨u, v, by simp [en, forL, stays]⟩
  | r :: rs, known, u, v, hp, ha, hk => by
    have hr : r.pln = true ∧ D.plns rs = true := by simpa [D.plns] using hp
    have st : forL [] f (en known.length (r :: rs)) [some (.tup (.tup [.int n, b] :: pr)), F, some (.int s), some (.tup all), u, v] S =
      match f (.tup [.int (known.length : Nat), r]) [some (.tup (.tup [.int n, b] :: pr)), F, some (.int s), some (.tup all), u, v] S with
      | .nx ρ' S' => forL [] f (en (known.length + 1) rs) ρ' S'
      | .ct ρ' S' => forL [] f (en (known.length + 1) rs) ρ' S'
      | .bk ρ' S' => .nx ρ' S'
      | r => r := by
      rw [en, forL, if_pos (stays_nil _)] <;> rfl
    have ef : f (.tup [.int (known.length : Nat), r]) [some (.tup (.tup [.int n, b] :: pr)), F, some (.int s), some (.tup all), u, v] S =
      if isAm 0 (n - 1) r && !(known.contains r) then .nx [some (.tup (.tup [.int n, b] :: pr)), F, some (.int s), some (.tup all), some (.int known.length), some r] S
      else .rt (.tup [.str ("piece" : PySem.Str), .tup [.int s, .int (known.length : Nat)]]) S := by
      rw [hf, bodyF]
      simp only [xs_nil, xs_cons, evs, compF, x_asg, x_put, x_xpr, x_ret, x_cond, x_loop_seq, x_loop_enum, x_loop_rng, x_loop_zip, x_whl, x_raise, x_raiseN, x_tryx, x_tryr, x_pass, x_brk, x_cont, loopR_enum, loopR_tup, loopR_lst, ev_var, e_cst, e_bin, e_neg, e_cmp, e_chn, e_and, e_or, e_not, e_ite, e_tup, e_lst, e_new, e_dct, e_ix, e_sl, e_call, e_bi, e_mt, e_app, e_isi, e_comp_seq, e_comp_rng, e_comp_enum, e_comp_zip, e_xfld, bind_ok, bind_exc, to_ok, to_exc, opt_some, then_nx, then_rt, then_exc, d_val, d_new, tru_bl, tru_non, fin_bl, fin_int, fin_str, fin_non, fin_xnon, fin_xint, GK_call, GK_sub, GK_fld, GK_hot, List.map_cons, List.map_nil, List.cons_append, List.nil_append, List.replicate_succ, List.replicate_zero, Nat.sub_self, Nat.reduceSub, List.getElem?_cons_zero, List.getElem?_cons_succ, List.set_cons_zero, List.set_cons_succ, wipe, bindT, bindTs, List.length_cons, List.length_nil, Nat.reduceAdd, Nat.reduceLT, Nat.reduceLeDiff, Nat.zero_le, binW, binD, compL, stays_nil, decide_true, decide_false, LINE, Int.cast_ofNat_Int, Int.reduceLE, Int.reduceLT, Int.natCast_zero, Int.natCast_one, ixL_0, ixL_1, ixL_2, eqD_int, eqD_str, ixD_tup, ixD_lst, biD, boolsOf, lstOf, Option.bind_some, List.all_cons, List.all_nil, id, isx_non, isx_bl, isx_int, isx_str, isx_tup, isx_lst, isx_frz, isx_ref, isx_exn, String.reduceBEq, Bool.or_false, Bool.or_true, Bool.true_or, Bool.false_or, Bool.and_true, Bool.true_and, Bool.and_false, Bool.false_and, reduceIte, Bool.false_eq_true, Option.map_some, Option.map_none, Bool.not_true, Bool.not_false, D.pln_isx hr.1, r_law_is_number k r _ _ _ hr.1]
      cases h1 : isAm 0 (n - 1) r
      · simp only [xs_nil, xs_cons, evs, compF, x_asg, x_put, x_xpr, x_ret, x_cond, x_loop_seq, x_loop_enum, x_loop_rng, x_loop_zip, x_whl, x_raise, x_raiseN, x_tryx, x_tryr, x_pass, x_brk, x_cont, loopR_enum, loopR_tup, loopR_lst, ev_var, e_cst, e_bin, e_neg, e_cmp, e_chn, e_and, e_or, e_not, e_ite, e_tup, e_lst, e_new, e_dct, e_ix, e_sl, e_call, e_bi, e_mt, e_app, e_isi, e_comp_seq, e_comp_rng, e_comp_enum, e_comp_zip, e_xfld, bind_ok, bind_exc, to_ok, to_exc, opt_some, then_nx, then_rt, then_exc, d_val, d_new, tru_bl, tru_non, fin_bl, fin_int, fin_str, fin_non, fin_xnon, fin_xint, GK_call, GK_sub, GK_fld, GK_hot, List.map_cons, List.map_nil, List.cons_append, List.nil_append, List.replicate_succ, List.replicate_zero, Nat.sub_self, Nat.reduceSub, List.getElem?_cons_zero, List.getElem?_cons_succ, List.set_cons_zero, List.set_cons_succ, wipe, bindT, bindTs, List.length_cons, List.length_nil, Nat.reduceAdd, Nat.reduceLT, Nat.reduceLeDiff, Nat.zero_le, binW, binD, compL, stays_nil, decide_true, decide_false, LINE, Int.cast_ofNat_Int, Int.reduceLE, Int.reduceLT, Int.natCast_zero, Int.natCast_one, ixL_0, ixL_1, ixL_2, eqD_int, eqD_str, ixD_tup, ixD_lst, biD, boolsOf, lstOf, Option.bind_some, List.all_cons, List.all_nil, id, isx_non, isx_bl, isx_int, isx_str, isx_tup, isx_lst, isx_frz, isx_ref, isx_exn, String.reduceBEq, Bool.or_false, Bool.or_true, Bool.true_or, Bool.false_or, Bool.and_true, Bool.true_and, Bool.and_false, Bool.false_and, reduceIte, Bool.false_eq_true, Option.map_some, Option.map_none, Bool.not_true, Bool.not_false]
      · obtain ⟨x, rfl⟩ := isAm_int h1
        simp only [xs_nil, xs_cons, evs, compF, x_asg, x_put, x_xpr, x_ret, x_cond, x_loop_seq, x_loop_enum, x_loop_rng, x_loop_zip, x_whl, x_raise, x_raiseN, x_tryx, x_tryr, x_pass, x_brk, x_cont, loopR_enum, loopR_tup, loopR_lst, ev_var, e_cst, e_bin, e_neg, e_cmp, e_chn, e_and, e_or, e_not, e_ite, e_tup, e_lst, e_new, e_dct, e_ix, e_sl, e_call, e_bi, e_mt, e_app, e_isi, e_comp_seq, e_comp_rng, e_comp_enum, e_comp_zip, e_xfld, bind_ok, bind_exc, to_ok, to_exc, opt_some, then_nx, then_rt, then_exc, d_val, d_new, tru_bl, tru_non, fin_bl, fin_int, fin_str, fin_non, fin_xnon, fin_xint, GK_call, GK_sub, GK_fld, GK_hot, List.map_cons, List.map_nil, List.cons_append, List.nil_append, List.replicate_succ, List.replicate_zero, Nat.sub_self, Nat.reduceSub, List.getElem?_cons_zero, List.getElem?_cons_succ, List.set_cons_zero, List.set_cons_succ, wipe, bindT, bindTs, List.length_cons, List.length_nil, Nat.reduceAdd, Nat.reduceLT, Nat.reduceLeDiff, Nat.zero_le, binW, binD, compL, stays_nil, decide_true, decide_false, LINE, Int.cast_ofNat_Int, Int.reduceLE, Int.reduceLT, Int.natCast_zero, Int.natCast_one, ixL_0, ixL_1, ixL_2, eqD_int, eqD_str, ixD_tup, ixD_lst, biD, boolsOf, lstOf, Option.bind_some, List.all_cons, List.all_nil, id, isx_non, isx_bl, isx_int, isx_str, isx_tup, isx_lst, isx_frz, isx_ref, isx_exn, String.reduceBEq, Bool.or_false, Bool.or_true, Bool.true_or, Bool.false_or, Bool.and_true, Bool.true_and, Bool.and_false, Bool.false_and, reduceIte, Bool.false_eq_true, Option.map_some, Option.map_none, Bool.not_true, Bool.not_false, cmpD, slD, noPart, partOf, ha, cutL_pre, inD, inL_int hk]
        cases known.contains (D.int x) <;> simp only [xs_nil, xs_cons, evs, compF, x_asg, x_put, x_xpr, x_ret, x_cond, x_loop_seq, x_loop_enum, x_loop_rng, x_loop_zip, x_whl, x_raise, x_raiseN, x_tryx, x_tryr, x_pass, x_brk, x_cont, loopR_enum, loopR_tup, loopR_lst, ev_var, e_cst, e_bin, e_neg, e_cmp, e_chn, e_and, e_or, e_not, e_ite, e_tup, e_lst, e_new, e_dct, e_ix, e_sl, e_call, e_bi, e_mt, e_app, e_isi, e_comp_seq, e_comp_rng, e_comp_enum, e_comp_zip, e_xfld, bind_ok, bind_exc, to_ok, to_exc, opt_some, then_nx, then_rt, then_exc, d_val, d_new, tru_bl, tru_non, fin_bl, fin_int, fin_str, fin_non, fin_xnon, fin_xint, GK_call, GK_sub, GK_fld, GK_hot, List.map_cons, List.map_nil, List.cons_append, List.nil_append, List.replicate_succ, List.replicate_zero, Nat.sub_self, Nat.reduceSub, List.getElem?_cons_zero, List.getElem?_cons_succ, List.set_cons_zero, List.set_cons_succ, wipe, bindT, bindTs, List.length_cons, List.length_nil, Nat.reduceAdd, Nat.reduceLT, Nat.reduceLeDiff, Nat.zero_le, binW, binD, compL, stays_nil, decide_true, decide_false, LINE, Int.cast_ofNat_Int, Int.reduceLE, Int.reduceLT, Int.natCast_zero, Int.natCast_one, ixL_0, ixL_1, ixL_2, eqD_int, eqD_str, ixD_tup, ixD_lst, biD, boolsOf, lstOf, Option.bind_some, List.all_cons, List.all_nil, id, isx_non, isx_bl, isx_int, isx_str, isx_tup, isx_lst, isx_frz, isx_ref, isx_exn, String.reduceBEq, Bool.or_false, Bool.or_true, Bool.true_or, Bool.false_or, Bool.and_true, Bool.true_and, Bool.and_false, Bool.false_and, reduceIte, Bool.false_eq_true, Option.map_some, Option.map_none, Bool.not_true, Bool.not_false]
    rw [st, ef, doorsFault]
    cases h : isAm 0 (n - 1) r && !(known.contains r)
    · simp only [Bool.false_eq_true, if_false]
    · simp only [if_true]
      have h1 : isAm 0 (n - 1) r = true := by simp at h; exact h.1
      have ih := law_doors_loop k f n s S b pr all F hf rs (known ++ [r]) (some (.int known.length)) (some r) hr.2 (by simp [ha]) (by
        intro x hx; rw [List.mem_append] at hx
        rcases hx with hx | hx
        · exact hk x hx
        · simp at hx; subst hx; exact isAm_int h1)
      rw [List.length_append] at ih
      exact ih
end K82
end

section
set_option Elab.async false
set_option linter.all false
set_option maxRecDepth 100000
set_option maxHeartbeats 0
namespace K82
open DW
open PySem (Str)
def lawF : Option (Nat × D) → D
  | none => .non
  | some (0, p) => .tup [.str ("net" : Str), p]
  | some (_, p) => .tup [.str ("piece" : Str), p]

theorem law_side (k : Nat) (f : D → Env → Store → RS) (n s : Int) (S : Store) (b dd : D) (pr : List D) (F : Option D)
    (hf : f = bodyF (GK (k + 1)) none (.nm 2) (.cons (.asg (.nm 3) (.ix (.var 0) (.var 2)))
  (.cons (.cond (.or (.not (.isi (.var 3) "tuple")) (.cmp .gt (.bi .len (.cons (.var 3) .nil)) (.cst (.int (5)))))
  (.cons (.ret (.tup (.cons (.cst (.str ("piece" : PySem.Str))) (.cons (.var 2) .nil))))
  .nil)
  .nil)
  (.cons (.loop (.tp [(.nm 4), (.nm 5)]) .enum (.cons (.var 3) .nil)
  (.cons (.cond (.or (.not (.call (15 : Nat) (.cons (.var 5) (.cons (.cst (.int (0))) (.cons (.bin .sub (.ix (.ix (.var 0) (.cst (.int (0)))) (.cst (.int (0)))) (.cst (.int (1)))) .nil))))) (.cmp .isin (.var 5) (.sl (.var 3) (.cst .non) (.var 4))))
  (.cons (.ret (.tup (.cons (.cst (.str ("piece" : PySem.Str))) (.cons (.tup (.cons (.var 2) (.cons (.var 4) .nil))) .nil))))
  .nil)
  .nil)
  .nil))
  .nil)))) (hs : ixL (.tup [.int n, b] :: pr) (.int s) = some dd) (hd : dd.pln = true) (a c u v : Option D) :
    match doorFault n s dd with
    | none => ∃ a' c' u' v', f (.int s) [some (.tup (.tup [.int n, b] :: pr)), F, a, c, u, v] S = .nx [some (.tup (.tup [.int n, b] :: pr)), F, a', c', u', v'] S
    | some p => f (.int s) [some (.tup (.tup [.int n, b] :: pr)), F, a, c, u, v] S = .rt (.tup [.str ("piece" : PySem.Str), p]) S := by
  have e0 : f (.int s) [some (.tup (.tup [.int n, b] :: pr)), F, a, c, u, v] S = f (.int s) [some (.tup (.tup [.int n, b] :: pr)), F, a, c, u, v] S := rfl
  conv at e0 => rhs; rw [hf, bodyF]
  rw [e0]
  simp only [xs_nil, xs_cons, evs, compF, x_asg, x_put, x_xpr, x_ret, x_cond, x_loop_seq, x_loop_enum, x_loop_rng, x_loop_zip, x_whl, x_raise, x_raiseN, x_tryx, x_tryr, x_pass, x_brk, x_cont, loopR_enum, loopR_tup, loopR_lst, ev_var, e_cst, e_bin, e_neg, e_cmp, e_chn, e_and, e_or, e_not, e_ite, e_tup, e_lst, e_new, e_dct, e_ix, e_sl, e_call, e_bi, e_mt, e_app, e_isi, e_comp_seq, e_comp_rng, e_comp_enum, e_comp_zip, e_xfld, bind_ok, bind_exc, to_ok, to_exc, opt_some, then_nx, then_rt, then_exc, d_val, d_new, tru_bl, tru_non, fin_bl, fin_int, fin_str, fin_non, fin_xnon, fin_xint, GK_call, GK_sub, GK_fld, GK_hot, List.map_cons, List.map_nil, List.cons_append, List.nil_append, List.replicate_succ, List.replicate_zero, Nat.sub_self, Nat.reduceSub, List.getElem?_cons_zero, List.getElem?_cons_succ, List.set_cons_zero, List.set_cons_succ, wipe, bindT, bindTs, List.length_cons, List.length_nil, Nat.reduceAdd, Nat.reduceLT, Nat.reduceLeDiff, Nat.zero_le, binW, binD, compL, stays_nil, decide_true, decide_false, LINE, Int.cast_ofNat_Int, Int.reduceLE, Int.reduceLT, Int.natCast_zero, Int.natCast_one, ixL_0, ixL_1, ixL_2, eqD_int, eqD_str, ixD_tup, ixD_lst, biD, boolsOf, lstOf, Option.bind_some, List.all_cons, List.all_nil, id, isx_non, isx_bl, isx_int, isx_str, isx_tup, isx_lst, isx_frz, isx_ref, isx_exn, String.reduceBEq, Bool.or_false, Bool.or_true, Bool.true_or, Bool.false_or, Bool.and_true, Bool.true_and, Bool.and_false, Bool.false_and, reduceIte, Bool.false_eq_true, Option.map_some, Option.map_none, Bool.not_true, Bool.not_false, hs, D.pln_isx hd]
  cases ht : isTup 0 5 dd
  · have e : doorFault n s dd = some (.int s) := by
      unfold doorFault; split
      · rw [ht]; rfl
      · rfl
    rw [e]
    cases dd
    case tup xs =>
      have hl : decide (5 < (xs.length : Int)) = true := by
        simp [isTup] at ht; simp; omega
      simp only [xs_nil, xs_cons, evs, compF, x_asg, x_put, x_xpr, x_ret, x_cond, x_loop_seq, x_loop_enum, x_loop_rng, x_loop_zip, x_whl, x_raise, x_raiseN, x_tryx, x_tryr, x_pass, x_brk, x_cont, loopR_enum, loopR_tup, loopR_lst, ev_var, e_cst, e_bin, e_neg, e_cmp, e_chn, e_and, e_or, e_not, e_ite, e_tup, e_lst, e_new, e_dct, e_ix, e_sl, e_call, e_bi, e_mt, e_app, e_isi, e_comp_seq, e_comp_rng, e_comp_enum, e_comp_zip, e_xfld, bind_ok, bind_exc, to_ok, to_exc, opt_some, then_nx, then_rt, then_exc, d_val, d_new, tru_bl, tru_non, fin_bl, fin_int, fin_str, fin_non, fin_xnon, fin_xint, GK_call, GK_sub, GK_fld, GK_hot, List.map_cons, List.map_nil, List.cons_append, List.nil_append, List.replicate_succ, List.replicate_zero, Nat.sub_self, Nat.reduceSub, List.getElem?_cons_zero, List.getElem?_cons_succ, List.set_cons_zero, List.set_cons_succ, wipe, bindT, bindTs, List.length_cons, List.length_nil, Nat.reduceAdd, Nat.reduceLT, Nat.reduceLeDiff, Nat.zero_le, binW, binD, compL, stays_nil, decide_true, decide_false, LINE, Int.cast_ofNat_Int, Int.reduceLE, Int.reduceLT, Int.natCast_zero, Int.natCast_one, ixL_0, ixL_1, ixL_2, eqD_int, eqD_str, ixD_tup, ixD_lst, biD, boolsOf, lstOf, Option.bind_some, List.all_cons, List.all_nil, id, isx_non, isx_bl, isx_int, isx_str, isx_tup, isx_lst, isx_frz, isx_ref, isx_exn, String.reduceBEq, Bool.or_false, Bool.or_true, Bool.true_or, Bool.false_or, Bool.and_true, Bool.true_and, Bool.and_false, Bool.false_and, reduceIte, Bool.false_eq_true, Option.map_some, Option.map_none, Bool.not_true, Bool.not_false, isiD, lenD, cmpD, hl]
    all_goals first | (simp [D.pln] at hd; done) | (simp only [xs_nil, xs_cons, evs, compF, x_asg, x_put, x_xpr, x_ret, x_cond, x_loop_seq, x_loop_enum, x_loop_rng, x_loop_zip, x_whl, x_raise, x_raiseN, x_tryx, x_tryr, x_pass, x_brk, x_cont, loopR_enum, loopR_tup, loopR_lst, ev_var, e_cst, e_bin, e_neg, e_cmp, e_chn, e_and, e_or, e_not, e_ite, e_tup, e_lst, e_new, e_dct, e_ix, e_sl, e_call, e_bi, e_mt, e_app, e_isi, e_comp_seq, e_comp_rng, e_comp_enum, e_comp_zip, e_xfld, bind_ok, bind_exc, to_ok, to_exc, opt_some, then_nx, then_rt, then_exc, d_val, d_new, tru_bl, tru_non, fin_bl, fin_int, fin_str, fin_non, fin_xnon, fin_xint, GK_call, GK_sub, GK_fld, GK_hot, List.map_cons, List.map_nil, List.cons_append, List.nil_append, List.replicate_succ, List.replicate_zero, Nat.sub_self, Nat.reduceSub, List.getElem?_cons_zero, List.getElem?_cons_succ, List.set_cons_zero, List.set_cons_succ, wipe, bindT, bindTs, List.length_cons, List.length_nil, Nat.reduceAdd, Nat.reduceLT, Nat.reduceLeDiff, Nat.zero_le, binW, binD, compL, stays_nil, decide_true, decide_false, LINE, Int.cast_ofNat_Int, Int.reduceLE, Int.reduceLT, Int.natCast_zero, Int.natCast_one, ixL_0, ixL_1, ixL_2, eqD_int, eqD_str, ixD_tup, ixD_lst, biD, boolsOf, lstOf, Option.bind_some, List.all_cons, List.all_nil, id, isx_non, isx_bl, isx_int, isx_str, isx_tup, isx_lst, isx_frz, isx_ref, isx_exn, String.reduceBEq, Bool.or_false, Bool.or_true, Bool.true_or, Bool.false_or, Bool.and_true, Bool.true_and, Bool.and_false, Bool.false_and, reduceIte, Bool.false_eq_true, Option.map_some, Option.map_none, Bool.not_true, Bool.not_false, isiD])
  obtain ⟨rs, rfl, _, hl⟩ := isTup_tup ht
  have hp : D.plns rs = true := by simpa [D.pln] using hd
  have hl : decide (5 < (rs.length : Int)) = false := by simp; omega
  have L := law_doors_loop k _ n s S b pr rs F rfl rs [] u v hp rfl (by simp)
  simp only [xs_nil, xs_cons, evs, compF, x_asg, x_put, x_xpr, x_ret, x_cond, x_loop_seq, x_loop_enum, x_loop_rng, x_loop_zip, x_whl, x_raise, x_raiseN, x_tryx, x_tryr, x_pass, x_brk, x_cont, loopR_enum, loopR_tup, loopR_lst, ev_var, e_cst, e_bin, e_neg, e_cmp, e_chn, e_and, e_or, e_not, e_ite, e_tup, e_lst, e_new, e_dct, e_ix, e_sl, e_call, e_bi, e_mt, e_app, e_isi, e_comp_seq, e_comp_rng, e_comp_enum, e_comp_zip, e_xfld, bind_ok, bind_exc, to_ok, to_exc, opt_some, then_nx, then_rt, then_exc, d_val, d_new, tru_bl, tru_non, fin_bl, fin_int, fin_str, fin_non, fin_xnon, fin_xint, GK_call, GK_sub, GK_fld, GK_hot, List.map_cons, List.map_nil, List.cons_append, List.nil_append, List.replicate_succ, List.replicate_zero, Nat.sub_self, Nat.reduceSub, List.getElem?_cons_zero, List.getElem?_cons_succ, List.set_cons_zero, List.set_cons_succ, wipe, bindT, bindTs, List.length_cons, List.length_nil, Nat.reduceAdd, Nat.reduceLT, Nat.reduceLeDiff, Nat.zero_le, binW, binD, compL, stays_nil, decide_true, decide_false, LINE, Int.cast_ofNat_Int, Int.reduceLE, Int.reduceLT, Int.natCast_zero, Int.natCast_one, ixL_0, ixL_1, ixL_2, eqD_int, eqD_str, ixD_tup, ixD_lst, biD, boolsOf, lstOf, Option.bind_some, List.all_cons, List.all_nil, id, isx_non, isx_bl, isx_int, isx_str, isx_tup, isx_lst, isx_frz, isx_ref, isx_exn, String.reduceBEq, Bool.or_false, Bool.or_true, Bool.true_or, Bool.false_or, Bool.and_true, Bool.true_and, Bool.and_false, Bool.false_and, reduceIte, Bool.false_eq_true, Option.map_some, Option.map_none, Bool.not_true, Bool.not_false, isiD, lenD, cmpD, hl, itemsOf, srcOf, enumD_en, doorFault, ht]
  cases hf : doorsFault n [] rs 0 <;> simp only [List.length_nil, hf] at L
  · obtain ⟨u, v, e⟩ := L
    simp only [xs_nil, xs_cons, evs, compF, x_asg, x_put, x_xpr, x_ret, x_cond, x_loop_seq, x_loop_enum, x_loop_rng, x_loop_zip, x_whl, x_raise, x_raiseN, x_tryx, x_tryr, x_pass, x_brk, x_cont, loopR_enum, loopR_tup, loopR_lst, ev_var, e_cst, e_bin, e_neg, e_cmp, e_chn, e_and, e_or, e_not, e_ite, e_tup, e_lst, e_new, e_dct, e_ix, e_sl, e_call, e_bi, e_mt, e_app, e_isi, e_comp_seq, e_comp_rng, e_comp_enum, e_comp_zip, e_xfld, bind_ok, bind_exc, to_ok, to_exc, opt_some, then_nx, then_rt, then_exc, d_val, d_new, tru_bl, tru_non, fin_bl, fin_int, fin_str, fin_non, fin_xnon, fin_xint, GK_call, GK_sub, GK_fld, GK_hot, List.map_cons, List.map_nil, List.cons_append, List.nil_append, List.replicate_succ, List.replicate_zero, Nat.sub_self, Nat.reduceSub, List.getElem?_cons_zero, List.getElem?_cons_succ, List.set_cons_zero, List.set_cons_succ, wipe, bindT, bindTs, List.length_cons, List.length_nil, Nat.reduceAdd, Nat.reduceLT, Nat.reduceLeDiff, Nat.zero_le, binW, binD, compL, stays_nil, decide_true, decide_false, LINE, Int.cast_ofNat_Int, Int.reduceLE, Int.reduceLT, Int.natCast_zero, Int.natCast_one, ixL_0, ixL_1, ixL_2, eqD_int, eqD_str, ixD_tup, ixD_lst, biD, boolsOf, lstOf, Option.bind_some, List.all_cons, List.all_nil, id, isx_non, isx_bl, isx_int, isx_str, isx_tup, isx_lst, isx_frz, isx_ref, isx_exn, String.reduceBEq, Bool.or_false, Bool.or_true, Bool.true_or, Bool.false_or, Bool.and_true, Bool.true_and, Bool.and_false, Bool.false_and, reduceIte, Bool.false_eq_true, Option.map_some, Option.map_none, Bool.not_true, Bool.not_false, e]
    exact ⟨_, _, _, _, rfl⟩
  · simp only [xs_nil, xs_cons, evs, compF, x_asg, x_put, x_xpr, x_ret, x_cond, x_loop_seq, x_loop_enum, x_loop_rng, x_loop_zip, x_whl, x_raise, x_raiseN, x_tryx, x_tryr, x_pass, x_brk, x_cont, loopR_enum, loopR_tup, loopR_lst, ev_var, e_cst, e_bin, e_neg, e_cmp, e_chn, e_and, e_or, e_not, e_ite, e_tup, e_lst, e_new, e_dct, e_ix, e_sl, e_call, e_bi, e_mt, e_app, e_isi, e_comp_seq, e_comp_rng, e_comp_enum, e_comp_zip, e_xfld, bind_ok, bind_exc, to_ok, to_exc, opt_some, then_nx, then_rt, then_exc, d_val, d_new, tru_bl, tru_non, fin_bl, fin_int, fin_str, fin_non, fin_xnon, fin_xint, GK_call, GK_sub, GK_fld, GK_hot, List.map_cons, List.map_nil, List.cons_append, List.nil_append, List.replicate_succ, List.replicate_zero, Nat.sub_self, Nat.reduceSub, List.getElem?_cons_zero, List.getElem?_cons_succ, List.set_cons_zero, List.set_cons_succ, wipe, bindT, bindTs, List.length_cons, List.length_nil, Nat.reduceAdd, Nat.reduceLT, Nat.reduceLeDiff, Nat.zero_le, binW, binD, compL, stays_nil, decide_true, decide_false, LINE, Int.cast_ofNat_Int, Int.reduceLE, Int.reduceLT, Int.natCast_zero, Int.natCast_one, ixL_0, ixL_1, ixL_2, eqD_int, eqD_str, ixD_tup, ixD_lst, biD, boolsOf, lstOf, Option.bind_some, List.all_cons, List.all_nil, id, isx_non, isx_bl, isx_int, isx_str, isx_tup, isx_lst, isx_frz, isx_ref, isx_exn, String.reduceBEq, Bool.or_false, Bool.or_true, Bool.true_or, Bool.false_or, Bool.and_true, Bool.true_and, Bool.and_false, Bool.false_and, reduceIte, Bool.false_eq_true, Option.map_some, Option.map_none, Bool.not_true, Bool.not_false, L]
theorem r_law_piece_fault (k : Nat) (d : D) (S : Store) (h : d.pln = true) : Rn (k + 3) (17 : Nat) [d] S = .ok (lawF (pieceFault d)) S := by
  rw [Rn_at t_law_piece_fault rfl, b_law_piece_fault]
  simp only [xs_nil, xs_cons, evs, compF, x_asg, x_put, x_xpr, x_ret, x_cond, x_loop_seq, x_loop_enum, x_loop_rng, x_loop_zip, x_whl, x_raise, x_raiseN, x_tryx, x_tryr, x_pass, x_brk, x_cont, loopR_enum, loopR_tup, loopR_lst, ev_var, e_cst, e_bin, e_neg, e_cmp, e_chn, e_and, e_or, e_not, e_ite, e_tup, e_lst, e_new, e_dct, e_ix, e_sl, e_call, e_bi, e_mt, e_app, e_isi, e_comp_seq, e_comp_rng, e_comp_enum, e_comp_zip, e_xfld, bind_ok, bind_exc, to_ok, to_exc, opt_some, then_nx, then_rt, then_exc, d_val, d_new, tru_bl, tru_non, fin_bl, fin_int, fin_str, fin_non, fin_xnon, fin_xint, GK_call, GK_sub, GK_fld, GK_hot, List.map_cons, List.map_nil, List.cons_append, List.nil_append, List.replicate_succ, List.replicate_zero, Nat.sub_self, Nat.reduceSub, List.getElem?_cons_zero, List.getElem?_cons_succ, List.set_cons_zero, List.set_cons_succ, wipe, bindT, bindTs, List.length_cons, List.length_nil, Nat.reduceAdd, Nat.reduceLT, Nat.reduceLeDiff, Nat.zero_le, binW, binD, compL, stays_nil, decide_true, decide_false, LINE, Int.cast_ofNat_Int, Int.reduceLE, Int.reduceLT, Int.natCast_zero, Int.natCast_one, ixL_0, ixL_1, ixL_2, eqD_int, eqD_str, ixD_tup, ixD_lst, biD, boolsOf, lstOf, Option.bind_some, List.all_cons, List.all_nil, id, isx_non, isx_bl, isx_int, isx_str, isx_tup, isx_lst, isx_frz, isx_ref, isx_exn, String.reduceBEq, Bool.or_false, Bool.or_true, Bool.true_or, Bool.false_or, Bool.and_true, Bool.true_and, Bool.and_false, Bool.false_and, reduceIte, Bool.false_eq_true, Option.map_some, Option.map_none, Bool.not_true, Bool.not_false, D.pln_isx h]
  cases ht : isTup 3 3 d
  · have e : pieceFault d = some (1, .non) := by
      unfold pieceFault; split
      · simp [isTup] at ht
      · rfl
    cases d
    case tup xs =>
      have hl : decide ((xs.length : Int) = 3) = false := by
        simp only [isTup] at ht
        by_cases h : (xs.length : Int) = 3
        · rw [h] at ht; simp at ht
        · simp [h]
      simp only [xs_nil, xs_cons, evs, compF, x_asg, x_put, x_xpr, x_ret, x_cond, x_loop_seq, x_loop_enum, x_loop_rng, x_loop_zip, x_whl, x_raise, x_raiseN, x_tryx, x_tryr, x_pass, x_brk, x_cont, loopR_enum, loopR_tup, loopR_lst, ev_var, e_cst, e_bin, e_neg, e_cmp, e_chn, e_and, e_or, e_not, e_ite, e_tup, e_lst, e_new, e_dct, e_ix, e_sl, e_call, e_bi, e_mt, e_app, e_isi, e_comp_seq, e_comp_rng, e_comp_enum, e_comp_zip, e_xfld, bind_ok, bind_exc, to_ok, to_exc, opt_some, then_nx, then_rt, then_exc, d_val, d_new, tru_bl, tru_non, fin_bl, fin_int, fin_str, fin_non, fin_xnon, fin_xint, GK_call, GK_sub, GK_fld, GK_hot, List.map_cons, List.map_nil, List.cons_append, List.nil_append, List.replicate_succ, List.replicate_zero, Nat.sub_self, Nat.reduceSub, List.getElem?_cons_zero, List.getElem?_cons_succ, List.set_cons_zero, List.set_cons_succ, wipe, bindT, bindTs, List.length_cons, List.length_nil, Nat.reduceAdd, Nat.reduceLT, Nat.reduceLeDiff, Nat.zero_le, binW, binD, compL, stays_nil, decide_true, decide_false, LINE, Int.cast_ofNat_Int, Int.reduceLE, Int.reduceLT, Int.natCast_zero, Int.natCast_one, ixL_0, ixL_1, ixL_2, eqD_int, eqD_str, ixD_tup, ixD_lst, biD, boolsOf, lstOf, Option.bind_some, List.all_cons, List.all_nil, id, isx_non, isx_bl, isx_int, isx_str, isx_tup, isx_lst, isx_frz, isx_ref, isx_exn, String.reduceBEq, Bool.or_false, Bool.or_true, Bool.true_or, Bool.false_or, Bool.and_true, Bool.true_and, Bool.and_false, Bool.false_and, reduceIte, Bool.false_eq_true, Option.map_some, Option.map_none, Bool.not_true, Bool.not_false, isiD, lenD, cmpD, hl, e, lawF]; exact fin_rt (by simp [D.pln, D.plns])
    all_goals first | (simp [D.pln] at h; done) | (simp only [xs_nil, xs_cons, evs, compF, x_asg, x_put, x_xpr, x_ret, x_cond, x_loop_seq, x_loop_enum, x_loop_rng, x_loop_zip, x_whl, x_raise, x_raiseN, x_tryx, x_tryr, x_pass, x_brk, x_cont, loopR_enum, loopR_tup, loopR_lst, ev_var, e_cst, e_bin, e_neg, e_cmp, e_chn, e_and, e_or, e_not, e_ite, e_tup, e_lst, e_new, e_dct, e_ix, e_sl, e_call, e_bi, e_mt, e_app, e_isi, e_comp_seq, e_comp_rng, e_comp_enum, e_comp_zip, e_xfld, bind_ok, bind_exc, to_ok, to_exc, opt_some, then_nx, then_rt, then_exc, d_val, d_new, tru_bl, tru_non, fin_bl, fin_int, fin_str, fin_non, fin_xnon, fin_xint, GK_call, GK_sub, GK_fld, GK_hot, List.map_cons, List.map_nil, List.cons_append, List.nil_append, List.replicate_succ, List.replicate_zero, Nat.sub_self, Nat.reduceSub, List.getElem?_cons_zero, List.getElem?_cons_succ, List.set_cons_zero, List.set_cons_succ, wipe, bindT, bindTs, List.length_cons, List.length_nil, Nat.reduceAdd, Nat.reduceLT, Nat.reduceLeDiff, Nat.zero_le, binW, binD, compL, stays_nil, decide_true, decide_false, LINE, Int.cast_ofNat_Int, Int.reduceLE, Int.reduceLT, Int.natCast_zero, Int.natCast_one, ixL_0, ixL_1, ixL_2, eqD_int, eqD_str, ixD_tup, ixD_lst, biD, boolsOf, lstOf, Option.bind_some, List.all_cons, List.all_nil, id, isx_non, isx_bl, isx_int, isx_str, isx_tup, isx_lst, isx_frz, isx_ref, isx_exn, String.reduceBEq, Bool.or_false, Bool.or_true, Bool.true_or, Bool.false_or, Bool.and_true, Bool.true_and, Bool.and_false, Bool.false_and, reduceIte, Bool.false_eq_true, Option.map_some, Option.map_none, Bool.not_true, Bool.not_false, isiD, e, lawF]; exact fin_rt (by simp [D.pln, D.plns]))
  obtain ⟨x, y, z, rfl⟩ := isTup_3 ht
  have hx : x.pln = true ∧ y.pln = true ∧ z.pln = true := by simpa [D.pln, D.plns] using h
  simp only [xs_nil, xs_cons, evs, compF, x_asg, x_put, x_xpr, x_ret, x_cond, x_loop_seq, x_loop_enum, x_loop_rng, x_loop_zip, x_whl, x_raise, x_raiseN, x_tryx, x_tryr, x_pass, x_brk, x_cont, loopR_enum, loopR_tup, loopR_lst, ev_var, e_cst, e_bin, e_neg, e_cmp, e_chn, e_and, e_or, e_not, e_ite, e_tup, e_lst, e_new, e_dct, e_ix, e_sl, e_call, e_bi, e_mt, e_app, e_isi, e_comp_seq, e_comp_rng, e_comp_enum, e_comp_zip, e_xfld, bind_ok, bind_exc, to_ok, to_exc, opt_some, then_nx, then_rt, then_exc, d_val, d_new, tru_bl, tru_non, fin_bl, fin_int, fin_str, fin_non, fin_xnon, fin_xint, GK_call, GK_sub, GK_fld, GK_hot, List.map_cons, List.map_nil, List.cons_append, List.nil_append, List.replicate_succ, List.replicate_zero, Nat.sub_self, Nat.reduceSub, List.getElem?_cons_zero, List.getElem?_cons_succ, List.set_cons_zero, List.set_cons_succ, wipe, bindT, bindTs, List.length_cons, List.length_nil, Nat.reduceAdd, Nat.reduceLT, Nat.reduceLeDiff, Nat.zero_le, binW, binD, compL, stays_nil, decide_true, decide_false, LINE, Int.cast_ofNat_Int, Int.reduceLE, Int.reduceLT, Int.natCast_zero, Int.natCast_one, ixL_0, ixL_1, ixL_2, eqD_int, eqD_str, ixD_tup, ixD_lst, biD, boolsOf, lstOf, Option.bind_some, List.all_cons, List.all_nil, id, isx_non, isx_bl, isx_int, isx_str, isx_tup, isx_lst, isx_frz, isx_ref, isx_exn, String.reduceBEq, Bool.or_false, Bool.or_true, Bool.true_or, Bool.false_or, Bool.and_true, Bool.true_and, Bool.and_false, Bool.false_and, reduceIte, Bool.false_eq_true, Option.map_some, Option.map_none, Bool.not_true, Bool.not_false, isiD, lenD, cmpD, decide_true, r_law_net_fault k x _ hx.1, pieceFault]
  cases hn : netFault x with
  | some p =>
    have hp := netFault_pln hn
    have e : decide (faultT (some p) = D.non) = false := by simp [faultT]
    simp only [xs_nil, xs_cons, evs, compF, x_asg, x_put, x_xpr, x_ret, x_cond, x_loop_seq, x_loop_enum, x_loop_rng, x_loop_zip, x_whl, x_raise, x_raiseN, x_tryx, x_tryr, x_pass, x_brk, x_cont, loopR_enum, loopR_tup, loopR_lst, ev_var, e_cst, e_bin, e_neg, e_cmp, e_chn, e_and, e_or, e_not, e_ite, e_tup, e_lst, e_new, e_dct, e_ix, e_sl, e_call, e_bi, e_mt, e_app, e_isi, e_comp_seq, e_comp_rng, e_comp_enum, e_comp_zip, e_xfld, bind_ok, bind_exc, to_ok, to_exc, opt_some, then_nx, then_rt, then_exc, d_val, d_new, tru_bl, tru_non, fin_bl, fin_int, fin_str, fin_non, fin_xnon, fin_xint, GK_call, GK_sub, GK_fld, GK_hot, List.map_cons, List.map_nil, List.cons_append, List.nil_append, List.replicate_succ, List.replicate_zero, Nat.sub_self, Nat.reduceSub, List.getElem?_cons_zero, List.getElem?_cons_succ, List.set_cons_zero, List.set_cons_succ, wipe, bindT, bindTs, List.length_cons, List.length_nil, Nat.reduceAdd, Nat.reduceLT, Nat.reduceLeDiff, Nat.zero_le, binW, binD, compL, stays_nil, decide_true, decide_false, LINE, Int.cast_ofNat_Int, Int.reduceLE, Int.reduceLT, Int.natCast_zero, Int.natCast_one, ixL_0, ixL_1, ixL_2, eqD_int, eqD_str, ixD_tup, ixD_lst, biD, boolsOf, lstOf, Option.bind_some, List.all_cons, List.all_nil, id, isx_non, isx_bl, isx_int, isx_str, isx_tup, isx_lst, isx_frz, isx_ref, isx_exn, String.reduceBEq, Bool.or_false, Bool.or_true, Bool.true_or, Bool.false_or, Bool.and_true, Bool.true_and, Bool.and_false, Bool.false_and, reduceIte, Bool.false_eq_true, Option.map_some, Option.map_none, Bool.not_true, Bool.not_false, e, faultT, lawF]; exact fin_rt (by simp [D.pln, D.plns, hp])
  | none =>
    obtain ⟨n, rs, rfl, _⟩ := netFault_none hn
    have e : decide (faultT none = D.non) = true := by simp [faultT]
    simp only [xs_nil, xs_cons, evs, compF, x_asg, x_put, x_xpr, x_ret, x_cond, x_loop_seq, x_loop_enum, x_loop_rng, x_loop_zip, x_whl, x_raise, x_raiseN, x_tryx, x_tryr, x_pass, x_brk, x_cont, loopR_enum, loopR_tup, loopR_lst, ev_var, e_cst, e_bin, e_neg, e_cmp, e_chn, e_and, e_or, e_not, e_ite, e_tup, e_lst, e_new, e_dct, e_ix, e_sl, e_call, e_bi, e_mt, e_app, e_isi, e_comp_seq, e_comp_rng, e_comp_enum, e_comp_zip, e_xfld, bind_ok, bind_exc, to_ok, to_exc, opt_some, then_nx, then_rt, then_exc, d_val, d_new, tru_bl, tru_non, fin_bl, fin_int, fin_str, fin_non, fin_xnon, fin_xint, GK_call, GK_sub, GK_fld, GK_hot, List.map_cons, List.map_nil, List.cons_append, List.nil_append, List.replicate_succ, List.replicate_zero, Nat.sub_self, Nat.reduceSub, List.getElem?_cons_zero, List.getElem?_cons_succ, List.set_cons_zero, List.set_cons_succ, wipe, bindT, bindTs, List.length_cons, List.length_nil, Nat.reduceAdd, Nat.reduceLT, Nat.reduceLeDiff, Nat.zero_le, binW, binD, compL, stays_nil, decide_true, decide_false, LINE, Int.cast_ofNat_Int, Int.reduceLE, Int.reduceLT, Int.natCast_zero, Int.natCast_one, ixL_0, ixL_1, ixL_2, eqD_int, eqD_str, ixD_tup, ixD_lst, biD, boolsOf, lstOf, Option.bind_some, List.all_cons, List.all_nil, id, isx_non, isx_bl, isx_int, isx_str, isx_tup, isx_lst, isx_frz, isx_ref, isx_exn, String.reduceBEq, Bool.or_false, Bool.or_true, Bool.true_or, Bool.false_or, Bool.and_true, Bool.true_and, Bool.and_false, Bool.false_and, reduceIte, Bool.false_eq_true, Option.map_some, Option.map_none, Bool.not_true, Bool.not_false, e, faultT, forL]
    have L1 := law_side (k + 1) _ n 1 S (.tup rs) y [y, z] (some .non) rfl (ixL_1 _ _ _) hx.2.1 none none none none
    cases h1 : doorFault n 1 y with
    | some p =>
      simp only [h1] at L1
      simp only [xs_nil, xs_cons, evs, compF, x_asg, x_put, x_xpr, x_ret, x_cond, x_loop_seq, x_loop_enum, x_loop_rng, x_loop_zip, x_whl, x_raise, x_raiseN, x_tryx, x_tryr, x_pass, x_brk, x_cont, loopR_enum, loopR_tup, loopR_lst, ev_var, e_cst, e_bin, e_neg, e_cmp, e_chn, e_and, e_or, e_not, e_ite, e_tup, e_lst, e_new, e_dct, e_ix, e_sl, e_call, e_bi, e_mt, e_app, e_isi, e_comp_seq, e_comp_rng, e_comp_enum, e_comp_zip, e_xfld, bind_ok, bind_exc, to_ok, to_exc, opt_some, then_nx, then_rt, then_exc, d_val, d_new, tru_bl, tru_non, fin_bl, fin_int, fin_str, fin_non, fin_xnon, fin_xint, GK_call, GK_sub, GK_fld, GK_hot, List.map_cons, List.map_nil, List.cons_append, List.nil_append, List.replicate_succ, List.replicate_zero, Nat.sub_self, Nat.reduceSub, List.getElem?_cons_zero, List.getElem?_cons_succ, List.set_cons_zero, List.set_cons_succ, wipe, bindT, bindTs, List.length_cons, List.length_nil, Nat.reduceAdd, Nat.reduceLT, Nat.reduceLeDiff, Nat.zero_le, binW, binD, compL, stays_nil, decide_true, decide_false, LINE, Int.cast_ofNat_Int, Int.reduceLE, Int.reduceLT, Int.natCast_zero, Int.natCast_one, ixL_0, ixL_1, ixL_2, eqD_int, eqD_str, ixD_tup, ixD_lst, biD, boolsOf, lstOf, Option.bind_some, List.all_cons, List.all_nil, id, isx_non, isx_bl, isx_int, isx_str, isx_tup, isx_lst, isx_frz, isx_ref, isx_exn, String.reduceBEq, Bool.or_false, Bool.or_true, Bool.true_or, Bool.false_or, Bool.and_true, Bool.true_and, Bool.and_false, Bool.false_and, reduceIte, Bool.false_eq_true, Option.map_some, Option.map_none, Bool.not_true, Bool.not_false, L1, lawF]; exact fin_rt (by simp [D.pln, D.plns, doorFault_pln h1])
    | none =>
      simp only [h1] at L1
      obtain ⟨a, c, u, v, L1⟩ := L1
      have L2 := law_side (k + 1) _ n 2 S (.tup rs) z [y, z] (some .non) rfl (ixL_2 _ _ _ _) hx.2.2 a c u v
      cases h2 : doorFault n 2 z with
      | some p =>
        simp only [h2] at L2
        simp only [xs_nil, xs_cons, evs, compF, x_asg, x_put, x_xpr, x_ret, x_cond, x_loop_seq, x_loop_enum, x_loop_rng, x_loop_zip, x_whl, x_raise, x_raiseN, x_tryx, x_tryr, x_pass, x_brk, x_cont, loopR_enum, loopR_tup, loopR_lst, ev_var, e_cst, e_bin, e_neg, e_cmp, e_chn, e_and, e_or, e_not, e_ite, e_tup, e_lst, e_new, e_dct, e_ix, e_sl, e_call, e_bi, e_mt, e_app, e_isi, e_comp_seq, e_comp_rng, e_comp_enum, e_comp_zip, e_xfld, bind_ok, bind_exc, to_ok, to_exc, opt_some, then_nx, then_rt, then_exc, d_val, d_new, tru_bl, tru_non, fin_bl, fin_int, fin_str, fin_non, fin_xnon, fin_xint, GK_call, GK_sub, GK_fld, GK_hot, List.map_cons, List.map_nil, List.cons_append, List.nil_append, List.replicate_succ, List.replicate_zero, Nat.sub_self, Nat.reduceSub, List.getElem?_cons_zero, List.getElem?_cons_succ, List.set_cons_zero, List.set_cons_succ, wipe, bindT, bindTs, List.length_cons, List.length_nil, Nat.reduceAdd, Nat.reduceLT, Nat.reduceLeDiff, Nat.zero_le, binW, binD, compL, stays_nil, decide_true, decide_false, LINE, Int.cast_ofNat_Int, Int.reduceLE, Int.reduceLT, Int.natCast_zero, Int.natCast_one, ixL_0, ixL_1, ixL_2, eqD_int, eqD_str, ixD_tup, ixD_lst, biD, boolsOf, lstOf, Option.bind_some, List.all_cons, List.all_nil, id, isx_non, isx_bl, isx_int, isx_str, isx_tup, isx_lst, isx_frz, isx_ref, isx_exn, String.reduceBEq, Bool.or_false, Bool.or_true, Bool.true_or, Bool.false_or, Bool.and_true, Bool.true_and, Bool.and_false, Bool.false_and, reduceIte, Bool.false_eq_true, Option.map_some, Option.map_none, Bool.not_true, Bool.not_false, L1, L2, lawF]; exact fin_rt (by simp [D.pln, D.plns, doorFault_pln h2])
      | none =>
        simp only [h2] at L2
        obtain ⟨a', c', u', v', L2⟩ := L2
        simp only [xs_nil, xs_cons, evs, compF, x_asg, x_put, x_xpr, x_ret, x_cond, x_loop_seq, x_loop_enum, x_loop_rng, x_loop_zip, x_whl, x_raise, x_raiseN, x_tryx, x_tryr, x_pass, x_brk, x_cont, loopR_enum, loopR_tup, loopR_lst, ev_var, e_cst, e_bin, e_neg, e_cmp, e_chn, e_and, e_or, e_not, e_ite, e_tup, e_lst, e_new, e_dct, e_ix, e_sl, e_call, e_bi, e_mt, e_app, e_isi, e_comp_seq, e_comp_rng, e_comp_enum, e_comp_zip, e_xfld, bind_ok, bind_exc, to_ok, to_exc, opt_some, then_nx, then_rt, then_exc, d_val, d_new, tru_bl, tru_non, fin_bl, fin_int, fin_str, fin_non, fin_xnon, fin_xint, GK_call, GK_sub, GK_fld, GK_hot, List.map_cons, List.map_nil, List.cons_append, List.nil_append, List.replicate_succ, List.replicate_zero, Nat.sub_self, Nat.reduceSub, List.getElem?_cons_zero, List.getElem?_cons_succ, List.set_cons_zero, List.set_cons_succ, wipe, bindT, bindTs, List.length_cons, List.length_nil, Nat.reduceAdd, Nat.reduceLT, Nat.reduceLeDiff, Nat.zero_le, binW, binD, compL, stays_nil, decide_true, decide_false, LINE, Int.cast_ofNat_Int, Int.reduceLE, Int.reduceLT, Int.natCast_zero, Int.natCast_one, ixL_0, ixL_1, ixL_2, eqD_int, eqD_str, ixD_tup, ixD_lst, biD, boolsOf, lstOf, Option.bind_some, List.all_cons, List.all_nil, id, isx_non, isx_bl, isx_int, isx_str, isx_tup, isx_lst, isx_frz, isx_ref, isx_exn, String.reduceBEq, Bool.or_false, Bool.or_true, Bool.true_or, Bool.false_or, Bool.and_true, Bool.true_and, Bool.and_false, Bool.false_and, reduceIte, Bool.false_eq_true, Option.map_some, Option.map_none, Bool.not_true, Bool.not_false, L1, L2, lawF]
end K82
end

section
set_option Elab.async false
set_option linter.all false
set_option maxRecDepth 100000
set_option maxHeartbeats 0
namespace K82
open DW
open PySem (Str)
abbrev FIG : Str := ("0123456789" : Str)
theorem fig_S : FIG = SX.S [48, 49, 50, 51, 52, 53, 54, 55, 56, 57] := by decide +kernel
def isDig (c : Nat) : Bool := decide (48 ≤ c) && decide (c ≤ 57)

theorem inD_fig (S : Store) (c : Nat) : inD S (.str ⟨#[c]⟩) (.str FIG) = some (isDig c) := by
  have h := SX.in_one [48, 49, 50, 51, 52, 53, 54, 55, 56, 57] c
  simp only [inD]
  rw [fig_S]
  have e : (⟨#[c]⟩ : Str) = SX.S [c] := rfl
  rw [e]
  refine congrArg some (h.trans ?_)
  unfold isDig
  by_cases h1 : 48 ≤ c
  · by_cases h2 : c ≤ 57
    · have : c = 48 ∨ c = 49 ∨ c = 50 ∨ c = 51 ∨ c = 52 ∨ c = 53 ∨ c = 54 ∨ c = 55 ∨ c = 56 ∨ c = 57 := by omega
      rcases this with rfl | rfl | rfl | rfl | rfl | rfl | rfl | rfl | rfl | rfl <;> decide
    · simp [h2]; omega
  · simp [h1]; omega
def allDig (w : Str) : Bool := w.cps.toList.all isDig
def chD (c : Nat) : D := .str ⟨#[c]⟩

theorem comp_dig (k : Nat) (f : D → Store → R (Option D)) (w : Str) (S : Store)
    (hf : f = compF (GK k) none [1] (.nm 1) (.cst (.bl true)) (.cmp .isin (.var 1) (.cst (.str FIG))) [some (.str w), none]) :
    ∀ l : List Nat, compL [] f (l.map chD) S = .ok (l.map fun c => .bl (isDig c)) S
  | [] => rfl
  | c :: l => by
    have e : f (chD c) S = .ok (some (.bl (isDig c))) S := by
      rw [hf]; unfold chD; simp only [xs_nil, xs_cons, evs, compF, x_asg, x_put, x_xpr, x_ret, x_cond, x_loop_seq, x_loop_enum, x_loop_rng, x_loop_zip, x_whl, x_raise, x_raiseN, x_tryx, x_tryr, x_pass, x_brk, x_cont, loopR_enum, loopR_tup, loopR_lst, ev_var, e_cst, e_bin, e_neg, e_cmp, e_chn, e_and, e_or, e_not, e_ite, e_tup, e_lst, e_new, e_dct, e_ix, e_sl, e_call, e_bi, e_mt, e_app, e_isi, e_comp_seq, e_comp_rng, e_comp_enum, e_comp_zip, e_xfld, bind_ok, bind_exc, to_ok, to_exc, opt_some, then_nx, then_rt, then_exc, d_val, d_new, tru_bl, tru_non, fin_bl, fin_int, fin_str, fin_non, fin_xnon, fin_xint, GK_call, GK_sub, GK_fld, GK_hot, List.map_cons, List.map_nil, List.cons_append, List.nil_append, List.replicate_succ, List.replicate_zero, Nat.sub_self, Nat.reduceSub, List.getElem?_cons_zero, List.getElem?_cons_succ, List.set_cons_zero, List.set_cons_succ, wipe, bindT, bindTs, List.length_cons, List.length_nil, Nat.reduceAdd, Nat.reduceLT, Nat.reduceLeDiff, Nat.zero_le, binW, binD, compL, stays_nil, decide_true, decide_false, LINE, Int.cast_ofNat_Int, Int.reduceLE, Int.reduceLT, Int.natCast_zero, Int.natCast_one, ixL_0, ixL_1, ixL_2, eqD_int, eqD_str, ixD_tup, ixD_lst, biD, boolsOf, lstOf, Option.bind_some, List.all_cons, List.all_nil, id, isx_non, isx_bl, isx_int, isx_str, isx_tup, isx_lst, isx_frz, isx_ref, isx_exn, String.reduceBEq, Bool.or_false, Bool.or_true, Bool.true_or, Bool.false_or, Bool.and_true, Bool.true_and, Bool.and_false, Bool.false_and, reduceIte, Bool.false_eq_true, Option.map_some, Option.map_none, Bool.not_true, Bool.not_false, cmpD, inD_fig]
    rw [List.map_cons, compL, if_pos (stays_nil _), e]
    show R.bind _ _ = _
    rw [comp_dig k f w S hf l, bind_ok]; rfl

theorem comp_ndig (k : Nat) (f : D → Store → R (Option D)) (w : Str) (S : Store)
    (hf : f = compF (GK k) none [1] (.nm 1) (.cmp .notin (.var 1) (.cst (.str FIG))) (.cst (.int 1)) [some (.str w), none]) :
    ∀ l : List Nat, compL [] f (l.map chD) S = .ok ((l.filter fun c => !isDig c).map fun _ => .int 1) S
  | [] => rfl
  | c :: l => by
    have e : f (chD c) S = .ok (if isDig c then none else some (.int 1)) S := by
      rw [hf]; unfold chD; simp only [xs_nil, xs_cons, evs, compF, x_asg, x_put, x_xpr, x_ret, x_cond, x_loop_seq, x_loop_enum, x_loop_rng, x_loop_zip, x_whl, x_raise, x_raiseN, x_tryx, x_tryr, x_pass, x_brk, x_cont, loopR_enum, loopR_tup, loopR_lst, ev_var, e_cst, e_bin, e_neg, e_cmp, e_chn, e_and, e_or, e_not, e_ite, e_tup, e_lst, e_new, e_dct, e_ix, e_sl, e_call, e_bi, e_mt, e_app, e_isi, e_comp_seq, e_comp_rng, e_comp_enum, e_comp_zip, e_xfld, bind_ok, bind_exc, to_ok, to_exc, opt_some, then_nx, then_rt, then_exc, d_val, d_new, tru_bl, tru_non, fin_bl, fin_int, fin_str, fin_non, fin_xnon, fin_xint, GK_call, GK_sub, GK_fld, GK_hot, List.map_cons, List.map_nil, List.cons_append, List.nil_append, List.replicate_succ, List.replicate_zero, Nat.sub_self, Nat.reduceSub, List.getElem?_cons_zero, List.getElem?_cons_succ, List.set_cons_zero, List.set_cons_succ, wipe, bindT, bindTs, List.length_cons, List.length_nil, Nat.reduceAdd, Nat.reduceLT, Nat.reduceLeDiff, Nat.zero_le, binW, binD, compL, stays_nil, decide_true, decide_false, LINE, Int.cast_ofNat_Int, Int.reduceLE, Int.reduceLT, Int.natCast_zero, Int.natCast_one, ixL_0, ixL_1, ixL_2, eqD_int, eqD_str, ixD_tup, ixD_lst, biD, boolsOf, lstOf, Option.bind_some, List.all_cons, List.all_nil, id, isx_non, isx_bl, isx_int, isx_str, isx_tup, isx_lst, isx_frz, isx_ref, isx_exn, String.reduceBEq, Bool.or_false, Bool.or_true, Bool.true_or, Bool.false_or, Bool.and_true, Bool.true_and, Bool.and_false, Bool.false_and, reduceIte, Bool.false_eq_true, Option.map_some, Option.map_none, Bool.not_true, Bool.not_false, cmpD, inD_fig]
      cases isDig c <;> simp only [xs_nil, xs_cons, evs, compF, x_asg, x_put, x_xpr, x_ret, x_cond, x_loop_seq, x_loop_enum, x_loop_rng, x_loop_zip, x_whl, x_raise, x_raiseN, x_tryx, x_tryr, x_pass, x_brk, x_cont, loopR_enum, loopR_tup, loopR_lst, ev_var, e_cst, e_bin, e_neg, e_cmp, e_chn, e_and, e_or, e_not, e_ite, e_tup, e_lst, e_new, e_dct, e_ix, e_sl, e_call, e_bi, e_mt, e_app, e_isi, e_comp_seq, e_comp_rng, e_comp_enum, e_comp_zip, e_xfld, bind_ok, bind_exc, to_ok, to_exc, opt_some, then_nx, then_rt, then_exc, d_val, d_new, tru_bl, tru_non, fin_bl, fin_int, fin_str, fin_non, fin_xnon, fin_xint, GK_call, GK_sub, GK_fld, GK_hot, List.map_cons, List.map_nil, List.cons_append, List.nil_append, List.replicate_succ, List.replicate_zero, Nat.sub_self, Nat.reduceSub, List.getElem?_cons_zero, List.getElem?_cons_succ, List.set_cons_zero, List.set_cons_succ, wipe, bindT, bindTs, List.length_cons, List.length_nil, Nat.reduceAdd, Nat.reduceLT, Nat.reduceLeDiff, Nat.zero_le, binW, binD, compL, stays_nil, decide_true, decide_false, LINE, Int.cast_ofNat_Int, Int.reduceLE, Int.reduceLT, Int.natCast_zero, Int.natCast_one, ixL_0, ixL_1, ixL_2, eqD_int, eqD_str, ixD_tup, ixD_lst, biD, boolsOf, lstOf, Option.bind_some, List.all_cons, List.all_nil, id, isx_non, isx_bl, isx_int, isx_str, isx_tup, isx_lst, isx_frz, isx_ref, isx_exn, String.reduceBEq, Bool.or_false, Bool.or_true, Bool.true_or, Bool.false_or, Bool.and_true, Bool.true_and, Bool.and_false, Bool.false_and, reduceIte, Bool.false_eq_true, Option.map_some, Option.map_none, Bool.not_true, Bool.not_false]
    rw [List.map_cons, compL, if_pos (stays_nil _), e]
    show R.bind _ _ = _
    rw [comp_ndig k f w S hf l, bind_ok]
    cases h : isDig c <;> simp [List.filter_cons, h]
abbrev vl (l : List Nat) : Int := (PySem.NumText.digitsVal l : Nat)
def numOk (l : List Nat) : Bool := decide (1 ≤ l.length) && decide (l.length ≤ 10) && l.all isDig && !(decide (l.head? = some 48) && !decide (l = [48]))

def numOf (l : List Nat) : D := if numOk l then (if vl l ≤ 1000000000 then .int (vl l) else .non) else .non
theorem S_tl2 (l : List Nat) : (SX.S l).cps.toList = l := by simp
theorem items_S (s : Store) (l : List Nat) : itemsOf s .seq [.str (SX.S l)] = some (l.map chD, []) := by
  simp only [itemsOf, S_tl2]; rfl
theorem lenD_S (s : Store) {l : List Nat} (h : l.length ≤ LINE) : lenD s (.str (SX.S l)) = some l.length := by
  simp only [lenD, SX.S_len, h, if_true]
theorem int_dig (s : Store) {l : List Nat} (h : l.all isDig = true) (h1 : l ≠ []) (h2 : l.length ≤ 640) : biD s .int [.str (SX.S l)] = some (.val (.int (vl l))) := by
  simp only [biD, SX.S_len, h2, if_true]
  rw [SX.int_S h h1 (by omega)]; rfl
theorem ix0_S (s : Store) {c : Nat} {l : List Nat} (h : (c :: l).length ≤ LINE) : ixD s (.str (SX.S (c :: l))) (.int 0) = some (.str (SX.S [c])) := by
  simp only [ixD, SX.S_len, h, if_true, S_tl2, L2.atI, L2.ixN]
  rw [if_pos (by omega), if_pos (by simp)]; rfl
theorem zero_S : ("0" : Str) = SX.S [48] := by decide +kernel
theorem eq_S {a b : List Nat} : decide (SX.S a = SX.S b) = decide (a = b) := by
  by_cases h : a = b
  · simp [h]
  · have : ¬ SX.S a = SX.S b := fun e => h (SX.S_inj e)
    simp [h, this]
theorem all_map_dig (l : List Nat) : boolsOf (l.map fun c => D.bl (isDig c)) = some (l.map isDig) := boolsOf_map isDig l
theorem r_read_number (k : Nat) (l : List Nat) (s : Store) (hl : l.length ≤ LINE) : Rn (k + 1) (11 : Nat) [.str (SX.S l)] s = .ok (numOf l) s := by
  rw [Rn_at t_read_number rfl, b_read_number]
  have C := comp_dig k _ (SX.S l) s rfl l
  by_cases h1 : 1 ≤ l.length
  case neg =>
    have e1 : decide (1 ≤ (l.length : Int)) = false := by simp; omega
    have e : numOf l = .non := by simp [numOf, numOk, h1]
    simp only [xs_nil, xs_cons, evs, compF, x_asg, x_put, x_xpr, x_ret, x_cond, x_loop_seq, x_loop_enum, x_loop_rng, x_loop_zip, x_whl, x_raise, x_raiseN, x_tryx, x_tryr, x_pass, x_brk, x_cont, loopR_enum, loopR_tup, loopR_lst, ev_var, e_cst, e_bin, e_neg, e_cmp, e_chn, e_and, e_or, e_not, e_ite, e_tup, e_lst, e_new, e_dct, e_ix, e_sl, e_call, e_bi, e_mt, e_app, e_isi, e_comp_seq, e_comp_rng, e_comp_enum, e_comp_zip, e_xfld, bind_ok, bind_exc, to_ok, to_exc, opt_some, then_nx, then_rt, then_exc, d_val, d_new, tru_bl, tru_non, fin_bl, fin_int, fin_str, fin_non, fin_xnon, fin_xint, GK_call, GK_sub, GK_fld, GK_hot, List.map_cons, List.map_nil, List.cons_append, List.nil_append, List.replicate_succ, List.replicate_zero, Nat.sub_self, Nat.reduceSub, List.getElem?_cons_zero, List.getElem?_cons_succ, List.set_cons_zero, List.set_cons_succ, wipe, bindT, bindTs, List.length_cons, List.length_nil, Nat.reduceAdd, Nat.reduceLT, Nat.reduceLeDiff, Nat.zero_le, binW, binD, compL, stays_nil, decide_true, decide_false, LINE, Int.cast_ofNat_Int, Int.reduceLE, Int.reduceLT, Int.natCast_zero, Int.natCast_one, ixL_0, ixL_1, ixL_2, eqD_int, eqD_str, ixD_tup, ixD_lst, biD, boolsOf, lstOf, Option.bind_some, List.all_cons, List.all_nil, id, isx_non, isx_bl, isx_int, isx_str, isx_tup, isx_lst, isx_frz, isx_ref, isx_exn, String.reduceBEq, Bool.or_false, Bool.or_true, Bool.true_or, Bool.false_or, Bool.and_true, Bool.true_and, Bool.and_false, Bool.false_and, reduceIte, Bool.false_eq_true, Option.map_some, Option.map_none, Bool.not_true, Bool.not_false, lenD_S s hl, cmpD, items_S, e1, e]
  have e1 : decide (1 ≤ (l.length : Int)) = true := by simp; omega
  by_cases h2 : l.length ≤ 10
  case neg =>
    have e2 : decide ((l.length : Int) ≤ 10) = false := by simp; omega
    have e : numOf l = .non := by simp [numOf, numOk, h2]
    simp only [xs_nil, xs_cons, evs, compF, x_asg, x_put, x_xpr, x_ret, x_cond, x_loop_seq, x_loop_enum, x_loop_rng, x_loop_zip, x_whl, x_raise, x_raiseN, x_tryx, x_tryr, x_pass, x_brk, x_cont, loopR_enum, loopR_tup, loopR_lst, ev_var, e_cst, e_bin, e_neg, e_cmp, e_chn, e_and, e_or, e_not, e_ite, e_tup, e_lst, e_new, e_dct, e_ix, e_sl, e_call, e_bi, e_mt, e_app, e_isi, e_comp_seq, e_comp_rng, e_comp_enum, e_comp_zip, e_xfld, bind_ok, bind_exc, to_ok, to_exc, opt_some, then_nx, then_rt, then_exc, d_val, d_new, tru_bl, tru_non, fin_bl, fin_int, fin_str, fin_non, fin_xnon, fin_xint, GK_call, GK_sub, GK_fld, GK_hot, List.map_cons, List.map_nil, List.cons_append, List.nil_append, List.replicate_succ, List.replicate_zero, Nat.sub_self, Nat.reduceSub, List.getElem?_cons_zero, List.getElem?_cons_succ, List.set_cons_zero, List.set_cons_succ, wipe, bindT, bindTs, List.length_cons, List.length_nil, Nat.reduceAdd, Nat.reduceLT, Nat.reduceLeDiff, Nat.zero_le, binW, binD, compL, stays_nil, decide_true, decide_false, LINE, Int.cast_ofNat_Int, Int.reduceLE, Int.reduceLT, Int.natCast_zero, Int.natCast_one, ixL_0, ixL_1, ixL_2, eqD_int, eqD_str, ixD_tup, ixD_lst, biD, boolsOf, lstOf, Option.bind_some, List.all_cons, List.all_nil, id, isx_non, isx_bl, isx_int, isx_str, isx_tup, isx_lst, isx_frz, isx_ref, isx_exn, String.reduceBEq, Bool.or_false, Bool.or_true, Bool.true_or, Bool.false_or, Bool.and_true, Bool.true_and, Bool.and_false, Bool.false_and, reduceIte, Bool.false_eq_true, Option.map_some, Option.map_none, Bool.not_true, Bool.not_false, lenD_S s hl, cmpD, items_S, e1, e2, e]
  have e2 : decide ((l.length : Int) ≤ 10) = true := by simp; omega
  have e3 : l.length ≤ 16777216 := by omega
  have e4 : (l.map isDig).all id = l.all isDig := by simp [List.all_map]
  cases h3 : l.all isDig
  case false =>
    have e : numOf l = .non := by simp [numOf, numOk, h3]
    simp only [xs_nil, xs_cons, evs, compF, x_asg, x_put, x_xpr, x_ret, x_cond, x_loop_seq, x_loop_enum, x_loop_rng, x_loop_zip, x_whl, x_raise, x_raiseN, x_tryx, x_tryr, x_pass, x_brk, x_cont, loopR_enum, loopR_tup, loopR_lst, ev_var, e_cst, e_bin, e_neg, e_cmp, e_chn, e_and, e_or, e_not, e_ite, e_tup, e_lst, e_new, e_dct, e_ix, e_sl, e_call, e_bi, e_mt, e_app, e_isi, e_comp_seq, e_comp_rng, e_comp_enum, e_comp_zip, e_xfld, bind_ok, bind_exc, to_ok, to_exc, opt_some, then_nx, then_rt, then_exc, d_val, d_new, tru_bl, tru_non, fin_bl, fin_int, fin_str, fin_non, fin_xnon, fin_xint, GK_call, GK_sub, GK_fld, GK_hot, List.map_cons, List.map_nil, List.cons_append, List.nil_append, List.replicate_succ, List.replicate_zero, Nat.sub_self, Nat.reduceSub, List.getElem?_cons_zero, List.getElem?_cons_succ, List.set_cons_zero, List.set_cons_succ, wipe, bindT, bindTs, List.length_cons, List.length_nil, Nat.reduceAdd, Nat.reduceLT, Nat.reduceLeDiff, Nat.zero_le, binW, binD, compL, stays_nil, decide_true, decide_false, LINE, Int.cast_ofNat_Int, Int.reduceLE, Int.reduceLT, Int.natCast_zero, Int.natCast_one, ixL_0, ixL_1, ixL_2, eqD_int, eqD_str, ixD_tup, ixD_lst, biD, boolsOf, lstOf, Option.bind_some, List.all_cons, List.all_nil, id, isx_non, isx_bl, isx_int, isx_str, isx_tup, isx_lst, isx_frz, isx_ref, isx_exn, String.reduceBEq, Bool.or_false, Bool.or_true, Bool.true_or, Bool.false_or, Bool.and_true, Bool.true_and, Bool.and_false, Bool.false_and, reduceIte, Bool.false_eq_true, Option.map_some, Option.map_none, Bool.not_true, Bool.not_false, lenD_S s hl, cmpD, items_S, e1, e2, e, C, List.length_map, e3, all_map_dig, e4, h3]
  obtain ⟨c, hc, hix⟩ : ∃ c, l.head? = some c ∧ ixD s (.str (SX.S l)) (.int 0) = some (.str (SX.S [c])) := by
    rcases l with _ | ⟨c, l⟩
    · simp at h1
    · exact ⟨c, rfl, ix0_S s hl⟩
  have hne : l ≠ [] := by intro e; subst e; simp at h1
  have hi := int_dig s h3 hne (by omega)
  simp only [biD] at hi
  have e5 : decide ([c] = [48]) = decide (c = 48) := by simp
  simp only [xs_nil, xs_cons, evs, compF, x_asg, x_put, x_xpr, x_ret, x_cond, x_loop_seq, x_loop_enum, x_loop_rng, x_loop_zip, x_whl, x_raise, x_raiseN, x_tryx, x_tryr, x_pass, x_brk, x_cont, loopR_enum, loopR_tup, loopR_lst, ev_var, e_cst, e_bin, e_neg, e_cmp, e_chn, e_and, e_or, e_not, e_ite, e_tup, e_lst, e_new, e_dct, e_ix, e_sl, e_call, e_bi, e_mt, e_app, e_isi, e_comp_seq, e_comp_rng, e_comp_enum, e_comp_zip, e_xfld, bind_ok, bind_exc, to_ok, to_exc, opt_some, then_nx, then_rt, then_exc, d_val, d_new, tru_bl, tru_non, fin_bl, fin_int, fin_str, fin_non, fin_xnon, fin_xint, GK_call, GK_sub, GK_fld, GK_hot, List.map_cons, List.map_nil, List.cons_append, List.nil_append, List.replicate_succ, List.replicate_zero, Nat.sub_self, Nat.reduceSub, List.getElem?_cons_zero, List.getElem?_cons_succ, List.set_cons_zero, List.set_cons_succ, wipe, bindT, bindTs, List.length_cons, List.length_nil, Nat.reduceAdd, Nat.reduceLT, Nat.reduceLeDiff, Nat.zero_le, binW, binD, compL, stays_nil, decide_true, decide_false, LINE, Int.cast_ofNat_Int, Int.reduceLE, Int.reduceLT, Int.natCast_zero, Int.natCast_one, ixL_0, ixL_1, ixL_2, eqD_int, eqD_str, ixD_tup, ixD_lst, biD, boolsOf, lstOf, Option.bind_some, List.all_cons, List.all_nil, id, isx_non, isx_bl, isx_int, isx_str, isx_tup, isx_lst, isx_frz, isx_ref, isx_exn, String.reduceBEq, Bool.or_false, Bool.or_true, Bool.true_or, Bool.false_or, Bool.and_true, Bool.true_and, Bool.and_false, Bool.false_and, reduceIte, Bool.false_eq_true, Option.map_some, Option.map_none, Bool.not_true, Bool.not_false, lenD_S s hl, cmpD, items_S, e1, e2, C, List.length_map, e3, all_map_dig, e4, h3, hix, zero_S, eq_S, e5, hi]
  have en : numOf l = if (!decide (c = 48) || decide (l = [48])) then (if decide (vl l ≤ 1000000000) then .int (vl l) else .non) else .non := by
    have eh : decide (l.head? = some 48) = decide (c = 48) := by simp [hc]
    simp only [numOf, numOk, h3, h1, h2, decide_true, Bool.true_and, eh]
    cases decide (c = 48) <;> cases decide (l = [48]) <;> simp
  rw [en]
  cases h5 : decide (c = 48) <;> cases h6 : decide (l = [48]) <;> cases h7 : decide (vl l ≤ 1000000000) <;>
    simp only [xs_nil, xs_cons, evs, compF, x_asg, x_put, x_xpr, x_ret, x_cond, x_loop_seq, x_loop_enum, x_loop_rng, x_loop_zip, x_whl, x_raise, x_raiseN, x_tryx, x_tryr, x_pass, x_brk, x_cont, loopR_enum, loopR_tup, loopR_lst, ev_var, e_cst, e_bin, e_neg, e_cmp, e_chn, e_and, e_or, e_not, e_ite, e_tup, e_lst, e_new, e_dct, e_ix, e_sl, e_call, e_bi, e_mt, e_app, e_isi, e_comp_seq, e_comp_rng, e_comp_enum, e_comp_zip, e_xfld, bind_ok, bind_exc, to_ok, to_exc, opt_some, then_nx, then_rt, then_exc, d_val, d_new, tru_bl, tru_non, fin_bl, fin_int, fin_str, fin_non, fin_xnon, fin_xint, GK_call, GK_sub, GK_fld, GK_hot, List.map_cons, List.map_nil, List.cons_append, List.nil_append, List.replicate_succ, List.replicate_zero, Nat.sub_self, Nat.reduceSub, List.getElem?_cons_zero, List.getElem?_cons_succ, List.set_cons_zero, List.set_cons_succ, wipe, bindT, bindTs, List.length_cons, List.length_nil, Nat.reduceAdd, Nat.reduceLT, Nat.reduceLeDiff, Nat.zero_le, binW, binD, compL, stays_nil, decide_true, decide_false, LINE, Int.cast_ofNat_Int, Int.reduceLE, Int.reduceLT, Int.natCast_zero, Int.natCast_one, ixL_0, ixL_1, ixL_2, eqD_int, eqD_str, ixD_tup, ixD_lst, biD, boolsOf, lstOf, Option.bind_some, List.all_cons, List.all_nil, id, isx_non, isx_bl, isx_int, isx_str, isx_tup, isx_lst, isx_frz, isx_ref, isx_exn, String.reduceBEq, Bool.or_false, Bool.or_true, Bool.true_or, Bool.false_or, Bool.and_true, Bool.true_and, Bool.and_false, Bool.false_and, reduceIte, Bool.false_eq_true, Option.map_some, Option.map_none, Bool.not_true, Bool.not_false, h5, h6, h7, hi]
theorem empty_S : ("" : Str) = SX.S [] := by decide +kernel
theorem r_law_figure (k : Nat) (l : List Nat) (s : Store) (hl : l.length ≤ LINE) : Rn (k + 1) (20 : Nat) [.str (SX.S l)] s = .ok (numOf l) s := by
  rw [Rn_at t_law_figure rfl, b_law_figure]
  have C := comp_ndig k _ (SX.S l) s rfl l
  by_cases h1 : 1 ≤ l.length
  case neg =>
    have e0 : l = [] := by cases l <;> simp at h1 ⊢
    have e1 : decide (l = []) = true := by simp [e0]
    have e : numOf l = .non := by simp [numOf, numOk, h1]
    simp only [xs_nil, xs_cons, evs, compF, x_asg, x_put, x_xpr, x_ret, x_cond, x_loop_seq, x_loop_enum, x_loop_rng, x_loop_zip, x_whl, x_raise, x_raiseN, x_tryx, x_tryr, x_pass, x_brk, x_cont, loopR_enum, loopR_tup, loopR_lst, ev_var, e_cst, e_bin, e_neg, e_cmp, e_chn, e_and, e_or, e_not, e_ite, e_tup, e_lst, e_new, e_dct, e_ix, e_sl, e_call, e_bi, e_mt, e_app, e_isi, e_comp_seq, e_comp_rng, e_comp_enum, e_comp_zip, e_xfld, bind_ok, bind_exc, to_ok, to_exc, opt_some, then_nx, then_rt, then_exc, d_val, d_new, tru_bl, tru_non, fin_bl, fin_int, fin_str, fin_non, fin_xnon, fin_xint, GK_call, GK_sub, GK_fld, GK_hot, List.map_cons, List.map_nil, List.cons_append, List.nil_append, List.replicate_succ, List.replicate_zero, Nat.sub_self, Nat.reduceSub, List.getElem?_cons_zero, List.getElem?_cons_succ, List.set_cons_zero, List.set_cons_succ, wipe, bindT, bindTs, List.length_cons, List.length_nil, Nat.reduceAdd, Nat.reduceLT, Nat.reduceLeDiff, Nat.zero_le, binW, binD, compL, stays_nil, decide_true, decide_false, LINE, Int.cast_ofNat_Int, Int.reduceLE, Int.reduceLT, Int.natCast_zero, Int.natCast_one, ixL_0, ixL_1, ixL_2, eqD_int, eqD_str, ixD_tup, ixD_lst, biD, boolsOf, lstOf, Option.bind_some, List.all_cons, List.all_nil, id, isx_non, isx_bl, isx_int, isx_str, isx_tup, isx_lst, isx_frz, isx_ref, isx_exn, String.reduceBEq, Bool.or_false, Bool.or_true, Bool.true_or, Bool.false_or, Bool.and_true, Bool.true_and, Bool.and_false, Bool.false_and, reduceIte, Bool.false_eq_true, Option.map_some, Option.map_none, Bool.not_true, Bool.not_false, lenD_S s hl, cmpD, items_S, empty_S, eq_S, e1, e]
  have hne : l ≠ [] := by intro e; subst e; simp at h1
  have e1 : decide (l = []) = false := by simp [hne]
  by_cases h2 : l.length ≤ 10
  case neg =>
    have e2 : decide (10 < (l.length : Int)) = true := by simp; omega
    have e : numOf l = .non := by simp [numOf, numOk, h2]
    simp only [xs_nil, xs_cons, evs, compF, x_asg, x_put, x_xpr, x_ret, x_cond, x_loop_seq, x_loop_enum, x_loop_rng, x_loop_zip, x_whl, x_raise, x_raiseN, x_tryx, x_tryr, x_pass, x_brk, x_cont, loopR_enum, loopR_tup, loopR_lst, ev_var, e_cst, e_bin, e_neg, e_cmp, e_chn, e_and, e_or, e_not, e_ite, e_tup, e_lst, e_new, e_dct, e_ix, e_sl, e_call, e_bi, e_mt, e_app, e_isi, e_comp_seq, e_comp_rng, e_comp_enum, e_comp_zip, e_xfld, bind_ok, bind_exc, to_ok, to_exc, opt_some, then_nx, then_rt, then_exc, d_val, d_new, tru_bl, tru_non, fin_bl, fin_int, fin_str, fin_non, fin_xnon, fin_xint, GK_call, GK_sub, GK_fld, GK_hot, List.map_cons, List.map_nil, List.cons_append, List.nil_append, List.replicate_succ, List.replicate_zero, Nat.sub_self, Nat.reduceSub, List.getElem?_cons_zero, List.getElem?_cons_succ, List.set_cons_zero, List.set_cons_succ, wipe, bindT, bindTs, List.length_cons, List.length_nil, Nat.reduceAdd, Nat.reduceLT, Nat.reduceLeDiff, Nat.zero_le, binW, binD, compL, stays_nil, decide_true, decide_false, LINE, Int.cast_ofNat_Int, Int.reduceLE, Int.reduceLT, Int.natCast_zero, Int.natCast_one, ixL_0, ixL_1, ixL_2, eqD_int, eqD_str, ixD_tup, ixD_lst, biD, boolsOf, lstOf, Option.bind_some, List.all_cons, List.all_nil, id, isx_non, isx_bl, isx_int, isx_str, isx_tup, isx_lst, isx_frz, isx_ref, isx_exn, String.reduceBEq, Bool.or_false, Bool.or_true, Bool.true_or, Bool.false_or, Bool.and_true, Bool.true_and, Bool.and_false, Bool.false_and, reduceIte, Bool.false_eq_true, Option.map_some, Option.map_none, Bool.not_true, Bool.not_false, lenD_S s hl, cmpD, items_S, empty_S, eq_S, e1, e2, e]
  have e2 : decide (10 < (l.length : Int)) = false := by simp; omega
  have e3 : l.length ≤ 16777216 := by omega
  have e4 : ((l.filter fun c => !isDig c).map fun _ => D.int 1).isEmpty = l.all isDig := by
    rw [List.isEmpty_map, Bool.eq_iff_iff, List.isEmpty_iff, List.filter_eq_nil_iff, List.all_eq_true]; simp
  have eq4 : eqD s (.lst ((l.filter fun c => !isDig c).map fun _ => D.int 1)) (.lst []) = some (l.all isDig) := by
    rw [eqD_lst_nil (by intro x hx; rw [List.mem_map] at hx; obtain ⟨_, _, rfl⟩ := hx; exact ⟨_, rfl⟩), e4]
  cases h3 : l.all isDig
  case false =>
    have e : numOf l = .non := by simp [numOf, numOk, h3]
    rw [h3] at eq4
    simp only [xs_nil, xs_cons, evs, compF, x_asg, x_put, x_xpr, x_ret, x_cond, x_loop_seq, x_loop_enum, x_loop_rng, x_loop_zip, x_whl, x_raise, x_raiseN, x_tryx, x_tryr, x_pass, x_brk, x_cont, loopR_enum, loopR_tup, loopR_lst, ev_var, e_cst, e_bin, e_neg, e_cmp, e_chn, e_and, e_or, e_not, e_ite, e_tup, e_lst, e_new, e_dct, e_ix, e_sl, e_call, e_bi, e_mt, e_app, e_isi, e_comp_seq, e_comp_rng, e_comp_enum, e_comp_zip, e_xfld, bind_ok, bind_exc, to_ok, to_exc, opt_some, then_nx, then_rt, then_exc, d_val, d_new, tru_bl, tru_non, fin_bl, fin_int, fin_str, fin_non, fin_xnon, fin_xint, GK_call, GK_sub, GK_fld, GK_hot, List.map_cons, List.map_nil, List.cons_append, List.nil_append, List.replicate_succ, List.replicate_zero, Nat.sub_self, Nat.reduceSub, List.getElem?_cons_zero, List.getElem?_cons_succ, List.set_cons_zero, List.set_cons_succ, wipe, bindT, bindTs, List.length_cons, List.length_nil, Nat.reduceAdd, Nat.reduceLT, Nat.reduceLeDiff, Nat.zero_le, binW, binD, compL, stays_nil, decide_true, decide_false, LINE, Int.cast_ofNat_Int, Int.reduceLE, Int.reduceLT, Int.natCast_zero, Int.natCast_one, ixL_0, ixL_1, ixL_2, eqD_int, eqD_str, ixD_tup, ixD_lst, biD, boolsOf, lstOf, Option.bind_some, List.all_cons, List.all_nil, id, isx_non, isx_bl, isx_int, isx_str, isx_tup, isx_lst, isx_frz, isx_ref, isx_exn, String.reduceBEq, Bool.or_false, Bool.or_true, Bool.true_or, Bool.false_or, Bool.and_true, Bool.true_and, Bool.and_false, Bool.false_and, reduceIte, Bool.false_eq_true, Option.map_some, Option.map_none, Bool.not_true, Bool.not_false, lenD_S s hl, cmpD, items_S, empty_S, eq_S, e1, e2, e, C, List.length_map, e3, eq4]
  rw [h3] at eq4
  obtain ⟨c, hc, hix⟩ : ∃ c, l.head? = some c ∧ ixD s (.str (SX.S l)) (.int 0) = some (.str (SX.S [c])) := by
    rcases l with _ | ⟨c, l⟩
    · simp at h1
    · exact ⟨c, rfl, ix0_S s hl⟩
  have hi := int_dig s h3 hne (by omega)
  simp only [biD] at hi
  have e5 : decide ([c] = [48]) = decide (c = 48) := by simp
  have en : numOf l = if (!decide (c = 48) || decide (l = [48])) then (if decide (vl l ≤ 1000000000) then .int (vl l) else .non) else .non := by
    have eh : decide (l.head? = some 48) = decide (c = 48) := by simp [hc]
    simp only [numOf, numOk, h3, h1, h2, decide_true, Bool.true_and, eh]
    cases decide (c = 48) <;> cases decide (l = [48]) <;> simp
  rw [en]
  have q1 : (Int.natAbs 10 < 2 ^ 64) = True := by simp
  have q2 : (10 : Int) ^ Int.toNat 9 = 1000000000 := by decide
  cases h5 : decide (c = 48) <;> cases h6 : decide (l = [48]) <;> cases h7 : decide (vl l ≤ 1000000000) <;>
    simp only [xs_nil, xs_cons, evs, compF, x_asg, x_put, x_xpr, x_ret, x_cond, x_loop_seq, x_loop_enum, x_loop_rng, x_loop_zip, x_whl, x_raise, x_raiseN, x_tryx, x_tryr, x_pass, x_brk, x_cont, loopR_enum, loopR_tup, loopR_lst, ev_var, e_cst, e_bin, e_neg, e_cmp, e_chn, e_and, e_or, e_not, e_ite, e_tup, e_lst, e_new, e_dct, e_ix, e_sl, e_call, e_bi, e_mt, e_app, e_isi, e_comp_seq, e_comp_rng, e_comp_enum, e_comp_zip, e_xfld, bind_ok, bind_exc, to_ok, to_exc, opt_some, then_nx, then_rt, then_exc, d_val, d_new, tru_bl, tru_non, fin_bl, fin_int, fin_str, fin_non, fin_xnon, fin_xint, GK_call, GK_sub, GK_fld, GK_hot, List.map_cons, List.map_nil, List.cons_append, List.nil_append, List.replicate_succ, List.replicate_zero, Nat.sub_self, Nat.reduceSub, List.getElem?_cons_zero, List.getElem?_cons_succ, List.set_cons_zero, List.set_cons_succ, wipe, bindT, bindTs, List.length_cons, List.length_nil, Nat.reduceAdd, Nat.reduceLT, Nat.reduceLeDiff, Nat.zero_le, binW, binD, compL, stays_nil, decide_true, decide_false, LINE, Int.cast_ofNat_Int, Int.reduceLE, Int.reduceLT, Int.natCast_zero, Int.natCast_one, ixL_0, ixL_1, ixL_2, eqD_int, eqD_str, ixD_tup, ixD_lst, biD, boolsOf, lstOf, Option.bind_some, List.all_cons, List.all_nil, id, isx_non, isx_bl, isx_int, isx_str, isx_tup, isx_lst, isx_frz, isx_ref, isx_exn, String.reduceBEq, Bool.or_false, Bool.or_true, Bool.true_or, Bool.false_or, Bool.and_true, Bool.true_and, Bool.and_false, Bool.false_and, reduceIte, Bool.false_eq_true, Option.map_some, Option.map_none, Bool.not_true, Bool.not_false, q1, q2, and_self, lenD_S s hl, cmpD, items_S, empty_S, eq_S, e1, e2, C, List.length_map, e3, eq4, hix, zero_S, e5, hi, h5, h6, h7]

def figOf (l : List Nat) : D := if l.length ≤ 2 then numOf l else .non
theorem vl_2 {l : List Nat} (h : l.all isDig = true) (h2 : l.length ≤ 2) : vl l ≤ 99 := by
  rcases l with _ | ⟨a, _ | ⟨b, _ | ⟨c, l⟩⟩⟩
  · show ((0 : Nat) : Int) ≤ 99; omega
  · simp [isDig] at h; show ((0 * 10 + (a - 48) : Nat) : Int) ≤ 99; omega
  · simp [isDig] at h; show (((0 * 10 + (a - 48)) * 10 + (b - 48) : Nat) : Int) ≤ 99; omega
  · simp at h2
theorem r_read_figure (k : Nat) (l : List Nat) (s : Store) (hl : l.length ≤ LINE) : Rn (k + 1) (7 : Nat) [.str (SX.S l)] s = .ok (figOf l) s := by
  rw [Rn_at t_read_figure rfl, b_read_figure]
  have C := comp_dig k _ (SX.S l) s rfl l
  by_cases h1 : 1 ≤ l.length
  case neg =>
    have e1 : decide (1 ≤ (l.length : Int)) = false := by simp; omega
    have e : figOf l = .non := by simp [figOf, numOf, numOk, h1]
    simp only [xs_nil, xs_cons, evs, compF, x_asg, x_put, x_xpr, x_ret, x_cond, x_loop_seq, x_loop_enum, x_loop_rng, x_loop_zip, x_whl, x_raise, x_raiseN, x_tryx, x_tryr, x_pass, x_brk, x_cont, loopR_enum, loopR_tup, loopR_lst, ev_var, e_cst, e_bin, e_neg, e_cmp, e_chn, e_and, e_or, e_not, e_ite, e_tup, e_lst, e_new, e_dct, e_ix, e_sl, e_call, e_bi, e_mt, e_app, e_isi, e_comp_seq, e_comp_rng, e_comp_enum, e_comp_zip, e_xfld, bind_ok, bind_exc, to_ok, to_exc, opt_some, then_nx, then_rt, then_exc, d_val, d_new, tru_bl, tru_non, fin_bl, fin_int, fin_str, fin_non, fin_xnon, fin_xint, GK_call, GK_sub, GK_fld, GK_hot, List.map_cons, List.map_nil, List.cons_append, List.nil_append, List.replicate_succ, List.replicate_zero, Nat.sub_self, Nat.reduceSub, List.getElem?_cons_zero, List.getElem?_cons_succ, List.set_cons_zero, List.set_cons_succ, wipe, bindT, bindTs, List.length_cons, List.length_nil, Nat.reduceAdd, Nat.reduceLT, Nat.reduceLeDiff, Nat.zero_le, binW, binD, compL, stays_nil, decide_true, decide_false, LINE, Int.cast_ofNat_Int, Int.reduceLE, Int.reduceLT, Int.natCast_zero, Int.natCast_one, ixL_0, ixL_1, ixL_2, eqD_int, eqD_str, ixD_tup, ixD_lst, biD, boolsOf, lstOf, Option.bind_some, List.all_cons, List.all_nil, id, isx_non, isx_bl, isx_int, isx_str, isx_tup, isx_lst, isx_frz, isx_ref, isx_exn, String.reduceBEq, Bool.or_false, Bool.or_true, Bool.true_or, Bool.false_or, Bool.and_true, Bool.true_and, Bool.and_false, Bool.false_and, reduceIte, Bool.false_eq_true, Option.map_some, Option.map_none, Bool.not_true, Bool.not_false, lenD_S s hl, cmpD, items_S, e1, e]
  have e1 : decide (1 ≤ (l.length : Int)) = true := by simp; omega
  by_cases h2 : l.length ≤ 2
  case neg =>
    have e2 : decide ((l.length : Int) ≤ 2) = false := by simp; omega
    have e : figOf l = .non := by simp [figOf, h2]
    simp only [xs_nil, xs_cons, evs, compF, x_asg, x_put, x_xpr, x_ret, x_cond, x_loop_seq, x_loop_enum, x_loop_rng, x_loop_zip, x_whl, x_raise, x_raiseN, x_tryx, x_tryr, x_pass, x_brk, x_cont, loopR_enum, loopR_tup, loopR_lst, ev_var, e_cst, e_bin, e_neg, e_cmp, e_chn, e_and, e_or, e_not, e_ite, e_tup, e_lst, e_new, e_dct, e_ix, e_sl, e_call, e_bi, e_mt, e_app, e_isi, e_comp_seq, e_comp_rng, e_comp_enum, e_comp_zip, e_xfld, bind_ok, bind_exc, to_ok, to_exc, opt_some, then_nx, then_rt, then_exc, d_val, d_new, tru_bl, tru_non, fin_bl, fin_int, fin_str, fin_non, fin_xnon, fin_xint, GK_call, GK_sub, GK_fld, GK_hot, List.map_cons, List.map_nil, List.cons_append, List.nil_append, List.replicate_succ, List.replicate_zero, Nat.sub_self, Nat.reduceSub, List.getElem?_cons_zero, List.getElem?_cons_succ, List.set_cons_zero, List.set_cons_succ, wipe, bindT, bindTs, List.length_cons, List.length_nil, Nat.reduceAdd, Nat.reduceLT, Nat.reduceLeDiff, Nat.zero_le, binW, binD, compL, stays_nil, decide_true, decide_false, LINE, Int.cast_ofNat_Int, Int.reduceLE, Int.reduceLT, Int.natCast_zero, Int.natCast_one, ixL_0, ixL_1, ixL_2, eqD_int, eqD_str, ixD_tup, ixD_lst, biD, boolsOf, lstOf, Option.bind_some, List.all_cons, List.all_nil, id, isx_non, isx_bl, isx_int, isx_str, isx_tup, isx_lst, isx_frz, isx_ref, isx_exn, String.reduceBEq, Bool.or_false, Bool.or_true, Bool.true_or, Bool.false_or, Bool.and_true, Bool.true_and, Bool.and_false, Bool.false_and, reduceIte, Bool.false_eq_true, Option.map_some, Option.map_none, Bool.not_true, Bool.not_false, lenD_S s hl, cmpD, items_S, e1, e2, e]
  have e2 : decide ((l.length : Int) ≤ 2) = true := by simp; omega
  have e3 : l.length ≤ 16777216 := by omega
  have e4 : (l.map isDig).all id = l.all isDig := by simp [List.all_map]
  cases h3 : l.all isDig
  case false =>
    have e : figOf l = .non := by simp [figOf, numOf, numOk, h3]
    simp only [xs_nil, xs_cons, evs, compF, x_asg, x_put, x_xpr, x_ret, x_cond, x_loop_seq, x_loop_enum, x_loop_rng, x_loop_zip, x_whl, x_raise, x_raiseN, x_tryx, x_tryr, x_pass, x_brk, x_cont, loopR_enum, loopR_tup, loopR_lst, ev_var, e_cst, e_bin, e_neg, e_cmp, e_chn, e_and, e_or, e_not, e_ite, e_tup, e_lst, e_new, e_dct, e_ix, e_sl, e_call, e_bi, e_mt, e_app, e_isi, e_comp_seq, e_comp_rng, e_comp_enum, e_comp_zip, e_xfld, bind_ok, bind_exc, to_ok, to_exc, opt_some, then_nx, then_rt, then_exc, d_val, d_new, tru_bl, tru_non, fin_bl, fin_int, fin_str, fin_non, fin_xnon, fin_xint, GK_call, GK_sub, GK_fld, GK_hot, List.map_cons, List.map_nil, List.cons_append, List.nil_append, List.replicate_succ, List.replicate_zero, Nat.sub_self, Nat.reduceSub, List.getElem?_cons_zero, List.getElem?_cons_succ, List.set_cons_zero, List.set_cons_succ, wipe, bindT, bindTs, List.length_cons, List.length_nil, Nat.reduceAdd, Nat.reduceLT, Nat.reduceLeDiff, Nat.zero_le, binW, binD, compL, stays_nil, decide_true, decide_false, LINE, Int.cast_ofNat_Int, Int.reduceLE, Int.reduceLT, Int.natCast_zero, Int.natCast_one, ixL_0, ixL_1, ixL_2, eqD_int, eqD_str, ixD_tup, ixD_lst, biD, boolsOf, lstOf, Option.bind_some, List.all_cons, List.all_nil, id, isx_non, isx_bl, isx_int, isx_str, isx_tup, isx_lst, isx_frz, isx_ref, isx_exn, String.reduceBEq, Bool.or_false, Bool.or_true, Bool.true_or, Bool.false_or, Bool.and_true, Bool.true_and, Bool.and_false, Bool.false_and, reduceIte, Bool.false_eq_true, Option.map_some, Option.map_none, Bool.not_true, Bool.not_false, lenD_S s hl, cmpD, items_S, e1, e2, e, C, List.length_map, e3, all_map_dig, e4, h3]
  obtain ⟨c, hc, hix⟩ : ∃ c, l.head? = some c ∧ ixD s (.str (SX.S l)) (.int 0) = some (.str (SX.S [c])) := by
    rcases l with _ | ⟨c, l⟩
    · simp at h1
    · exact ⟨c, rfl, ix0_S s hl⟩
  have hne : l ≠ [] := by intro e; subst e; simp at h1
  have hi := int_dig s h3 hne (by omega)
  simp only [biD] at hi
  have e5 : decide ([c] = [48]) = decide (c = 48) := by simp
  have hv : vl l ≤ 1000000000 := by have := vl_2 h3 h2; omega
  have en : figOf l = if (!decide (c = 48) || decide (l = [48])) then .int (vl l) else .non := by
    have eh : decide (l.head? = some 48) = decide (c = 48) := by simp [hc]
    have h10 : l.length ≤ 10 := by omega
    simp only [figOf, h2, if_true, numOf, numOk, h3, h1, h10, decide_true, Bool.true_and, eh, hv]
    cases decide (c = 48) <;> cases decide (l = [48]) <;> simp
  rw [en]
  cases h5 : decide (c = 48) <;> cases h6 : decide (l = [48]) <;>
    simp only [xs_nil, xs_cons, evs, compF, x_asg, x_put, x_xpr, x_ret, x_cond, x_loop_seq, x_loop_enum, x_loop_rng, x_loop_zip, x_whl, x_raise, x_raiseN, x_tryx, x_tryr, x_pass, x_brk, x_cont, loopR_enum, loopR_tup, loopR_lst, ev_var, e_cst, e_bin, e_neg, e_cmp, e_chn, e_and, e_or, e_not, e_ite, e_tup, e_lst, e_new, e_dct, e_ix, e_sl, e_call, e_bi, e_mt, e_app, e_isi, e_comp_seq, e_comp_rng, e_comp_enum, e_comp_zip, e_xfld, bind_ok, bind_exc, to_ok, to_exc, opt_some, then_nx, then_rt, then_exc, d_val, d_new, tru_bl, tru_non, fin_bl, fin_int, fin_str, fin_non, fin_xnon, fin_xint, GK_call, GK_sub, GK_fld, GK_hot, List.map_cons, List.map_nil, List.cons_append, List.nil_append, List.replicate_succ, List.replicate_zero, Nat.sub_self, Nat.reduceSub, List.getElem?_cons_zero, List.getElem?_cons_succ, List.set_cons_zero, List.set_cons_succ, wipe, bindT, bindTs, List.length_cons, List.length_nil, Nat.reduceAdd, Nat.reduceLT, Nat.reduceLeDiff, Nat.zero_le, binW, binD, compL, stays_nil, decide_true, decide_false, LINE, Int.cast_ofNat_Int, Int.reduceLE, Int.reduceLT, Int.natCast_zero, Int.natCast_one, ixL_0, ixL_1, ixL_2, eqD_int, eqD_str, ixD_tup, ixD_lst, biD, boolsOf, lstOf, Option.bind_some, List.all_cons, List.all_nil, id, isx_non, isx_bl, isx_int, isx_str, isx_tup, isx_lst, isx_frz, isx_ref, isx_exn, String.reduceBEq, Bool.or_false, Bool.or_true, Bool.true_or, Bool.false_or, Bool.and_true, Bool.true_and, Bool.and_false, Bool.false_and, reduceIte, Bool.false_eq_true, Option.map_some, Option.map_none, Bool.not_true, Bool.not_false, lenD_S s hl, cmpD, items_S, e1, e2, C, List.length_map, e3, all_map_dig, e4, h3, hix, zero_S, eq_S, e5, hi, h5, h6]
end K82
end

section
set_option Elab.async false
set_option linter.all false
set_option maxRecDepth 100000
set_option maxHeartbeats 0
namespace K82
open DW
open PySem (Str)

def wsD (ws : List (List Nat)) : List D := ws.map fun w => .str (SX.S w)
theorem split_mt (s : Store) {l b : List Nat} (hb : b ≠ []) (hk : b.all (· < 256) = true) (hl : l.length + 2 ≤ LINE) :
    mtD s .split (.str (SX.S l)) [.str (SX.S b)] = some (.new (wsD (TL.spl b 0 [] l))) := by
  have h0 : b.length ≠ 0 := by simpa using hb
  simp only [mtD, SX.S_len]
  rw [if_pos ⟨h0, hl⟩, SX.split_S hb hk]
  simp [wsD]
theorem gt_S : (">" : Str) = SX.S [62] := by decide +kernel
theorem sp_S : (" " : Str) = SX.S [32] := by decide +kernel
theorem comp_fig (k : Nat) (f : D → Store → R (Option D)) (t : D) (ht : t.isx = false) (s : Store)
    (hf : f = compF (GK (k + 1)) none [2] (.nm 2) (.cst (.bl true)) (.call (7 : Nat) (.cons (.var 2) .nil)) [some t, none, none]) :
    ∀ ws : List (List Nat), (∀ w ∈ ws, w.length ≤ LINE) → compL [] f (wsD ws) s = .ok (ws.map figOf) s
  | [], _ => rfl
  | c :: l, h => by
    have e : f (.str (SX.S c)) s = .ok (some (figOf c)) s := by
      rw [hf]; simp only [xs_nil, xs_cons, evs, compF, x_asg, x_put, x_xpr, x_ret, x_cond, x_loop_seq, x_loop_enum, x_loop_rng, x_loop_zip, x_whl, x_raise, x_raiseN, x_tryx, x_tryr, x_pass, x_brk, x_cont, loopR_enum, loopR_tup, loopR_lst, ev_var, e_cst, e_bin, e_neg, e_cmp, e_chn, e_and, e_or, e_not, e_ite, e_tup, e_lst, e_new, e_dct, e_ix, e_sl, e_call, e_bi, e_mt, e_app, e_isi, e_comp_seq, e_comp_rng, e_comp_enum, e_comp_zip, e_xfld, bind_ok, bind_exc, to_ok, to_exc, opt_some, then_nx, then_rt, then_exc, d_val, d_new, tru_bl, tru_non, fin_bl, fin_int, fin_str, fin_non, fin_xnon, fin_xint, GK_call, GK_sub, GK_fld, GK_hot, List.map_cons, List.map_nil, List.cons_append, List.nil_append, List.replicate_succ, List.replicate_zero, Nat.sub_self, Nat.reduceSub, List.getElem?_cons_zero, List.getElem?_cons_succ, List.set_cons_zero, List.set_cons_succ, wipe, bindT, bindTs, List.length_cons, List.length_nil, Nat.reduceAdd, Nat.reduceLT, Nat.reduceLeDiff, Nat.zero_le, binW, binD, compL, stays_nil, decide_true, decide_false, LINE, Int.cast_ofNat_Int, Int.reduceLE, Int.reduceLT, Int.natCast_zero, Int.natCast_one, ixL_0, ixL_1, ixL_2, eqD_int, eqD_str, ixD_tup, ixD_lst, biD, boolsOf, lstOf, Option.bind_some, List.all_cons, List.all_nil, id, isx_non, isx_bl, isx_int, isx_str, isx_tup, isx_lst, isx_frz, isx_ref, isx_exn, String.reduceBEq, Bool.or_false, Bool.or_true, Bool.true_or, Bool.false_or, Bool.and_true, Bool.true_and, Bool.and_false, Bool.false_and, reduceIte, Bool.false_eq_true, Option.map_some, Option.map_none, Bool.not_true, Bool.not_false, r_read_figure k c _ (h c (by simp))]
    rw [wsD, List.map_cons, compL, if_pos (stays_nil _), e]
    show R.bind _ _ = _
    rw [← wsD, comp_fig k f t ht s hf l (fun w hw => h w (by simp [hw])), bind_ok]; rfl
def numD : D → Bool
  | .non => true
  | .int _ => true
  | _ => false
theorem numOf_num (l : List Nat) : numD (numOf l) = true := by
  unfold numOf; split
  · split <;> rfl
  · rfl
theorem figOf_num (l : List Nat) : numD (figOf l) = true := by
  unfold figOf; split
  · exact numOf_num l
  · rfl
theorem num_flat {d : D} (h : numD d = true) : flatD d = true := by cases d <;> simp [numD, flatD] at *
theorem num_pln {d : D} (h : numD d = true) : d.pln = true := by cases d <;> simp [numD, D.pln] at *

theorem inD_non (s : Store) {xs : List D} (h : ∀ x ∈ xs, numD x = true) : inD s .non (.lst xs) = some (xs.any fun x => decide (x = .non)) := by
  have hf : xs.all flatD = true := by rw [List.all_eq_true]; intro x hx; exact num_flat (h x hx)
  simp only [inD, inL, hf, flatD, Bool.true_and, if_true]
  refine congrArg some ?_
  induction xs with
  | nil => rfl
  | cons x xs ih =>
    simp only [List.all_cons, Bool.and_eq_true] at hf
    rw [List.any_cons, List.any_cons, ih (fun y hy => h y (by simp [hy])) hf.2]
    have := h x (by simp)
    cases x <;> simp [numD] at this <;> simp [deq]

def roadOf (l : List Nat) : D :=
  let ps := (TL.spl [62] 0 [] l).map figOf
  if ps.length = 2 then (if ps.any fun x => decide (x = .non) then .non else .tup ps) else .non
theorem r_read_road (k : Nat) (l : List Nat) (s : Store) (hl : l.length + 2 ≤ LINE) (hw : ∀ w ∈ TL.spl [62] 0 [] l, w.length ≤ LINE) :
    Rn (k + 2) (9 : Nat) [.str (SX.S l)] s = .ok (roadOf l) s := by
  rw [Rn_at t_read_road rfl, b_read_road]
  have C := comp_fig k _ (.str (SX.S l)) rfl s rfl (TL.spl [62] 0 [] l) hw
  have M := split_mt s (b := [62]) (l := l) (by simp) (by decide) hl
  have hlen : (wsD (TL.spl [62] 0 [] l)).length ≤ 16777216 := by
    have h := PyProof.Rows.split_le (SX.S l) (SX.S [62])
    rw [SX.split_S (by simp) (by decide), List.length_map, SX.S_len] at h
    simp only [wsD, List.length_map]
    exact Nat.le_trans h hl
  have hn : ∀ x ∈ (TL.spl [62] 0 [] l).map figOf, numD x = true := by
    intro x hx; rw [List.mem_map] at hx; obtain ⟨w, _, rfl⟩ := hx; exact figOf_num w
  have hN := inD_non s hn
  simp only [xs_nil, xs_cons, evs, compF, x_asg, x_put, x_xpr, x_ret, x_cond, x_loop_seq, x_loop_enum, x_loop_rng, x_loop_zip, x_whl, x_raise, x_raiseN, x_tryx, x_tryr, x_pass, x_brk, x_cont, loopR_enum, loopR_tup, loopR_lst, ev_var, e_cst, e_bin, e_neg, e_cmp, e_chn, e_and, e_or, e_not, e_ite, e_tup, e_lst, e_new, e_dct, e_ix, e_sl, e_call, e_bi, e_mt, e_app, e_isi, e_comp_seq, e_comp_rng, e_comp_enum, e_comp_zip, e_xfld, bind_ok, bind_exc, to_ok, to_exc, opt_some, then_nx, then_rt, then_exc, d_val, d_new, tru_bl, tru_non, fin_bl, fin_int, fin_str, fin_non, fin_xnon, fin_xint, GK_call, GK_sub, GK_fld, GK_hot, List.map_cons, List.map_nil, List.cons_append, List.nil_append, List.replicate_succ, List.replicate_zero, Nat.sub_self, Nat.reduceSub, List.getElem?_cons_zero, List.getElem?_cons_succ, List.set_cons_zero, List.set_cons_succ, wipe, bindT, bindTs, List.length_cons, List.length_nil, Nat.reduceAdd, Nat.reduceLT, Nat.reduceLeDiff, Nat.zero_le, binW, binD, compL, stays_nil, decide_true, decide_false, LINE, Int.cast_ofNat_Int, Int.reduceLE, Int.reduceLT, Int.natCast_zero, Int.natCast_one, ixL_0, ixL_1, ixL_2, eqD_int, eqD_str, ixD_tup, ixD_lst, biD, boolsOf, lstOf, Option.bind_some, List.all_cons, List.all_nil, id, isx_non, isx_bl, isx_int, isx_str, isx_tup, isx_lst, isx_frz, isx_ref, isx_exn, String.reduceBEq, Bool.or_false, Bool.or_true, Bool.true_or, Bool.false_or, Bool.and_true, Bool.true_and, Bool.and_false, Bool.false_and, reduceIte, Bool.false_eq_true, Option.map_some, Option.map_none, Bool.not_true, Bool.not_false, rcvOk, gt_S, M, itemsOf, srcOf, hlen, C, lenD, cmpD, hN]
  by_cases h2 : ((TL.spl [62] 0 [] l).map figOf).length = 2
  · have e2 : decide ((((TL.spl [62] 0 [] l).map figOf).length : Int) = 2) = true := by simp only [h2]; rfl
    cases h3 : ((TL.spl [62] 0 [] l).map figOf).any fun x => decide (x = .non)
    · have e : roadOf l = .tup ((TL.spl [62] 0 [] l).map figOf) := by simp only [roadOf, h2, h3, if_true, Bool.false_eq_true, if_false]
      simp only [xs_nil, xs_cons, evs, compF, x_asg, x_put, x_xpr, x_ret, x_cond, x_loop_seq, x_loop_enum, x_loop_rng, x_loop_zip, x_whl, x_raise, x_raiseN, x_tryx, x_tryr, x_pass, x_brk, x_cont, loopR_enum, loopR_tup, loopR_lst, ev_var, e_cst, e_bin, e_neg, e_cmp, e_chn, e_and, e_or, e_not, e_ite, e_tup, e_lst, e_new, e_dct, e_ix, e_sl, e_call, e_bi, e_mt, e_app, e_isi, e_comp_seq, e_comp_rng, e_comp_enum, e_comp_zip, e_xfld, bind_ok, bind_exc, to_ok, to_exc, opt_some, then_nx, then_rt, then_exc, d_val, d_new, tru_bl, tru_non, fin_bl, fin_int, fin_str, fin_non, fin_xnon, fin_xint, GK_call, GK_sub, GK_fld, GK_hot, List.map_cons, List.map_nil, List.cons_append, List.nil_append, List.replicate_succ, List.replicate_zero, Nat.sub_self, Nat.reduceSub, List.getElem?_cons_zero, List.getElem?_cons_succ, List.set_cons_zero, List.set_cons_succ, wipe, bindT, bindTs, List.length_cons, List.length_nil, Nat.reduceAdd, Nat.reduceLT, Nat.reduceLeDiff, Nat.zero_le, binW, binD, compL, stays_nil, decide_true, decide_false, LINE, Int.cast_ofNat_Int, Int.reduceLE, Int.reduceLT, Int.natCast_zero, Int.natCast_one, ixL_0, ixL_1, ixL_2, eqD_int, eqD_str, ixD_tup, ixD_lst, biD, boolsOf, lstOf, Option.bind_some, List.all_cons, List.all_nil, id, isx_non, isx_bl, isx_int, isx_str, isx_tup, isx_lst, isx_frz, isx_ref, isx_exn, String.reduceBEq, Bool.or_false, Bool.or_true, Bool.true_or, Bool.false_or, Bool.and_true, Bool.true_and, Bool.and_false, Bool.false_and, reduceIte, Bool.false_eq_true, Option.map_some, Option.map_none, Bool.not_true, Bool.not_false, e2, h3, hN, e]
      exact fin_rt (by simp only [D.pln]; rw [D.plns_iff]; exact fun x hx => num_pln (hn x hx))
    · have e : roadOf l = .non := by simp only [roadOf, h2, h3, if_true]
      simp only [xs_nil, xs_cons, evs, compF, x_asg, x_put, x_xpr, x_ret, x_cond, x_loop_seq, x_loop_enum, x_loop_rng, x_loop_zip, x_whl, x_raise, x_raiseN, x_tryx, x_tryr, x_pass, x_brk, x_cont, loopR_enum, loopR_tup, loopR_lst, ev_var, e_cst, e_bin, e_neg, e_cmp, e_chn, e_and, e_or, e_not, e_ite, e_tup, e_lst, e_new, e_dct, e_ix, e_sl, e_call, e_bi, e_mt, e_app, e_isi, e_comp_seq, e_comp_rng, e_comp_enum, e_comp_zip, e_xfld, bind_ok, bind_exc, to_ok, to_exc, opt_some, then_nx, then_rt, then_exc, d_val, d_new, tru_bl, tru_non, fin_bl, fin_int, fin_str, fin_non, fin_xnon, fin_xint, GK_call, GK_sub, GK_fld, GK_hot, List.map_cons, List.map_nil, List.cons_append, List.nil_append, List.replicate_succ, List.replicate_zero, Nat.sub_self, Nat.reduceSub, List.getElem?_cons_zero, List.getElem?_cons_succ, List.set_cons_zero, List.set_cons_succ, wipe, bindT, bindTs, List.length_cons, List.length_nil, Nat.reduceAdd, Nat.reduceLT, Nat.reduceLeDiff, Nat.zero_le, binW, binD, compL, stays_nil, decide_true, decide_false, LINE, Int.cast_ofNat_Int, Int.reduceLE, Int.reduceLT, Int.natCast_zero, Int.natCast_one, ixL_0, ixL_1, ixL_2, eqD_int, eqD_str, ixD_tup, ixD_lst, biD, boolsOf, lstOf, Option.bind_some, List.all_cons, List.all_nil, id, isx_non, isx_bl, isx_int, isx_str, isx_tup, isx_lst, isx_frz, isx_ref, isx_exn, String.reduceBEq, Bool.or_false, Bool.or_true, Bool.true_or, Bool.false_or, Bool.and_true, Bool.true_and, Bool.and_false, Bool.false_and, reduceIte, Bool.false_eq_true, Option.map_some, Option.map_none, Bool.not_true, Bool.not_false, e2, h3, hN, e]
  · have e2 : decide ((((TL.spl [62] 0 [] l).map figOf).length : Int) = 2) = false := by
      rw [decide_eq_false_iff_not]; omega
    have e : roadOf l = .non := by simp only [roadOf, h2, if_false]
    simp only [xs_nil, xs_cons, evs, compF, x_asg, x_put, x_xpr, x_ret, x_cond, x_loop_seq, x_loop_enum, x_loop_rng, x_loop_zip, x_whl, x_raise, x_raiseN, x_tryx, x_tryr, x_pass, x_brk, x_cont, loopR_enum, loopR_tup, loopR_lst, ev_var, e_cst, e_bin, e_neg, e_cmp, e_chn, e_and, e_or, e_not, e_ite, e_tup, e_lst, e_new, e_dct, e_ix, e_sl, e_call, e_bi, e_mt, e_app, e_isi, e_comp_seq, e_comp_rng, e_comp_enum, e_comp_zip, e_xfld, bind_ok, bind_exc, to_ok, to_exc, opt_some, then_nx, then_rt, then_exc, d_val, d_new, tru_bl, tru_non, fin_bl, fin_int, fin_str, fin_non, fin_xnon, fin_xint, GK_call, GK_sub, GK_fld, GK_hot, List.map_cons, List.map_nil, List.cons_append, List.nil_append, List.replicate_succ, List.replicate_zero, Nat.sub_self, Nat.reduceSub, List.getElem?_cons_zero, List.getElem?_cons_succ, List.set_cons_zero, List.set_cons_succ, wipe, bindT, bindTs, List.length_cons, List.length_nil, Nat.reduceAdd, Nat.reduceLT, Nat.reduceLeDiff, Nat.zero_le, binW, binD, compL, stays_nil, decide_true, decide_false, LINE, Int.cast_ofNat_Int, Int.reduceLE, Int.reduceLT, Int.natCast_zero, Int.natCast_one, ixL_0, ixL_1, ixL_2, eqD_int, eqD_str, ixD_tup, ixD_lst, biD, boolsOf, lstOf, Option.bind_some, List.all_cons, List.all_nil, id, isx_non, isx_bl, isx_int, isx_str, isx_tup, isx_lst, isx_frz, isx_ref, isx_exn, String.reduceBEq, Bool.or_false, Bool.or_true, Bool.true_or, Bool.false_or, Bool.and_true, Bool.true_and, Bool.and_false, Bool.false_and, reduceIte, Bool.false_eq_true, Option.map_some, Option.map_none, Bool.not_true, Bool.not_false, e2, e]
theorem comp_num (k : Nat) (f : D → Store → R (Option D)) (t : D) (s : Store)
    (hf : f = compF (GK (k + 1)) none [1] (.nm 1) (.cst (.bl true)) (.call (11 : Nat) (.cons (.var 1) .nil)) [some t, none]) :
    ∀ ws : List (List Nat), (∀ w ∈ ws, w.length ≤ LINE) → compL [] f (wsD ws) s = .ok (ws.map numOf) s
  | [], _ => rfl
  | c :: l, h => by
    have e : f (.str (SX.S c)) s = .ok (some (numOf c)) s := by
      rw [hf]; simp only [xs_nil, xs_cons, evs, compF, x_asg, x_put, x_xpr, x_ret, x_cond, x_loop_seq, x_loop_enum, x_loop_rng, x_loop_zip, x_whl, x_raise, x_raiseN, x_tryx, x_tryr, x_pass, x_brk, x_cont, loopR_enum, loopR_tup, loopR_lst, ev_var, e_cst, e_bin, e_neg, e_cmp, e_chn, e_and, e_or, e_not, e_ite, e_tup, e_lst, e_new, e_dct, e_ix, e_sl, e_call, e_bi, e_mt, e_app, e_isi, e_comp_seq, e_comp_rng, e_comp_enum, e_comp_zip, e_xfld, bind_ok, bind_exc, to_ok, to_exc, opt_some, then_nx, then_rt, then_exc, d_val, d_new, tru_bl, tru_non, fin_bl, fin_int, fin_str, fin_non, fin_xnon, fin_xint, GK_call, GK_sub, GK_fld, GK_hot, List.map_cons, List.map_nil, List.cons_append, List.nil_append, List.replicate_succ, List.replicate_zero, Nat.sub_self, Nat.reduceSub, List.getElem?_cons_zero, List.getElem?_cons_succ, List.set_cons_zero, List.set_cons_succ, wipe, bindT, bindTs, List.length_cons, List.length_nil, Nat.reduceAdd, Nat.reduceLT, Nat.reduceLeDiff, Nat.zero_le, binW, binD, compL, stays_nil, decide_true, decide_false, LINE, Int.cast_ofNat_Int, Int.reduceLE, Int.reduceLT, Int.natCast_zero, Int.natCast_one, ixL_0, ixL_1, ixL_2, eqD_int, eqD_str, ixD_tup, ixD_lst, biD, boolsOf, lstOf, Option.bind_some, List.all_cons, List.all_nil, id, isx_non, isx_bl, isx_int, isx_str, isx_tup, isx_lst, isx_frz, isx_ref, isx_exn, String.reduceBEq, Bool.or_false, Bool.or_true, Bool.true_or, Bool.false_or, Bool.and_true, Bool.true_and, Bool.and_false, Bool.false_and, reduceIte, Bool.false_eq_true, Option.map_some, Option.map_none, Bool.not_true, Bool.not_false, r_read_number k c _ (h c (by simp))]
    rw [wsD, List.map_cons, compL, if_pos (stays_nil _), e]
    show R.bind _ _ = _
    rw [← wsD, comp_num k f t s hf l (fun w hw => h w (by simp [hw])), bind_ok]; rfl
theorem tup_num (ws : List (List Nat)) : (D.tup (ws.map numOf)).pln = true := by
  simp only [D.pln]; rw [D.plns_iff]; intro x hx; rw [List.mem_map] at hx; obtain ⟨w, _, rfl⟩ := hx; exact num_pln (numOf_num w)
theorem r_read_doors (k : Nat) (ws : List (List Nat)) (s : Store) (hw : ∀ w ∈ ws, w.length ≤ LINE) (hl : ws.length ≤ LINE) :
    Rn (k + 2) (13 : Nat) [.lst (wsD ws)] s = .ok (.tup (ws.map numOf)) s := by
  rw [Rn_at t_read_doors rfl, b_read_doors]
  have C := comp_num k _ (.lst (wsD ws)) s rfl ws hw
  have hlen : (wsD ws).length ≤ 16777216 := by simpa [wsD] using hl
  simp only [xs_nil, xs_cons, evs, compF, x_asg, x_put, x_xpr, x_ret, x_cond, x_loop_seq, x_loop_enum, x_loop_rng, x_loop_zip, x_whl, x_raise, x_raiseN, x_tryx, x_tryr, x_pass, x_brk, x_cont, loopR_enum, loopR_tup, loopR_lst, ev_var, e_cst, e_bin, e_neg, e_cmp, e_chn, e_and, e_or, e_not, e_ite, e_tup, e_lst, e_new, e_dct, e_ix, e_sl, e_call, e_bi, e_mt, e_app, e_isi, e_comp_seq, e_comp_rng, e_comp_enum, e_comp_zip, e_xfld, bind_ok, bind_exc, to_ok, to_exc, opt_some, then_nx, then_rt, then_exc, d_val, d_new, tru_bl, tru_non, fin_bl, fin_int, fin_str, fin_non, fin_xnon, fin_xint, GK_call, GK_sub, GK_fld, GK_hot, List.map_cons, List.map_nil, List.cons_append, List.nil_append, List.replicate_succ, List.replicate_zero, Nat.sub_self, Nat.reduceSub, List.getElem?_cons_zero, List.getElem?_cons_succ, List.set_cons_zero, List.set_cons_succ, wipe, bindT, bindTs, List.length_cons, List.length_nil, Nat.reduceAdd, Nat.reduceLT, Nat.reduceLeDiff, Nat.zero_le, binW, binD, compL, stays_nil, decide_true, decide_false, LINE, Int.cast_ofNat_Int, Int.reduceLE, Int.reduceLT, Int.natCast_zero, Int.natCast_one, ixL_0, ixL_1, ixL_2, eqD_int, eqD_str, ixD_tup, ixD_lst, biD, boolsOf, lstOf, Option.bind_some, List.all_cons, List.all_nil, id, isx_non, isx_bl, isx_int, isx_str, isx_tup, isx_lst, isx_frz, isx_ref, isx_exn, String.reduceBEq, Bool.or_false, Bool.or_true, Bool.true_or, Bool.false_or, Bool.and_true, Bool.true_and, Bool.and_false, Bool.false_and, reduceIte, Bool.false_eq_true, Option.map_some, Option.map_none, Bool.not_true, Bool.not_false, itemsOf, srcOf, hlen, C]
  exact fin_rt (tup_num ws)
theorem spl_short {b l w : List Nat} (hb : b ≠ []) (hk : b.all (· < 256) = true) (h : w ∈ TL.spl b 0 [] l) : w.length ≤ l.length := by
  have h' : SX.S w ∈ PySem.Txt.split (SX.S l) (SX.S b) := by
    rw [SX.split_S hb hk]; exact List.mem_map_of_mem h
  have := PyProof.Rows.part_short h'
  rw [SX.S_len, SX.S_len] at this; exact this
theorem r_read_road' (k : Nat) (l : List Nat) (s : Store) (hl : l.length + 2 ≤ LINE) : Rn (k + 2) (9 : Nat) [.str (SX.S l)] s = .ok (roadOf l) s :=
  r_read_road k l s hl fun w hw => by have := spl_short (by simp) (by decide) hw; omega
theorem roadOf_pln (l : List Nat) : (roadOf l).pln = true := by
  simp only [roadOf]
  split
  · split
    · rfl
    · simp only [D.pln]; rw [D.plns_iff]; intro x hx; rw [List.mem_map] at hx; obtain ⟨w, _, rfl⟩ := hx; exact num_pln (figOf_num w)
  · rfl
theorem comp_road (k : Nat) (f : D → Store → R (Option D)) (t u : D) (s : Store)
    (hf : f = compF (GK (k + 2)) none [3] (.nm 3) (.cst (.bl true)) (.call (9 : Nat) (.cons (.var 3) .nil)) [some t, some u, none, none]) :
    ∀ ws : List (List Nat), (∀ w ∈ ws, w.length + 2 ≤ LINE) → compL [] f (wsD ws) s = .ok (ws.map roadOf) s
  | [], _ => rfl
  | c :: l, h => by
    have e : f (.str (SX.S c)) s = .ok (some (roadOf c)) s := by
      rw [hf]; simp only [xs_nil, xs_cons, evs, compF, x_asg, x_put, x_xpr, x_ret, x_cond, x_loop_seq, x_loop_enum, x_loop_rng, x_loop_zip, x_whl, x_raise, x_raiseN, x_tryx, x_tryr, x_pass, x_brk, x_cont, loopR_enum, loopR_tup, loopR_lst, ev_var, e_cst, e_bin, e_neg, e_cmp, e_chn, e_and, e_or, e_not, e_ite, e_tup, e_lst, e_new, e_dct, e_ix, e_sl, e_call, e_bi, e_mt, e_app, e_isi, e_comp_seq, e_comp_rng, e_comp_enum, e_comp_zip, e_xfld, bind_ok, bind_exc, to_ok, to_exc, opt_some, then_nx, then_rt, then_exc, d_val, d_new, tru_bl, tru_non, fin_bl, fin_int, fin_str, fin_non, fin_xnon, fin_xint, GK_call, GK_sub, GK_fld, GK_hot, List.map_cons, List.map_nil, List.cons_append, List.nil_append, List.replicate_succ, List.replicate_zero, Nat.sub_self, Nat.reduceSub, List.getElem?_cons_zero, List.getElem?_cons_succ, List.set_cons_zero, List.set_cons_succ, wipe, bindT, bindTs, List.length_cons, List.length_nil, Nat.reduceAdd, Nat.reduceLT, Nat.reduceLeDiff, Nat.zero_le, binW, binD, compL, stays_nil, decide_true, decide_false, LINE, Int.cast_ofNat_Int, Int.reduceLE, Int.reduceLT, Int.natCast_zero, Int.natCast_one, ixL_0, ixL_1, ixL_2, eqD_int, eqD_str, ixD_tup, ixD_lst, biD, boolsOf, lstOf, Option.bind_some, List.all_cons, List.all_nil, id, isx_non, isx_bl, isx_int, isx_str, isx_tup, isx_lst, isx_frz, isx_ref, isx_exn, String.reduceBEq, Bool.or_false, Bool.or_true, Bool.true_or, Bool.false_or, Bool.and_true, Bool.true_and, Bool.and_false, Bool.false_and, reduceIte, Bool.false_eq_true, Option.map_some, Option.map_none, Bool.not_true, Bool.not_false, r_read_road' k c _ (h c (by simp))]
    rw [wsD, List.map_cons, compL, if_pos (stays_nil _), e]
    show R.bind _ _ = _
    rw [← wsD, comp_road k f t u s hf l (fun w hw => h w (by simp [hw])), bind_ok]; rfl
def netOf : List (List Nat) → D
  | [] => .non
  | w :: ws => .tup [figOf w, .tup (ws.map roadOf)]
theorem netOf_pln (ws : List (List Nat)) : (netOf ws).pln = true := by
  cases ws with
  | nil => rfl
  | cons w ws =>
    simp only [netOf, D.pln, D.plns, num_pln (figOf_num w), Bool.true_and, Bool.and_true]
    rw [D.plns_iff]; intro x hx; rw [List.mem_map] at hx; obtain ⟨w, _, rfl⟩ := hx; exact roadOf_pln w
theorem cutL_1 {α : Type} (x : α) (xs : List α) : cutL (x :: xs) (some 1) none = xs := by
  have e1 : HT.sIx (x :: xs).length 0 (some 1) = 1 := by
    have := HT.sIx_nat (x :: xs).length 0 1
    simp at this; exact this
  have e2 : HT.sIx (x :: xs).length (x :: xs).length none = (x :: xs).length := rfl
  rw [cutL, e1, e2]; simp
theorem sub_00 : Y.sub 0 0 = true := by decide +kernel
theorem sub_11 : Y.sub 1 1 = true := by decide +kernel
theorem sub_22 : Y.sub 2 2 = true := by decide +kernel
theorem sub_01 : Y.sub 0 1 = false := by decide +kernel
theorem sub_21 : Y.sub 2 1 = false := by decide +kernel
theorem hot_0 : Y.hot 0 = false := by decide +kernel
theorem hot_1 : Y.hot 1 = false := by decide +kernel
theorem hot_2 : Y.hot 2 = true := by decide +kernel
end K82
end

section
set_option Elab.async false
set_option linter.all false
set_option maxRecDepth 100000
set_option maxHeartbeats 0
namespace K82
open DW
open PySem (Str)
def netR (ws : List (List Nat)) (s : Store) : R D := match netFault (netOf ws) with
  | none => .ok (netOf ws) s
  | some _ => .exc 2 .non s
theorem r_read_net (k : Nat) (l : List Nat) (s : Store) (hl : l.length + 4 ≤ LINE) :
    Rn (k + 5) (10 : Nat) [.str (SX.S l)] s = netR (TL.spl [32] 0 [] l) s := by
  rw [Rn_at t_read_net rfl, b_read_net]
  have M := split_mt s (b := [32]) (l := l) (by simp) (by decide) (by omega)
  have hlen := PyProof.Rows.split_le (SX.S l) (SX.S [32])
  have hpos := PyProof.Rows.split_pos (SX.S l) (SX.S [32])
  rw [SX.split_S (by simp) (by decide), List.length_map] at hlen hpos
  rw [SX.S_len] at hlen
  have hsh : ∀ w ∈ TL.spl [32] 0 [] l, w.length ≤ l.length := fun w hw => spl_short (by simp) (by decide) hw
  simp only [xs_nil, xs_cons, evs, compF, x_asg, x_put, x_xpr, x_ret, x_cond, x_loop_seq, x_loop_enum, x_loop_rng, x_loop_zip, x_whl, x_raise, x_raiseN, x_tryx, x_tryr, x_pass, x_brk, x_cont, loopR_enum, loopR_tup, loopR_lst, ev_var, e_cst, e_bin, e_neg, e_cmp, e_chn, e_and, e_or, e_not, e_ite, e_tup, e_lst, e_new, e_dct, e_ix, e_sl, e_call, e_bi, e_mt, e_app, e_isi, e_comp_seq, e_comp_rng, e_comp_enum, e_comp_zip, e_xfld, bind_ok, bind_exc, to_ok, to_exc, opt_some, then_nx, then_rt, then_exc, d_val, d_new, tru_bl, tru_non, fin_bl, fin_int, fin_str, fin_non, fin_xnon, fin_xint, GK_call, GK_sub, GK_fld, GK_hot, List.map_cons, List.map_nil, List.cons_append, List.nil_append, List.replicate_succ, List.replicate_zero, Nat.sub_self, Nat.reduceSub, List.getElem?_cons_zero, List.getElem?_cons_succ, List.set_cons_zero, List.set_cons_succ, wipe, bindT, bindTs, List.length_cons, List.length_nil, Nat.reduceAdd, Nat.reduceLT, Nat.reduceLeDiff, Nat.zero_le, binW, binD, compL, stays_nil, decide_true, decide_false, LINE, Int.cast_ofNat_Int, Int.reduceLE, Int.reduceLT, Int.natCast_zero, Int.natCast_one, ixL_0, ixL_1, ixL_2, eqD_int, eqD_str, ixD_tup, ixD_lst, biD, boolsOf, lstOf, Option.bind_some, List.all_cons, List.all_nil, id, isx_non, isx_bl, isx_int, isx_str, isx_tup, isx_lst, isx_frz, isx_ref, isx_exn, String.reduceBEq, Bool.or_false, Bool.or_true, Bool.true_or, Bool.false_or, Bool.and_true, Bool.true_and, Bool.and_false, Bool.false_and, reduceIte, Bool.false_eq_true, Option.map_some, Option.map_none, Bool.not_true, Bool.not_false, isiD, rcvOk, sp_S, M]
  generalize TL.spl [32] 0 [] l = ws at *
  rcases ws with _ | ⟨w, ws⟩
  · simp at hpos
  have hlen2 : (wsD ws).length ≤ 16777216 := by
    simp only [wsD, List.length_map]; simp at hlen
    exact Nat.le_trans (by omega) hl
  have C := comp_road (k + 2) _ (.str (SX.S l)) (.lst (wsD (w :: ws))) s rfl ws (fun x hx => by have := hsh x (by simp [hx]); omega)
  have hw : w.length ≤ LINE := by have := hsh w (by simp); omega
  have N := r_need_net k (netOf (w :: ws)) s (netOf_pln _)
  simp only [netOf] at N
  have e0 : wsD (w :: ws) = .str (SX.S w) :: wsD ws := rfl
  rw [e0] at C ⊢
  simp only [xs_nil, xs_cons, evs, compF, x_asg, x_put, x_xpr, x_ret, x_cond, x_loop_seq, x_loop_enum, x_loop_rng, x_loop_zip, x_whl, x_raise, x_raiseN, x_tryx, x_tryr, x_pass, x_brk, x_cont, loopR_enum, loopR_tup, loopR_lst, ev_var, e_cst, e_bin, e_neg, e_cmp, e_chn, e_and, e_or, e_not, e_ite, e_tup, e_lst, e_new, e_dct, e_ix, e_sl, e_call, e_bi, e_mt, e_app, e_isi, e_comp_seq, e_comp_rng, e_comp_enum, e_comp_zip, e_xfld, bind_ok, bind_exc, to_ok, to_exc, opt_some, then_nx, then_rt, then_exc, d_val, d_new, tru_bl, tru_non, fin_bl, fin_int, fin_str, fin_non, fin_xnon, fin_xint, GK_call, GK_sub, GK_fld, GK_hot, List.map_cons, List.map_nil, List.cons_append, List.nil_append, List.replicate_succ, List.replicate_zero, Nat.sub_self, Nat.reduceSub, List.getElem?_cons_zero, List.getElem?_cons_succ, List.set_cons_zero, List.set_cons_succ, wipe, bindT, bindTs, List.length_cons, List.length_nil, Nat.reduceAdd, Nat.reduceLT, Nat.reduceLeDiff, Nat.zero_le, binW, binD, compL, stays_nil, decide_true, decide_false, LINE, Int.cast_ofNat_Int, Int.reduceLE, Int.reduceLT, Int.natCast_zero, Int.natCast_one, ixL_0, ixL_1, ixL_2, eqD_int, eqD_str, ixD_tup, ixD_lst, biD, boolsOf, lstOf, Option.bind_some, List.all_cons, List.all_nil, id, isx_non, isx_bl, isx_int, isx_str, isx_tup, isx_lst, isx_frz, isx_ref, isx_exn, String.reduceBEq, Bool.or_false, Bool.or_true, Bool.true_or, Bool.false_or, Bool.and_true, Bool.true_and, Bool.and_false, Bool.false_and, reduceIte, Bool.false_eq_true, Option.map_some, Option.map_none, Bool.not_true, Bool.not_false, r_read_figure (k + 3) w _ hw, slD, noPart, partOf, cutL_1, itemsOf, srcOf, hlen2, C, N, netR, netOf]
  cases hf : netFault (.tup [figOf w, .tup (ws.map roadOf)])
  · simp only [xs_nil, xs_cons, evs, compF, x_asg, x_put, x_xpr, x_ret, x_cond, x_loop_seq, x_loop_enum, x_loop_rng, x_loop_zip, x_whl, x_raise, x_raiseN, x_tryx, x_tryr, x_pass, x_brk, x_cont, loopR_enum, loopR_tup, loopR_lst, ev_var, e_cst, e_bin, e_neg, e_cmp, e_chn, e_and, e_or, e_not, e_ite, e_tup, e_lst, e_new, e_dct, e_ix, e_sl, e_call, e_bi, e_mt, e_app, e_isi, e_comp_seq, e_comp_rng, e_comp_enum, e_comp_zip, e_xfld, bind_ok, bind_exc, to_ok, to_exc, opt_some, then_nx, then_rt, then_exc, d_val, d_new, tru_bl, tru_non, fin_bl, fin_int, fin_str, fin_non, fin_xnon, fin_xint, GK_call, GK_sub, GK_fld, GK_hot, List.map_cons, List.map_nil, List.cons_append, List.nil_append, List.replicate_succ, List.replicate_zero, Nat.sub_self, Nat.reduceSub, List.getElem?_cons_zero, List.getElem?_cons_succ, List.set_cons_zero, List.set_cons_succ, wipe, bindT, bindTs, List.length_cons, List.length_nil, Nat.reduceAdd, Nat.reduceLT, Nat.reduceLeDiff, Nat.zero_le, binW, binD, compL, stays_nil, decide_true, decide_false, LINE, Int.cast_ofNat_Int, Int.reduceLE, Int.reduceLT, Int.natCast_zero, Int.natCast_one, ixL_0, ixL_1, ixL_2, eqD_int, eqD_str, ixD_tup, ixD_lst, biD, boolsOf, lstOf, Option.bind_some, List.all_cons, List.all_nil, id, isx_non, isx_bl, isx_int, isx_str, isx_tup, isx_lst, isx_frz, isx_ref, isx_exn, String.reduceBEq, Bool.or_false, Bool.or_true, Bool.true_or, Bool.false_or, Bool.and_true, Bool.true_and, Bool.and_false, Bool.false_and, reduceIte, Bool.false_eq_true, Option.map_some, Option.map_none, Bool.not_true, Bool.not_false, resOf]; exact fin_rt (netOf_pln (w :: ws))
  · simp only [xs_nil, xs_cons, evs, compF, x_asg, x_put, x_xpr, x_ret, x_cond, x_loop_seq, x_loop_enum, x_loop_rng, x_loop_zip, x_whl, x_raise, x_raiseN, x_tryx, x_tryr, x_pass, x_brk, x_cont, loopR_enum, loopR_tup, loopR_lst, ev_var, e_cst, e_bin, e_neg, e_cmp, e_chn, e_and, e_or, e_not, e_ite, e_tup, e_lst, e_new, e_dct, e_ix, e_sl, e_call, e_bi, e_mt, e_app, e_isi, e_comp_seq, e_comp_rng, e_comp_enum, e_comp_zip, e_xfld, bind_ok, bind_exc, to_ok, to_exc, opt_some, then_nx, then_rt, then_exc, d_val, d_new, tru_bl, tru_non, fin_bl, fin_int, fin_str, fin_non, fin_xnon, fin_xint, GK_call, GK_sub, GK_fld, GK_hot, List.map_cons, List.map_nil, List.cons_append, List.nil_append, List.replicate_succ, List.replicate_zero, Nat.sub_self, Nat.reduceSub, List.getElem?_cons_zero, List.getElem?_cons_succ, List.set_cons_zero, List.set_cons_succ, wipe, bindT, bindTs, List.length_cons, List.length_nil, Nat.reduceAdd, Nat.reduceLT, Nat.reduceLeDiff, Nat.zero_le, binW, binD, compL, stays_nil, decide_true, decide_false, LINE, Int.cast_ofNat_Int, Int.reduceLE, Int.reduceLT, Int.natCast_zero, Int.natCast_one, ixL_0, ixL_1, ixL_2, eqD_int, eqD_str, ixD_tup, ixD_lst, biD, boolsOf, lstOf, Option.bind_some, List.all_cons, List.all_nil, id, isx_non, isx_bl, isx_int, isx_str, isx_tup, isx_lst, isx_frz, isx_ref, isx_exn, String.reduceBEq, Bool.or_false, Bool.or_true, Bool.true_or, Bool.false_or, Bool.and_true, Bool.true_and, Bool.and_false, Bool.false_and, reduceIte, Bool.false_eq_true, Option.map_some, Option.map_none, Bool.not_true, Bool.not_false, resOf, sub_00, hot_0, hot_2]
end K82
end

section
set_option Elab.async false
set_option linter.all false
set_option maxRecDepth 100000
set_option maxHeartbeats 0
namespace K82
open DW
open PySem (Str)
abbrev IN : List Nat := [105, 110]
abbrev OUT : List Nat := [111, 117, 116]
theorem in_S : ("in" : Str) = SX.S IN := by decide +kernel
theorem out_S : ("out" : Str) = SX.S OUT := by decide +kernel

def cutAt (x : List Nat) : List (List Nat) → Option (List (List Nat) × List (List Nat))
  | [] => none
  | w :: ws => if w = x then some ([], ws) else (cutAt x ws).map fun p => (w :: p.1, p.2)
theorem cutAt_some {x : List Nat} : ∀ {ws p q : List (List Nat)}, cutAt x ws = some (p, q) → ws = p ++ x :: q ∧ x ∉ p
  | [], p, q, h => by simp [cutAt] at h
  | w :: ws, p, q, h => by
    rw [cutAt] at h
    by_cases e : w = x
    · rw [if_pos e] at h; cases h; simp [e]
    · rw [if_neg e, Option.map_eq_some_iff] at h
      obtain ⟨⟨p', q'⟩, h', e'⟩ := h
      obtain ⟨rfl, h2⟩ := cutAt_some h'
      cases e'
      refine ⟨by simp, ?_⟩
      simp only [List.mem_cons, not_or]
      exact ⟨fun e2 => e e2.symm, h2⟩
theorem cutAt_none {x : List Nat} : ∀ {ws : List (List Nat)}, cutAt x ws = none → x ∉ ws
  | [], _ => by simp
  | w :: ws, h => by
    rw [cutAt] at h
    by_cases e : w = x
    · rw [if_pos e] at h; cases h
    · rw [if_neg e, Option.map_eq_none_iff] at h
      simp only [List.mem_cons, not_or]
      exact ⟨fun e2 => e e2.symm, cutAt_none h⟩
theorem cutAt_mem {x : List Nat} {p q : List (List Nat)} (h : x ∉ p) : cutAt x (p ++ x :: q) = some (p, q) := by
  induction p with
  | nil => simp [cutAt]
  | cons w p ih =>
    simp only [List.mem_cons, not_or] at h
    rw [List.cons_append, cutAt, if_neg (fun e => h.1 e.symm), ih h.2]; rfl
theorem wsD_flat (ws : List (List Nat)) : (wsD ws).all flatD = true := by
  rw [List.all_eq_true]; intro x hx; rw [wsD, List.mem_map] at hx; obtain ⟨w, _, rfl⟩ := hx; rfl
theorem inD_ws (s : Store) (x : List Nat) (ws : List (List Nat)) : inD s (.str (SX.S x)) (.lst (wsD ws)) = some (decide (x ∈ ws)) := by
  simp only [inD, inL, wsD_flat, flatD, Bool.true_and, if_true]
  refine congrArg some ?_
  induction ws with
  | nil => rfl
  | cons w ws ih =>
    rw [wsD, List.map_cons, List.any_cons, ← wsD, ih]
    simp only [deq, eq_S, List.mem_cons]
    by_cases e : w = x
    · simp [e]
    · have e' : ¬ x = w := fun h => e h.symm
      simp [e, e']
theorem findD_ws (x : List Nat) : ∀ (p q : List (List Nat)) (i : Nat), x ∉ p → findD (wsD (p ++ x :: q)) (.str (SX.S x)) i = some (i + p.length)
  | [], q, i, _ => by simp [wsD, findD, deq]
  | w :: p, q, i, h => by
    simp only [List.mem_cons, not_or] at h
    have e : deq (.str (SX.S w)) (.str (SX.S x)) = false := by
      simp only [deq, eq_S]; simp; exact fun e => h.1 e.symm
    rw [List.cons_append, wsD, List.map_cons, findD, e, ← wsD]
    simp only [Bool.false_eq_true, if_false]
    rw [findD_ws x p q (i + 1) h.2, List.length_cons]; congr 1; omega
theorem cutL_to {α : Type} (xs : List α) (b : Nat) : cutL xs none (some (b : Int)) = xs.take b := by
  rw [cutL, HT.sIx_nat]
  have e : HT.sIx xs.length 0 none = 0 := rfl
  rw [e, List.drop_zero, Nat.sub_zero]
  by_cases h : b ≤ xs.length
  · rw [Nat.min_eq_left h]
  · rw [Nat.min_eq_right (by omega), List.take_length, List.take_of_length_le (by omega)]
theorem cutL_from {α : Type} (xs : List α) (a : Nat) : cutL xs (some (a : Int)) none = xs.drop a := by
  rw [cutL, HT.sIx_nat]
  have e : HT.sIx xs.length xs.length none = xs.length := rfl
  rw [e]
  by_cases h : a ≤ xs.length
  · rw [Nat.min_eq_left h, List.take_of_length_le (by simp)]
  · rw [Nat.min_eq_right (by omega), List.drop_of_length_le (Nat.le_refl _), List.drop_of_length_le (by omega : xs.length ≤ a)]; simp
theorem cutL_ab {α : Type} (xs : List α) (a b : Nat) (hb : b ≤ xs.length) : cutL xs (some (a : Int)) (some (b : Int)) = (xs.drop a).take (b - a) := by
  rw [cutL, HT.sIx_nat, HT.sIx_nat, Nat.min_eq_left hb]
  by_cases h : a ≤ xs.length
  · rw [Nat.min_eq_left h]
  · rw [Nat.min_eq_right (by omega), List.drop_of_length_le (Nat.le_refl _), List.drop_of_length_le (by omega : xs.length ≤ a)]; simp
theorem index_ws (s : Store) {x : List Nat} {p q : List (List Nat)} (h : x ∉ p) :
    mtD s .index (.lst (wsD (p ++ x :: q))) [.str (SX.S x)] = some (.val (.int (p.length : Nat))) := by
  simp only [mtD, lstOf, wsD_flat, flatD, Bool.true_and, if_true]
  rw [findD_ws x p q 0 h]; simp
theorem index2_ws (s : Store) {x y : List Nat} {p c d : List (List Nat)} (hy : ¬ x = y) (h : y ∉ c) (hl : p.length ≤ LINE) :
    mtD s .index2 (.lst (wsD (p ++ x :: (c ++ y :: d)))) [.str (SX.S y), .int (p.length : Nat)] = some (.val (.int ((p.length + 1 + c.length : Nat) : Int))) := by
  have e1 : decide ((0 : Int) ≤ ((p.length : Nat) : Int) ∧ ((p.length : Nat) : Int) ≤ ((LINE : Nat) : Int)) = true := by
    simp only [decide_eq_true_eq]; omega
  have e2 : (wsD (p ++ x :: (c ++ y :: d))).drop p.length = wsD ((x :: c) ++ y :: d) := by
    simp only [wsD, ← List.map_drop, List.drop_left, List.cons_append]
  have e3 : y ∉ x :: c := by simp only [List.mem_cons, not_or]; exact ⟨fun e => hy e.symm, h⟩
  simp only [mtD, lstOf, wsD_flat, flatD, Bool.true_and]
  rw [if_pos e1, Int.toNat_natCast, e2, findD_ws y (x :: c) d p.length e3]
  simp only [Option.map_some, List.length_cons]
  congr 4; omega
end K82
end

section
set_option Elab.async false
set_option linter.all false
set_option maxRecDepth 100000
set_option maxHeartbeats 0
namespace K82
open DW
open PySem (Str)
theorem pre_one (c x : Nat) (r : List Nat) : TL.pre [c] (x :: r) = decide (x = c) := by
  simp [TL.pre]
  by_cases h : x = c <;> simp [h]
theorem spl_sum (c : Nat) : ∀ (l acc : List Nat), ((TL.spl [c] 0 acc l).map List.length).sum + (TL.spl [c] 0 acc l).length = acc.length + l.length + 1
  | [], acc => by rw [TL.spl_nil]; simp
  | x :: r, acc => by
    by_cases h : x = c
    · have e : TL.pre [c] (x :: r) = true := by rw [pre_one]; simp [h]
      have ih := spl_sum c r []
      rw [TL.spl_hit e]
      simp only [List.length_cons, List.length_nil, Nat.sub_self, List.map_cons, List.sum_cons] at ih ⊢
      omega
    · have e : TL.pre [c] (x :: r) = false := by rw [pre_one]; simp [h]
      have ih := spl_sum c r (acc ++ [x])
      rw [TL.spl_miss e]
      simp only [List.length_cons, List.length_nil, List.length_append] at ih ⊢
      omega
theorem spl_free (c : Nat) : ∀ (l acc : List Nat), c ∉ acc → ∀ w ∈ TL.spl [c] 0 acc l, c ∉ w
  | [], acc, h, w, hw => by rw [TL.spl_nil] at hw; simp at hw; rw [hw]; exact h
  | x :: r, acc, h, w, hw => by
    by_cases e : x = c
    · have e' : TL.pre [c] (x :: r) = true := by rw [pre_one]; simp [e]
      rw [TL.spl_hit e'] at hw
      simp only [List.length_cons, List.length_nil, Nat.sub_self, List.mem_cons] at hw
      rcases hw with rfl | hw
      · exact h
      · exact spl_free c r [] (by simp) w hw
    · have e' : TL.pre [c] (x :: r) = false := by rw [pre_one]; simp [e]
      rw [TL.spl_miss e'] at hw
      refine spl_free c r (acc ++ [x]) ?_ w hw
      simp only [List.mem_append, List.mem_singleton, not_or]
      exact ⟨h, fun e2 => e e2.symm⟩
theorem joinL_len (c : Nat) : ∀ ps : List (List Nat), (TL.joinL [c] ps).length ≤ (ps.map List.length).sum + ps.length
  | [] => by simp [TL.joinL]
  | [p] => by simp [TL.joinL]
  | p :: q :: ps => by
    have ih := joinL_len c (q :: ps)
    simp only [TL.joinL, List.length_append, List.length_cons, List.map_cons, List.sum_cons] at ih ⊢
    simp only [List.length_nil]
    omega
theorem le_sum : ∀ {l : List (List Nat)} {w : List Nat}, w ∈ l → w.length ≤ (l.map List.length).sum
  | x :: l, w, h => by
    simp only [List.mem_cons] at h
    simp only [List.map_cons, List.sum_cons]
    rcases h with rfl | h
    · omega
    · have := le_sum h; omega
theorem strsOf_ws (ws : List (List Nat)) : strsOf (wsD ws) = some (ws.map SX.S) := by
  induction ws with
  | nil => rfl
  | cons w ws ih => rw [wsD, List.map_cons, strsOf, ← wsD, ih]; rfl
theorem join_ws (s : Store) (c : Nat) (ws : List (List Nat)) (h : (ws.map List.length).sum + ws.length ≤ LINE) :
    mtD s .join (.str (SX.S [c])) [.lst (wsD ws)] = some (.val (.str (SX.S (TL.joinL [c] ws)))) := by
  simp only [mtD, seqOf, strsOf_ws]
  rw [if_pos]
  · rw [SX.join_S]
  · have e : ((ws.map SX.S).map (·.length)) = ws.map List.length := by
      rw [List.map_map]; apply List.map_congr_left; intro w _; exact SX.S_len w
    rw [e, List.length_map, SX.S_len]; simpa using h
def orE (a : List (List Nat)) : List (List Nat) := if a = [] then [[]] else a
def pieceD (a c d : List (List Nat)) : D := .tup [netOf (orE a), .tup (c.map numOf), .tup (d.map numOf)]
def okP (p : D) : Option D := if (pieceFault p).isNone then some p else none
def readP (ws : List (List Nat)) : Option D := match cutAt IN ws with
  | none => none
  | some (a, b) => match cutAt OUT b with
    | none => none
    | some (c, d) => okP (pieceD a c d)
def readR (o : Option D) (s : Store) : R D := match o with
  | some p => .ok p s
  | none => .exc 2 .non s
theorem pieceFault_cls {x y z p : D} {c : Nat} (h : netFault x = none) (hp : pieceFault (.tup [x, y, z]) = some (c, p)) : c = 1 := by
  obtain ⟨n, rs, rfl, _⟩ := netFault_none h
  simp only [pieceFault, h] at hp
  split at hp
  · simp at hp; exact hp.1.symm
  · rw [Option.map_eq_some_iff] at hp; obtain ⟨_, _, e⟩ := hp; simp at e; exact e.1.symm
theorem pieceD_pln (a c d : List (List Nat)) : (pieceD a c d).pln = true := by
  have h1 := tup_num c
  have h2 := tup_num d
  simp only [pieceD, D.pln, D.plns, netOf_pln, Bool.true_and, Bool.and_true] at *
  simp [h1, h2]
theorem r_read_piece (k : Nat) (l : List Nat) (s : Store) (hl : l.length + 6 ≤ LINE) :
    Rn (k + 6) (14 : Nat) [.str (SX.S l)] s = readR (readP (TL.spl [32] 0 [] l)) s := by
  rw [Rn_at t_read_piece rfl, b_read_piece]
  have M := split_mt s (b := [32]) (l := l) (by simp) (by decide) (by omega)
  have hsum := spl_sum 32 l []
  have hfree := spl_free 32 l [] (by simp)
  simp only [xs_nil, xs_cons, evs, compF, x_asg, x_put, x_xpr, x_ret, x_cond, x_loop_seq, x_loop_enum, x_loop_rng, x_loop_zip, x_whl, x_raise, x_raiseN, x_tryx, x_tryr, x_pass, x_brk, x_cont, loopR_enum, loopR_tup, loopR_lst, ev_var, e_cst, e_bin, e_neg, e_cmp, e_chn, e_and, e_or, e_not, e_ite, e_tup, e_lst, e_new, e_dct, e_ix, e_sl, e_call, e_bi, e_mt, e_app, e_isi, e_comp_seq, e_comp_rng, e_comp_enum, e_comp_zip, e_xfld, bind_ok, bind_exc, to_ok, to_exc, opt_some, then_nx, then_rt, then_exc, d_val, d_new, tru_bl, tru_non, fin_bl, fin_int, fin_str, fin_non, fin_xnon, fin_xint, GK_call, GK_sub, GK_fld, GK_hot, List.map_cons, List.map_nil, List.cons_append, List.nil_append, List.replicate_succ, List.replicate_zero, Nat.sub_self, Nat.reduceSub, List.getElem?_cons_zero, List.getElem?_cons_succ, List.set_cons_zero, List.set_cons_succ, wipe, bindT, bindTs, List.length_cons, List.length_nil, Nat.reduceAdd, Nat.reduceLT, Nat.reduceLeDiff, Nat.zero_le, binW, binD, compL, stays_nil, decide_true, decide_false, LINE, Int.cast_ofNat_Int, Int.reduceLE, Int.reduceLT, Int.natCast_zero, Int.natCast_one, ixL_0, ixL_1, ixL_2, eqD_int, eqD_str, ixD_tup, ixD_lst, biD, boolsOf, lstOf, Option.bind_some, List.all_cons, List.all_nil, id, isx_non, isx_bl, isx_int, isx_str, isx_tup, isx_lst, isx_frz, isx_ref, isx_exn, String.reduceBEq, Bool.or_false, Bool.or_true, Bool.true_or, Bool.false_or, Bool.and_true, Bool.true_and, Bool.and_false, Bool.false_and, reduceIte, Bool.false_eq_true, Option.map_some, Option.map_none, Bool.not_true, Bool.not_false, isiD, rcvOk, sp_S, M, in_S, out_S, cmpD, inD_ws]
  generalize TL.spl [32] 0 [] l = ws at *
  simp only [readP]
  cases h1 : cutAt IN ws with
  | none =>
    have e1 : decide (IN ∈ ws) = false := by simpa using cutAt_none h1
    simp only [xs_nil, xs_cons, evs, compF, x_asg, x_put, x_xpr, x_ret, x_cond, x_loop_seq, x_loop_enum, x_loop_rng, x_loop_zip, x_whl, x_raise, x_raiseN, x_tryx, x_tryr, x_pass, x_brk, x_cont, loopR_enum, loopR_tup, loopR_lst, ev_var, e_cst, e_bin, e_neg, e_cmp, e_chn, e_and, e_or, e_not, e_ite, e_tup, e_lst, e_new, e_dct, e_ix, e_sl, e_call, e_bi, e_mt, e_app, e_isi, e_comp_seq, e_comp_rng, e_comp_enum, e_comp_zip, e_xfld, bind_ok, bind_exc, to_ok, to_exc, opt_some, then_nx, then_rt, then_exc, d_val, d_new, tru_bl, tru_non, fin_bl, fin_int, fin_str, fin_non, fin_xnon, fin_xint, GK_call, GK_sub, GK_fld, GK_hot, List.map_cons, List.map_nil, List.cons_append, List.nil_append, List.replicate_succ, List.replicate_zero, Nat.sub_self, Nat.reduceSub, List.getElem?_cons_zero, List.getElem?_cons_succ, List.set_cons_zero, List.set_cons_succ, wipe, bindT, bindTs, List.length_cons, List.length_nil, Nat.reduceAdd, Nat.reduceLT, Nat.reduceLeDiff, Nat.zero_le, binW, binD, compL, stays_nil, decide_true, decide_false, LINE, Int.cast_ofNat_Int, Int.reduceLE, Int.reduceLT, Int.natCast_zero, Int.natCast_one, ixL_0, ixL_1, ixL_2, eqD_int, eqD_str, ixD_tup, ixD_lst, biD, boolsOf, lstOf, Option.bind_some, List.all_cons, List.all_nil, id, isx_non, isx_bl, isx_int, isx_str, isx_tup, isx_lst, isx_frz, isx_ref, isx_exn, String.reduceBEq, Bool.or_false, Bool.or_true, Bool.true_or, Bool.false_or, Bool.and_true, Bool.true_and, Bool.and_false, Bool.false_and, reduceIte, Bool.false_eq_true, Option.map_some, Option.map_none, Bool.not_true, Bool.not_false, e1, readR]
  | some ab =>
    obtain ⟨a, b⟩ := ab
    obtain ⟨rfl, h2⟩ := cutAt_some h1
    have e1 : decide (IN ∈ a ++ IN :: b) = true := by simp
    simp only [List.map_append, List.sum_append, List.map_cons, List.sum_cons, List.length_append, List.length_cons, List.length_nil] at hsum
    have e2 : slD s (.lst (wsD (a ++ IN :: b))) (some ((a.length : Nat) : Int)) none = some (.new (wsD (IN :: b))) := by
      simp only [slD, cutL_from, wsD, ← List.map_drop, List.drop_left]
    simp only [xs_nil, xs_cons, evs, compF, x_asg, x_put, x_xpr, x_ret, x_cond, x_loop_seq, x_loop_enum, x_loop_rng, x_loop_zip, x_whl, x_raise, x_raiseN, x_tryx, x_tryr, x_pass, x_brk, x_cont, loopR_enum, loopR_tup, loopR_lst, ev_var, e_cst, e_bin, e_neg, e_cmp, e_chn, e_and, e_or, e_not, e_ite, e_tup, e_lst, e_new, e_dct, e_ix, e_sl, e_call, e_bi, e_mt, e_app, e_isi, e_comp_seq, e_comp_rng, e_comp_enum, e_comp_zip, e_xfld, bind_ok, bind_exc, to_ok, to_exc, opt_some, then_nx, then_rt, then_exc, d_val, d_new, tru_bl, tru_non, fin_bl, fin_int, fin_str, fin_non, fin_xnon, fin_xint, GK_call, GK_sub, GK_fld, GK_hot, List.map_cons, List.map_nil, List.cons_append, List.nil_append, List.replicate_succ, List.replicate_zero, Nat.sub_self, Nat.reduceSub, List.getElem?_cons_zero, List.getElem?_cons_succ, List.set_cons_zero, List.set_cons_succ, wipe, bindT, bindTs, List.length_cons, List.length_nil, Nat.reduceAdd, Nat.reduceLT, Nat.reduceLeDiff, Nat.zero_le, binW, binD, compL, stays_nil, decide_true, decide_false, LINE, Int.cast_ofNat_Int, Int.reduceLE, Int.reduceLT, Int.natCast_zero, Int.natCast_one, ixL_0, ixL_1, ixL_2, eqD_int, eqD_str, ixD_tup, ixD_lst, biD, boolsOf, lstOf, Option.bind_some, List.all_cons, List.all_nil, id, isx_non, isx_bl, isx_int, isx_str, isx_tup, isx_lst, isx_frz, isx_ref, isx_exn, String.reduceBEq, Bool.or_false, Bool.or_true, Bool.true_or, Bool.false_or, Bool.and_true, Bool.true_and, Bool.and_false, Bool.false_and, reduceIte, Bool.false_eq_true, Option.map_some, Option.map_none, Bool.not_true, Bool.not_false, e1, Option.isSome_some, index_ws s h2, noPart, partOf, e2, cmpD, inD_ws]
    cases h3 : cutAt OUT b with
    | none =>
      have e3 : decide (OUT ∈ IN :: b) = false := by
        have := cutAt_none h3
        simp only [List.mem_cons, not_or, decide_eq_false_iff_not]; exact ⟨by decide, this⟩
      simp only [xs_nil, xs_cons, evs, compF, x_asg, x_put, x_xpr, x_ret, x_cond, x_loop_seq, x_loop_enum, x_loop_rng, x_loop_zip, x_whl, x_raise, x_raiseN, x_tryx, x_tryr, x_pass, x_brk, x_cont, loopR_enum, loopR_tup, loopR_lst, ev_var, e_cst, e_bin, e_neg, e_cmp, e_chn, e_and, e_or, e_not, e_ite, e_tup, e_lst, e_new, e_dct, e_ix, e_sl, e_call, e_bi, e_mt, e_app, e_isi, e_comp_seq, e_comp_rng, e_comp_enum, e_comp_zip, e_xfld, bind_ok, bind_exc, to_ok, to_exc, opt_some, then_nx, then_rt, then_exc, d_val, d_new, tru_bl, tru_non, fin_bl, fin_int, fin_str, fin_non, fin_xnon, fin_xint, GK_call, GK_sub, GK_fld, GK_hot, List.map_cons, List.map_nil, List.cons_append, List.nil_append, List.replicate_succ, List.replicate_zero, Nat.sub_self, Nat.reduceSub, List.getElem?_cons_zero, List.getElem?_cons_succ, List.set_cons_zero, List.set_cons_succ, wipe, bindT, bindTs, List.length_cons, List.length_nil, Nat.reduceAdd, Nat.reduceLT, Nat.reduceLeDiff, Nat.zero_le, binW, binD, compL, stays_nil, decide_true, decide_false, LINE, Int.cast_ofNat_Int, Int.reduceLE, Int.reduceLT, Int.natCast_zero, Int.natCast_one, ixL_0, ixL_1, ixL_2, eqD_int, eqD_str, ixD_tup, ixD_lst, biD, boolsOf, lstOf, Option.bind_some, List.all_cons, List.all_nil, id, isx_non, isx_bl, isx_int, isx_str, isx_tup, isx_lst, isx_frz, isx_ref, isx_exn, String.reduceBEq, Bool.or_false, Bool.or_true, Bool.true_or, Bool.false_or, Bool.and_true, Bool.true_and, Bool.and_false, Bool.false_and, reduceIte, Bool.false_eq_true, Option.map_some, Option.map_none, Bool.not_true, Bool.not_false, e3, readR]
    | some cd =>
      obtain ⟨c, d⟩ := cd
      obtain ⟨rfl, h4⟩ := cutAt_some h3
      have e3 : decide (OUT ∈ IN :: (c ++ OUT :: d)) = true := by simp
      have hal : a.length ≤ LINE := by omega
      have e4 := index2_ws s (x := IN) (y := OUT) (p := a) (c := c) (d := d) (by decide) h4 hal
      simp only [List.map_append, List.sum_append, List.map_cons, List.sum_cons, List.length_append, List.length_cons, List.length_nil] at hsum
      have e5 : slD s (.lst (wsD (a ++ IN :: (c ++ OUT :: d)))) none (some ((a.length : Nat) : Int)) = some (.new (wsD a)) := by
        simp only [slD, cutL_to, wsD, ← List.map_take, List.take_left]
      have e6 := join_ws s 32 a (by omega)
      have hj := joinL_len 32 a
      have e7 : TL.spl [32] 0 [] (TL.joinL [32] a) = orE a := by
        unfold orE
        by_cases ha : a = []
        · subst ha; simp [TL.joinL, TL.spl_nil]
        · rw [if_neg ha]
          exact SX.spl_join ha fun p hp => hfree p (by simp [hp])
      have e8 := r_read_net k (TL.joinL [32] a) s (by omega)
      rw [e7, netR] at e8
      simp only [xs_nil, xs_cons, evs, compF, x_asg, x_put, x_xpr, x_ret, x_cond, x_loop_seq, x_loop_enum, x_loop_rng, x_loop_zip, x_whl, x_raise, x_raiseN, x_tryx, x_tryr, x_pass, x_brk, x_cont, loopR_enum, loopR_tup, loopR_lst, ev_var, e_cst, e_bin, e_neg, e_cmp, e_chn, e_and, e_or, e_not, e_ite, e_tup, e_lst, e_new, e_dct, e_ix, e_sl, e_call, e_bi, e_mt, e_app, e_isi, e_comp_seq, e_comp_rng, e_comp_enum, e_comp_zip, e_xfld, bind_ok, bind_exc, to_ok, to_exc, opt_some, then_nx, then_rt, then_exc, d_val, d_new, tru_bl, tru_non, fin_bl, fin_int, fin_str, fin_non, fin_xnon, fin_xint, GK_call, GK_sub, GK_fld, GK_hot, List.map_cons, List.map_nil, List.cons_append, List.nil_append, List.replicate_succ, List.replicate_zero, Nat.sub_self, Nat.reduceSub, List.getElem?_cons_zero, List.getElem?_cons_succ, List.set_cons_zero, List.set_cons_succ, wipe, bindT, bindTs, List.length_cons, List.length_nil, Nat.reduceAdd, Nat.reduceLT, Nat.reduceLeDiff, Nat.zero_le, binW, binD, compL, stays_nil, decide_true, decide_false, LINE, Int.cast_ofNat_Int, Int.reduceLE, Int.reduceLT, Int.natCast_zero, Int.natCast_one, ixL_0, ixL_1, ixL_2, eqD_int, eqD_str, ixD_tup, ixD_lst, biD, boolsOf, lstOf, Option.bind_some, List.all_cons, List.all_nil, id, isx_non, isx_bl, isx_int, isx_str, isx_tup, isx_lst, isx_frz, isx_ref, isx_exn, String.reduceBEq, Bool.or_false, Bool.or_true, Bool.true_or, Bool.false_or, Bool.and_true, Bool.true_and, Bool.and_false, Bool.false_and, reduceIte, Bool.false_eq_true, Option.map_some, Option.map_none, Bool.not_true, Bool.not_false, e3, Option.isSome_some, index_ws s h2, e4, e5, e6, e8]
      cases hn : netFault (netOf (orE a)) with
      | some p =>
        have : okP (pieceD a c d) = none := by simp only [okP, pieceD, pieceFault, hn]; rfl
        simp only [xs_nil, xs_cons, evs, compF, x_asg, x_put, x_xpr, x_ret, x_cond, x_loop_seq, x_loop_enum, x_loop_rng, x_loop_zip, x_whl, x_raise, x_raiseN, x_tryx, x_tryr, x_pass, x_brk, x_cont, loopR_enum, loopR_tup, loopR_lst, ev_var, e_cst, e_bin, e_neg, e_cmp, e_chn, e_and, e_or, e_not, e_ite, e_tup, e_lst, e_new, e_dct, e_ix, e_sl, e_call, e_bi, e_mt, e_app, e_isi, e_comp_seq, e_comp_rng, e_comp_enum, e_comp_zip, e_xfld, bind_ok, bind_exc, to_ok, to_exc, opt_some, then_nx, then_rt, then_exc, d_val, d_new, tru_bl, tru_non, fin_bl, fin_int, fin_str, fin_non, fin_xnon, fin_xint, GK_call, GK_sub, GK_fld, GK_hot, List.map_cons, List.map_nil, List.cons_append, List.nil_append, List.replicate_succ, List.replicate_zero, Nat.sub_self, Nat.reduceSub, List.getElem?_cons_zero, List.getElem?_cons_succ, List.set_cons_zero, List.set_cons_succ, wipe, bindT, bindTs, List.length_cons, List.length_nil, Nat.reduceAdd, Nat.reduceLT, Nat.reduceLeDiff, Nat.zero_le, binW, binD, compL, stays_nil, decide_true, decide_false, LINE, Int.cast_ofNat_Int, Int.reduceLE, Int.reduceLT, Int.natCast_zero, Int.natCast_one, ixL_0, ixL_1, ixL_2, eqD_int, eqD_str, ixD_tup, ixD_lst, biD, boolsOf, lstOf, Option.bind_some, List.all_cons, List.all_nil, id, isx_non, isx_bl, isx_int, isx_str, isx_tup, isx_lst, isx_frz, isx_ref, isx_exn, String.reduceBEq, Bool.or_false, Bool.or_true, Bool.true_or, Bool.false_or, Bool.and_true, Bool.true_and, Bool.and_false, Bool.false_and, reduceIte, Bool.false_eq_true, Option.map_some, Option.map_none, Bool.not_true, Bool.not_false, this, readR]
      | none =>
        have e9 : slD s (.lst (wsD (a ++ IN :: (c ++ OUT :: d)))) (some (((a.length : Nat) : Int) + 1)) (some (((a.length + 1 + c.length : Nat)) : Int)) = some (.new (wsD c)) := by
          have := cutL_ab (wsD (a ++ IN :: (c ++ OUT :: d))) (a.length + 1) (a.length + 1 + c.length) (by simp [wsD]; omega)
          simp only [slD]
          rw [show ((a.length : Nat) : Int) + 1 = ((a.length + 1 : Nat) : Int) by omega, this]
          simp only [wsD, ← List.map_drop, ← List.map_take]
          rw [show a ++ IN :: (c ++ OUT :: d) = (a ++ [IN]) ++ (c ++ OUT :: d) by simp, List.drop_left' (by simp), Nat.add_sub_cancel_left, List.take_left]
        have e10 : slD s (.lst (wsD (a ++ IN :: (c ++ OUT :: d)))) (some (((a.length + 1 + c.length : Nat) : Int) + 1)) none = some (.new (wsD d)) := by
          simp only [slD]
          rw [show ((a.length + 1 + c.length : Nat) : Int) + 1 = ((a.length + 1 + c.length + 1 : Nat) : Int) by omega, cutL_from]
          simp only [wsD, ← List.map_drop]
          rw [show a ++ IN :: (c ++ OUT :: d) = (a ++ [IN] ++ c ++ [OUT]) ++ d by simp, List.drop_left' (by simp; omega)]
        have hw : ∀ w ∈ c ++ d, w.length ≤ LINE := by
          intro w hw
          have h6 : w.length ≤ ((c ++ d).map List.length).sum := le_sum hw
          simp only [List.map_append, List.sum_append] at h6
          omega
        have D1 := r_read_doors (k + 3) c s (fun w h => hw w (by simp [h])) (by omega)
        have D2 := r_read_doors (k + 3) d s (fun w h => hw w (by simp [h])) (by omega)
        have P := r_need_piece k (pieceD a c d) s (pieceD_pln a c d)
        simp only [pieceD] at P
        have hx := D.pln_isx (netOf_pln (orE a))
        simp only [xs_nil, xs_cons, evs, compF, x_asg, x_put, x_xpr, x_ret, x_cond, x_loop_seq, x_loop_enum, x_loop_rng, x_loop_zip, x_whl, x_raise, x_raiseN, x_tryx, x_tryr, x_pass, x_brk, x_cont, loopR_enum, loopR_tup, loopR_lst, ev_var, e_cst, e_bin, e_neg, e_cmp, e_chn, e_and, e_or, e_not, e_ite, e_tup, e_lst, e_new, e_dct, e_ix, e_sl, e_call, e_bi, e_mt, e_app, e_isi, e_comp_seq, e_comp_rng, e_comp_enum, e_comp_zip, e_xfld, bind_ok, bind_exc, to_ok, to_exc, opt_some, then_nx, then_rt, then_exc, d_val, d_new, tru_bl, tru_non, fin_bl, fin_int, fin_str, fin_non, fin_xnon, fin_xint, GK_call, GK_sub, GK_fld, GK_hot, List.map_cons, List.map_nil, List.cons_append, List.nil_append, List.replicate_succ, List.replicate_zero, Nat.sub_self, Nat.reduceSub, List.getElem?_cons_zero, List.getElem?_cons_succ, List.set_cons_zero, List.set_cons_succ, wipe, bindT, bindTs, List.length_cons, List.length_nil, Nat.reduceAdd, Nat.reduceLT, Nat.reduceLeDiff, Nat.zero_le, binW, binD, compL, stays_nil, decide_true, decide_false, LINE, Int.cast_ofNat_Int, Int.reduceLE, Int.reduceLT, Int.natCast_zero, Int.natCast_one, ixL_0, ixL_1, ixL_2, eqD_int, eqD_str, ixD_tup, ixD_lst, biD, boolsOf, lstOf, Option.bind_some, List.all_cons, List.all_nil, id, isx_non, isx_bl, isx_int, isx_str, isx_tup, isx_lst, isx_frz, isx_ref, isx_exn, String.reduceBEq, Bool.or_false, Bool.or_true, Bool.true_or, Bool.false_or, Bool.and_true, Bool.true_and, Bool.and_false, Bool.false_and, reduceIte, Bool.false_eq_true, Option.map_some, Option.map_none, Bool.not_true, Bool.not_false, e9, D1, e10, D2, hx, P]
        cases hp : pieceFault (.tup [netOf (orE a), .tup (c.map numOf), .tup (d.map numOf)]) with
        | none =>
          have : okP (pieceD a c d) = some (pieceD a c d) := by simp only [okP, pieceD, hp]; rfl
          rw [this]
          simp only [xs_nil, xs_cons, evs, compF, x_asg, x_put, x_xpr, x_ret, x_cond, x_loop_seq, x_loop_enum, x_loop_rng, x_loop_zip, x_whl, x_raise, x_raiseN, x_tryx, x_tryr, x_pass, x_brk, x_cont, loopR_enum, loopR_tup, loopR_lst, ev_var, e_cst, e_bin, e_neg, e_cmp, e_chn, e_and, e_or, e_not, e_ite, e_tup, e_lst, e_new, e_dct, e_ix, e_sl, e_call, e_bi, e_mt, e_app, e_isi, e_comp_seq, e_comp_rng, e_comp_enum, e_comp_zip, e_xfld, bind_ok, bind_exc, to_ok, to_exc, opt_some, then_nx, then_rt, then_exc, d_val, d_new, tru_bl, tru_non, fin_bl, fin_int, fin_str, fin_non, fin_xnon, fin_xint, GK_call, GK_sub, GK_fld, GK_hot, List.map_cons, List.map_nil, List.cons_append, List.nil_append, List.replicate_succ, List.replicate_zero, Nat.sub_self, Nat.reduceSub, List.getElem?_cons_zero, List.getElem?_cons_succ, List.set_cons_zero, List.set_cons_succ, wipe, bindT, bindTs, List.length_cons, List.length_nil, Nat.reduceAdd, Nat.reduceLT, Nat.reduceLeDiff, Nat.zero_le, binW, binD, compL, stays_nil, decide_true, decide_false, LINE, Int.cast_ofNat_Int, Int.reduceLE, Int.reduceLT, Int.natCast_zero, Int.natCast_one, ixL_0, ixL_1, ixL_2, eqD_int, eqD_str, ixD_tup, ixD_lst, biD, boolsOf, lstOf, Option.bind_some, List.all_cons, List.all_nil, id, isx_non, isx_bl, isx_int, isx_str, isx_tup, isx_lst, isx_frz, isx_ref, isx_exn, String.reduceBEq, Bool.or_false, Bool.or_true, Bool.true_or, Bool.false_or, Bool.and_true, Bool.true_and, Bool.and_false, Bool.false_and, reduceIte, Bool.false_eq_true, Option.map_some, Option.map_none, Bool.not_true, Bool.not_false, resP, readR]
          exact fin_rt (pieceD_pln a c d)
        | some p =>
          obtain ⟨cl, p⟩ := p
          have h7 := pieceFault_cls hn hp
          subst h7
          have : okP (pieceD a c d) = none := by simp only [okP, pieceD, hp]; rfl
          rw [this]
          simp only [xs_nil, xs_cons, evs, compF, x_asg, x_put, x_xpr, x_ret, x_cond, x_loop_seq, x_loop_enum, x_loop_rng, x_loop_zip, x_whl, x_raise, x_raiseN, x_tryx, x_tryr, x_pass, x_brk, x_cont, loopR_enum, loopR_tup, loopR_lst, ev_var, e_cst, e_bin, e_neg, e_cmp, e_chn, e_and, e_or, e_not, e_ite, e_tup, e_lst, e_new, e_dct, e_ix, e_sl, e_call, e_bi, e_mt, e_app, e_isi, e_comp_seq, e_comp_rng, e_comp_enum, e_comp_zip, e_xfld, bind_ok, bind_exc, to_ok, to_exc, opt_some, then_nx, then_rt, then_exc, d_val, d_new, tru_bl, tru_non, fin_bl, fin_int, fin_str, fin_non, fin_xnon, fin_xint, GK_call, GK_sub, GK_fld, GK_hot, List.map_cons, List.map_nil, List.cons_append, List.nil_append, List.replicate_succ, List.replicate_zero, Nat.sub_self, Nat.reduceSub, List.getElem?_cons_zero, List.getElem?_cons_succ, List.set_cons_zero, List.set_cons_succ, wipe, bindT, bindTs, List.length_cons, List.length_nil, Nat.reduceAdd, Nat.reduceLT, Nat.reduceLeDiff, Nat.zero_le, binW, binD, compL, stays_nil, decide_true, decide_false, LINE, Int.cast_ofNat_Int, Int.reduceLE, Int.reduceLT, Int.natCast_zero, Int.natCast_one, ixL_0, ixL_1, ixL_2, eqD_int, eqD_str, ixD_tup, ixD_lst, biD, boolsOf, lstOf, Option.bind_some, List.all_cons, List.all_nil, id, isx_non, isx_bl, isx_int, isx_str, isx_tup, isx_lst, isx_frz, isx_ref, isx_exn, String.reduceBEq, Bool.or_false, Bool.or_true, Bool.true_or, Bool.false_or, Bool.and_true, Bool.true_and, Bool.and_false, Bool.false_and, reduceIte, Bool.false_eq_true, Option.map_some, Option.map_none, Bool.not_true, Bool.not_false, resP, readR, sub_11, hot_1, hot_2]

theorem r_read_piece_no (k : Nat) (d : D) (s : Store) (hx : d.isx = false) (hd : isiD s "str" d = some false) :
    Rn (k + 6) (14 : Nat) [d] s = .exc 2 .non s := by
  rw [Rn_at t_read_piece rfl, b_read_piece]
  have := inD_ws s IN []
  simp only [wsD, List.map_nil] at this
  simp only [xs_nil, xs_cons, evs, compF, x_asg, x_put, x_xpr, x_ret, x_cond, x_loop_seq, x_loop_enum, x_loop_rng, x_loop_zip, x_whl, x_raise, x_raiseN, x_tryx, x_tryr, x_pass, x_brk, x_cont, loopR_enum, loopR_tup, loopR_lst, ev_var, e_cst, e_bin, e_neg, e_cmp, e_chn, e_and, e_or, e_not, e_ite, e_tup, e_lst, e_new, e_dct, e_ix, e_sl, e_call, e_bi, e_mt, e_app, e_isi, e_comp_seq, e_comp_rng, e_comp_enum, e_comp_zip, e_xfld, bind_ok, bind_exc, to_ok, to_exc, opt_some, then_nx, then_rt, then_exc, d_val, d_new, tru_bl, tru_non, fin_bl, fin_int, fin_str, fin_non, fin_xnon, fin_xint, GK_call, GK_sub, GK_fld, GK_hot, List.map_cons, List.map_nil, List.cons_append, List.nil_append, List.replicate_succ, List.replicate_zero, Nat.sub_self, Nat.reduceSub, List.getElem?_cons_zero, List.getElem?_cons_succ, List.set_cons_zero, List.set_cons_succ, wipe, bindT, bindTs, List.length_cons, List.length_nil, Nat.reduceAdd, Nat.reduceLT, Nat.reduceLeDiff, Nat.zero_le, binW, binD, compL, stays_nil, decide_true, decide_false, LINE, Int.cast_ofNat_Int, Int.reduceLE, Int.reduceLT, Int.natCast_zero, Int.natCast_one, ixL_0, ixL_1, ixL_2, eqD_int, eqD_str, ixD_tup, ixD_lst, biD, boolsOf, lstOf, Option.bind_some, List.all_cons, List.all_nil, id, isx_non, isx_bl, isx_int, isx_str, isx_tup, isx_lst, isx_frz, isx_ref, isx_exn, String.reduceBEq, Bool.or_false, Bool.or_true, Bool.true_or, Bool.false_or, Bool.and_true, Bool.true_and, Bool.and_false, Bool.false_and, reduceIte, Bool.false_eq_true, Option.map_some, Option.map_none, Bool.not_true, Bool.not_false, hx, hd, in_S, cmpD, this, List.not_mem_nil]
end K82
end

section
set_option Elab.async false
set_option linter.all false
set_option maxRecDepth 100000
set_option maxHeartbeats 0
namespace K82
open DW
open PySem (Str)
theorem comp_ws {α : Type} {f : D → Store → R (Option D)} {h : List Nat → D} {s : Store} : ∀ ws : List (List Nat),
    (∀ w ∈ ws, f (.str (SX.S w)) s = .ok (some (h w)) s) → compL [] f (wsD ws) s = .ok (ws.map h) s
  | [], _ => rfl
  | w :: ws, hh => by
    rw [wsD, List.map_cons, compL, if_pos (stays_nil _), hh w (by simp)]
    show R.bind _ _ = _
    rw [← wsD, comp_ws (α := α) ws (fun x hx => hh x (by simp [hx])), bind_ok]; rfl
def lroadOf (w : List Nat) : Option D :=
  let ps := (TL.spl [62] 0 [] w).map numOf
  if ps.length = 2 then (if ps.any fun x => decide (x = .non) then none else some (.tup ps)) else none
theorem lroadOf_pln {w : List Nat} {t : D} (h : lroadOf w = some t) : t.pln = true := by
  simp only [lroadOf] at h
  split at h
  · split at h
    · cases h
    · cases h; exact tup_num _
  · cases h
def roadsOf : List (List Nat) → Option (List D)
  | [] => some []
  | w :: ws => match lroadOf w with
    | none => none
    | some t => (roadsOf ws).map (t :: ·)
theorem law_road_loop (k : Nat) (f : D → Env → Store → RS) (S : Store) (e0 e1 e2 e3 : D)
    (hf : f = bodyF (GK (k + 1)) none (.nm 5) (.cons (.asg (.nm 6) (.comp [10] (.nm 10) .seq (.cons (.mt .split (.var 5) (.cons (.cst (.str (">" : PySem.Str))) .nil)) .nil) (.cst (.bl true)) (.call (20 : Nat) (.cons (.var 10) .nil))))
  (.cons (.cond (.or (.cmp .ne (.bi .len (.cons (.var 6) .nil)) (.cst (.int (2)))) (.cmp .isin (.cst .non) (.var 6)))
  (.cons (.ret (.cst .non))
  .nil)
  .nil)
  (.cons (.xpr (.app (.var 4) (.bi .tuple (.cons (.var 6) .nil))))
  .nil)))) : ∀ (ws : List (List Nat)) (acc : List D) (u v : Option D), (∀ w ∈ ws, w.length + 2 ≤ LINE) → acc.length + ws.length ≤ LINE →
    match roadsOf ws with
    | some ts => ∃ u' v', forL [] f (wsD ws) [some e0, some e1, some e2, some e3, some (.ref S.length), u, v, none, none, none, none] (S ++ [.lst acc]) =
        .nx [some e0, some e1, some e2, some e3, some (.ref S.length), u', v', none, none, none, none] (S ++ [.lst (acc ++ ts)])
    | none => ∃ X, forL [] f (wsD ws) [some e0, some e1, some e2, some e3, some (.ref S.length), u, v, none, none, none, none] (S ++ [.lst acc]) = .rt .non (S ++ X)
  | [], acc, u, v, _, _ => ⟨u, v, by simp [wsD, forL, stays]⟩
  | w :: ws, acc, u, v, hw, hl => by
    have hw1 := hw w (by simp)
    have hl' : acc.length + ws.length + 1 ≤ LINE := by simpa [Nat.add_assoc] using hl
    have st : forL [] f (wsD (w :: ws)) [some e0, some e1, some e2, some e3, some (.ref S.length), u, v, none, none, none, none] (S ++ [.lst acc]) =
      match f (.str (SX.S w)) [some e0, some e1, some e2, some e3, some (.ref S.length), u, v, none, none, none, none] (S ++ [.lst acc]) with
      | .nx ρ' S' => forL [] f (wsD ws) ρ' S'
      | .ct ρ' S' => forL [] f (wsD ws) ρ' S'
      | .bk ρ' S' => .nx ρ' S'
      | r => r := by
      rw [wsD, List.map_cons, forL, if_pos (stays_nil _)] <;> rfl
    have M := split_mt (S ++ [.lst acc]) (b := [62]) (l := w) (by simp) (by decide) hw1
    have hlen : (wsD (TL.spl [62] 0 [] w)).length ≤ 16777216 := by
      have h := PyProof.Rows.split_le (SX.S w) (SX.S [62])
      rw [SX.split_S (by simp) (by decide), List.length_map, SX.S_len] at h
      simp only [wsD, List.length_map]
      exact Nat.le_trans h hw1
    have hwp : ∀ p ∈ TL.spl [62] 0 [] w, p.length ≤ LINE := fun p hp => by have := spl_short (by simp) (by decide) hp; omega
    have hn : ∀ x ∈ (TL.spl [62] 0 [] w).map numOf, numD x = true := by
      intro x hx; rw [List.mem_map] at hx; obtain ⟨w, _, rfl⟩ := hx; exact numOf_num w
    have hN := inD_non (S ++ [.lst acc]) hn
    have ef : f (.str (SX.S w)) [some e0, some e1, some e2, some e3, some (.ref S.length), u, v, none, none, none, none] (S ++ [.lst acc]) =
      match lroadOf w with
      | some t => .nx [some e0, some e1, some e2, some e3, some (.ref S.length), some (.str (SX.S w)), some (.lst ((TL.spl [62] 0 [] w).map numOf)), none, none, none, none] (S ++ [.lst (acc ++ [t])])
      | none => .rt .non (S ++ [.lst acc]) := by
      rw [hf, bodyF]
      have C := comp_ws (α := Unit) (f := compF (GK (k + 1)) none [10] (.nm 10) (.cst (.bl true)) (.call (20 : Nat) (.cons (.var 10) .nil)) [some e0, some e1, some e2, some e3, some (.ref S.length), some (.str (SX.S w)), v, none, none, none, none])
        (h := numOf) (s := S ++ [.lst acc]) (TL.spl [62] 0 [] w) (fun p hp => by simp only [xs_nil, xs_cons, evs, compF, x_asg, x_put, x_xpr, x_ret, x_cond, x_loop_seq, x_loop_enum, x_loop_rng, x_loop_zip, x_whl, x_raise, x_raiseN, x_tryx, x_tryr, x_pass, x_brk, x_cont, loopR_enum, loopR_tup, loopR_lst, ev_var, e_cst, e_bin, e_neg, e_cmp, e_chn, e_and, e_or, e_not, e_ite, e_tup, e_lst, e_new, e_dct, e_ix, e_sl, e_call, e_bi, e_mt, e_app, e_isi, e_comp_seq, e_comp_rng, e_comp_enum, e_comp_zip, e_xfld, bind_ok, bind_exc, to_ok, to_exc, opt_some, then_nx, then_rt, then_exc, d_val, d_new, tru_bl, tru_non, fin_bl, fin_int, fin_str, fin_non, fin_xnon, fin_xint, GK_call, GK_sub, GK_fld, GK_hot, List.map_cons, List.map_nil, List.cons_append, List.nil_append, List.replicate_succ, List.replicate_zero, Nat.sub_self, Nat.reduceSub, List.getElem?_cons_zero, List.getElem?_cons_succ, List.set_cons_zero, List.set_cons_succ, wipe, bindT, bindTs, List.length_cons, List.length_nil, Nat.reduceAdd, Nat.reduceLT, Nat.reduceLeDiff, Nat.zero_le, binW, binD, compL, stays_nil, decide_true, decide_false, LINE, Int.cast_ofNat_Int, Int.reduceLE, Int.reduceLT, Int.natCast_zero, Int.natCast_one, ixL_0, ixL_1, ixL_2, eqD_int, eqD_str, ixD_tup, ixD_lst, biD, boolsOf, lstOf, Option.bind_some, List.all_cons, List.all_nil, id, isx_non, isx_bl, isx_int, isx_str, isx_tup, isx_lst, isx_frz, isx_ref, isx_exn, String.reduceBEq, Bool.or_false, Bool.or_true, Bool.true_or, Bool.false_or, Bool.and_true, Bool.true_and, Bool.and_false, Bool.false_and, reduceIte, Bool.false_eq_true, Option.map_some, Option.map_none, Bool.not_true, Bool.not_false, r_law_figure k p _ (hwp p hp)])
      simp only [xs_nil, xs_cons, evs, compF, x_asg, x_put, x_xpr, x_ret, x_cond, x_loop_seq, x_loop_enum, x_loop_rng, x_loop_zip, x_whl, x_raise, x_raiseN, x_tryx, x_tryr, x_pass, x_brk, x_cont, loopR_enum, loopR_tup, loopR_lst, ev_var, e_cst, e_bin, e_neg, e_cmp, e_chn, e_and, e_or, e_not, e_ite, e_tup, e_lst, e_new, e_dct, e_ix, e_sl, e_call, e_bi, e_mt, e_app, e_isi, e_comp_seq, e_comp_rng, e_comp_enum, e_comp_zip, e_xfld, bind_ok, bind_exc, to_ok, to_exc, opt_some, then_nx, then_rt, then_exc, d_val, d_new, tru_bl, tru_non, fin_bl, fin_int, fin_str, fin_non, fin_xnon, fin_xint, GK_call, GK_sub, GK_fld, GK_hot, List.map_cons, List.map_nil, List.cons_append, List.nil_append, List.replicate_succ, List.replicate_zero, Nat.sub_self, Nat.reduceSub, List.getElem?_cons_zero, List.getElem?_cons_succ, List.set_cons_zero, List.set_cons_succ, wipe, bindT, bindTs, List.length_cons, List.length_nil, Nat.reduceAdd, Nat.reduceLT, Nat.reduceLeDiff, Nat.zero_le, binW, binD, compL, stays_nil, decide_true, decide_false, LINE, Int.cast_ofNat_Int, Int.reduceLE, Int.reduceLT, Int.natCast_zero, Int.natCast_one, ixL_0, ixL_1, ixL_2, eqD_int, eqD_str, ixD_tup, ixD_lst, biD, boolsOf, lstOf, Option.bind_some, List.all_cons, List.all_nil, id, isx_non, isx_bl, isx_int, isx_str, isx_tup, isx_lst, isx_frz, isx_ref, isx_exn, String.reduceBEq, Bool.or_false, Bool.or_true, Bool.true_or, Bool.false_or, Bool.and_true, Bool.true_and, Bool.and_false, Bool.false_and, reduceIte, Bool.false_eq_true, Option.map_some, Option.map_none, Bool.not_true, Bool.not_false, rcvOk, gt_S, M, itemsOf, srcOf, hlen, C, lenD, cmpD, hN]
      by_cases h2 : ((TL.spl [62] 0 [] w).map numOf).length = 2
      · have e2 : decide ((((TL.spl [62] 0 [] w).map numOf).length : Int) = 2) = true := by simp only [h2]; rfl
        cases h3 : ((TL.spl [62] 0 [] w).map numOf).any fun x => decide (x = .non)
        · have e : lroadOf w = some (.tup ((TL.spl [62] 0 [] w).map numOf)) := by simp only [lroadOf, h2, h3, if_true, Bool.false_eq_true, if_false]
          have hk : (acc.length < 16777216) = True := by have hL : LINE = 16777216 := rfl; simp; omega
          simp only [xs_nil, xs_cons, evs, compF, x_asg, x_put, x_xpr, x_ret, x_cond, x_loop_seq, x_loop_enum, x_loop_rng, x_loop_zip, x_whl, x_raise, x_raiseN, x_tryx, x_tryr, x_pass, x_brk, x_cont, loopR_enum, loopR_tup, loopR_lst, ev_var, e_cst, e_bin, e_neg, e_cmp, e_chn, e_and, e_or, e_not, e_ite, e_tup, e_lst, e_new, e_dct, e_ix, e_sl, e_call, e_bi, e_mt, e_app, e_isi, e_comp_seq, e_comp_rng, e_comp_enum, e_comp_zip, e_xfld, bind_ok, bind_exc, to_ok, to_exc, opt_some, then_nx, then_rt, then_exc, d_val, d_new, tru_bl, tru_non, fin_bl, fin_int, fin_str, fin_non, fin_xnon, fin_xint, GK_call, GK_sub, GK_fld, GK_hot, List.map_cons, List.map_nil, List.cons_append, List.nil_append, List.replicate_succ, List.replicate_zero, Nat.sub_self, Nat.reduceSub, List.getElem?_cons_zero, List.getElem?_cons_succ, List.set_cons_zero, List.set_cons_succ, wipe, bindT, bindTs, List.length_cons, List.length_nil, Nat.reduceAdd, Nat.reduceLT, Nat.reduceLeDiff, Nat.zero_le, binW, binD, compL, stays_nil, decide_true, decide_false, LINE, Int.cast_ofNat_Int, Int.reduceLE, Int.reduceLT, Int.natCast_zero, Int.natCast_one, ixL_0, ixL_1, ixL_2, eqD_int, eqD_str, ixD_tup, ixD_lst, biD, boolsOf, lstOf, Option.bind_some, List.all_cons, List.all_nil, id, isx_non, isx_bl, isx_int, isx_str, isx_tup, isx_lst, isx_frz, isx_ref, isx_exn, String.reduceBEq, Bool.or_false, Bool.or_true, Bool.true_or, Bool.false_or, Bool.and_true, Bool.true_and, Bool.and_false, Bool.false_and, reduceIte, Bool.false_eq_true, Option.map_some, Option.map_none, Bool.not_true, Bool.not_false, e2, h3, e, get_app, Option.isSome_some, hk, set_app, Bool.true_eq_false]
        · have e : lroadOf w = none := by simp only [lroadOf, h2, h3, if_true]
          simp only [xs_nil, xs_cons, evs, compF, x_asg, x_put, x_xpr, x_ret, x_cond, x_loop_seq, x_loop_enum, x_loop_rng, x_loop_zip, x_whl, x_raise, x_raiseN, x_tryx, x_tryr, x_pass, x_brk, x_cont, loopR_enum, loopR_tup, loopR_lst, ev_var, e_cst, e_bin, e_neg, e_cmp, e_chn, e_and, e_or, e_not, e_ite, e_tup, e_lst, e_new, e_dct, e_ix, e_sl, e_call, e_bi, e_mt, e_app, e_isi, e_comp_seq, e_comp_rng, e_comp_enum, e_comp_zip, e_xfld, bind_ok, bind_exc, to_ok, to_exc, opt_some, then_nx, then_rt, then_exc, d_val, d_new, tru_bl, tru_non, fin_bl, fin_int, fin_str, fin_non, fin_xnon, fin_xint, GK_call, GK_sub, GK_fld, GK_hot, List.map_cons, List.map_nil, List.cons_append, List.nil_append, List.replicate_succ, List.replicate_zero, Nat.sub_self, Nat.reduceSub, List.getElem?_cons_zero, List.getElem?_cons_succ, List.set_cons_zero, List.set_cons_succ, wipe, bindT, bindTs, List.length_cons, List.length_nil, Nat.reduceAdd, Nat.reduceLT, Nat.reduceLeDiff, Nat.zero_le, binW, binD, compL, stays_nil, decide_true, decide_false, LINE, Int.cast_ofNat_Int, Int.reduceLE, Int.reduceLT, Int.natCast_zero, Int.natCast_one, ixL_0, ixL_1, ixL_2, eqD_int, eqD_str, ixD_tup, ixD_lst, biD, boolsOf, lstOf, Option.bind_some, List.all_cons, List.all_nil, id, isx_non, isx_bl, isx_int, isx_str, isx_tup, isx_lst, isx_frz, isx_ref, isx_exn, String.reduceBEq, Bool.or_false, Bool.or_true, Bool.true_or, Bool.false_or, Bool.and_true, Bool.true_and, Bool.and_false, Bool.false_and, reduceIte, Bool.false_eq_true, Option.map_some, Option.map_none, Bool.not_true, Bool.not_false, e2, h3, e]
      · have e2 : decide ((((TL.spl [62] 0 [] w).map numOf).length : Int) = 2) = false := by
          rw [decide_eq_false_iff_not]; omega
        have e : lroadOf w = none := by simp only [lroadOf, h2, if_false]
        simp only [xs_nil, xs_cons, evs, compF, x_asg, x_put, x_xpr, x_ret, x_cond, x_loop_seq, x_loop_enum, x_loop_rng, x_loop_zip, x_whl, x_raise, x_raiseN, x_tryx, x_tryr, x_pass, x_brk, x_cont, loopR_enum, loopR_tup, loopR_lst, ev_var, e_cst, e_bin, e_neg, e_cmp, e_chn, e_and, e_or, e_not, e_ite, e_tup, e_lst, e_new, e_dct, e_ix, e_sl, e_call, e_bi, e_mt, e_app, e_isi, e_comp_seq, e_comp_rng, e_comp_enum, e_comp_zip, e_xfld, bind_ok, bind_exc, to_ok, to_exc, opt_some, then_nx, then_rt, then_exc, d_val, d_new, tru_bl, tru_non, fin_bl, fin_int, fin_str, fin_non, fin_xnon, fin_xint, GK_call, GK_sub, GK_fld, GK_hot, List.map_cons, List.map_nil, List.cons_append, List.nil_append, List.replicate_succ, List.replicate_zero, Nat.sub_self, Nat.reduceSub, List.getElem?_cons_zero, List.getElem?_cons_succ, List.set_cons_zero, List.set_cons_succ, wipe, bindT, bindTs, List.length_cons, List.length_nil, Nat.reduceAdd, Nat.reduceLT, Nat.reduceLeDiff, Nat.zero_le, binW, binD, compL, stays_nil, decide_true, decide_false, LINE, Int.cast_ofNat_Int, Int.reduceLE, Int.reduceLT, Int.natCast_zero, Int.natCast_one, ixL_0, ixL_1, ixL_2, eqD_int, eqD_str, ixD_tup, ixD_lst, biD, boolsOf, lstOf, Option.bind_some, List.all_cons, List.all_nil, id, isx_non, isx_bl, isx_int, isx_str, isx_tup, isx_lst, isx_frz, isx_ref, isx_exn, String.reduceBEq, Bool.or_false, Bool.or_true, Bool.true_or, Bool.false_or, Bool.and_true, Bool.true_and, Bool.and_false, Bool.false_and, reduceIte, Bool.false_eq_true, Option.map_some, Option.map_none, Bool.not_true, Bool.not_false, e2, e]
    rw [st, ef, roadsOf]
    cases h : lroadOf w with
    | none => exact ⟨_, rfl⟩
    | some t =>
      have ih := law_road_loop k f S e0 e1 e2 e3 hf ws (acc ++ [t]) (some (.str (SX.S w))) (some (.lst ((TL.spl [62] 0 [] w).map numOf))) (fun x hx => hw x (by simp [hx])) (by simp; omega)
      cases h4 : roadsOf ws with
      | none => simp only [h4] at ih; exact ih
      | some ts =>
        simp only [h4, List.append_assoc, List.cons_append, List.nil_append] at ih
        exact ih
theorem count_ws (s : Store) (x : List Nat) (ws : List (List Nat)) : mtD s .count (.lst (wsD ws)) [.str (SX.S x)] = some (.val (.int ((ws.count x : Nat) : Int))) := by
  simp only [mtD, lstOf, wsD_flat, flatD, Bool.true_and, if_true]
  congr 4
  induction ws with
  | nil => rfl
  | cons w ws ih =>
    rw [wsD, List.map_cons, List.countP_cons, ← wsD, ih, List.count_cons]
    simp only [deq, eq_S]
    by_cases e : w = x <;> simp [e]
def lpieceD (w : List Nat) (ts : List D) (c d : List (List Nat)) : D := .tup [.tup [numOf w, .tup ts], .tup (c.map numOf), .tup (d.map numOf)]
def lawP (ws : List (List Nat)) : Option D :=
  if ws.count IN = 1 ∧ ws.count OUT = 1 then (match cutAt IN ws with
    | none => none
    | some (a, b) => match cutAt OUT b with
      | none => none
      | some (c, d) => match a with
        | [] => none
        | w :: rs => match roadsOf rs with
          | none => none
          | some ts => okP (lpieceD w ts c d)) else none
def orN (o : Option D) : D := match o with
  | some p => p
  | none => .non
theorem roadsOf_pln : ∀ {rs : List (List Nat)} {ts : List D}, roadsOf rs = some ts → D.plns ts = true
  | [], ts, h => by simp [roadsOf] at h; subst h; rfl
  | w :: rs, ts, h => by
    rw [roadsOf] at h
    cases hw : lroadOf w with
    | none => rw [hw] at h; cases h
    | some t =>
      rw [hw] at h
      simp only [Option.map_eq_some_iff] at h
      obtain ⟨ts', h', rfl⟩ := h
      simp only [D.plns, lroadOf_pln hw, roadsOf_pln h', Bool.and_self]
theorem lpieceD_pln (w : List Nat) {ts : List D} (h : D.plns ts = true) (c d : List (List Nat)) : (lpieceD w ts c d).pln = true := by
  have h1 := tup_num c
  have h2 := tup_num d
  simp only [lpieceD, D.pln, D.plns, num_pln (numOf_num w), h, Bool.true_and, Bool.and_true] at *
  simp [h1, h2]
theorem cutAt_or {x : List Nat} (ws : List (List Nat)) : (∃ p q, cutAt x ws = some (p, q)) ∨ cutAt x ws = none := by
  cases h : cutAt x ws with
  | none => exact .inr rfl
  | some p => exact .inl ⟨_, _, rfl⟩
theorem lawF_non (o : Option (Nat × D)) (s : Store) : decide (lawF o = D.non) = o.isNone := by
  rcases o with _ | ⟨_ | c, p⟩ <;> simp [lawF]
theorem lawF_isx (o : Option (Nat × D)) : (lawF o).isx = false := by
  rcases o with _ | ⟨_ | c, p⟩ <;> rfl
theorem lawF_exn (o : Option (Nat × D)) : (∃ p, lawF o = .tup p) ∨ lawF o = .non := by
  rcases o with _ | ⟨_ | c, p⟩
  · exact .inr rfl
  · exact .inl ⟨_, rfl⟩
  · exact .inl ⟨_, rfl⟩
theorem cmp_is_non (s : Store) (o : Option (Nat × D)) : cmpD s .is (lawF o) .non = some o.isNone := by
  rcases o with _ | ⟨_ | c, p⟩ <;> simp [lawF, cmpD]
theorem okP_of {d : D} (h : pieceFault d = none) : okP d = some d := by simp [okP, h]
theorem r_law_read_piece (k : Nat) (l : List Nat) (s : Store) (hl : l.length + 6 ≤ LINE) :
    Rn (k + 4) (21 : Nat) [.str (SX.S l)] s = .ok (orN (lawP (TL.spl [32] 0 [] l))) s := by
  rw [Rn_at t_law_read_piece rfl, b_law_read_piece]
  have M := split_mt s (b := [32]) (l := l) (by simp) (by decide) (by omega)
  have hsum := spl_sum 32 l []
  simp only [xs_nil, xs_cons, evs, compF, x_asg, x_put, x_xpr, x_ret, x_cond, x_loop_seq, x_loop_enum, x_loop_rng, x_loop_zip, x_whl, x_raise, x_raiseN, x_tryx, x_tryr, x_pass, x_brk, x_cont, loopR_enum, loopR_tup, loopR_lst, ev_var, e_cst, e_bin, e_neg, e_cmp, e_chn, e_and, e_or, e_not, e_ite, e_tup, e_lst, e_new, e_dct, e_ix, e_sl, e_call, e_bi, e_mt, e_app, e_isi, e_comp_seq, e_comp_rng, e_comp_enum, e_comp_zip, e_xfld, bind_ok, bind_exc, to_ok, to_exc, opt_some, then_nx, then_rt, then_exc, d_val, d_new, tru_bl, tru_non, fin_bl, fin_int, fin_str, fin_non, fin_xnon, fin_xint, GK_call, GK_sub, GK_fld, GK_hot, List.map_cons, List.map_nil, List.cons_append, List.nil_append, List.replicate_succ, List.replicate_zero, Nat.sub_self, Nat.reduceSub, List.getElem?_cons_zero, List.getElem?_cons_succ, List.set_cons_zero, List.set_cons_succ, wipe, bindT, bindTs, List.length_cons, List.length_nil, Nat.reduceAdd, Nat.reduceLT, Nat.reduceLeDiff, Nat.zero_le, binW, binD, compL, stays_nil, decide_true, decide_false, LINE, Int.cast_ofNat_Int, Int.reduceLE, Int.reduceLT, Int.natCast_zero, Int.natCast_one, ixL_0, ixL_1, ixL_2, eqD_int, eqD_str, ixD_tup, ixD_lst, biD, boolsOf, lstOf, Option.bind_some, List.all_cons, List.all_nil, id, isx_non, isx_bl, isx_int, isx_str, isx_tup, isx_lst, isx_frz, isx_ref, isx_exn, String.reduceBEq, Bool.or_false, Bool.or_true, Bool.true_or, Bool.false_or, Bool.and_true, Bool.true_and, Bool.and_false, Bool.false_and, reduceIte, Bool.false_eq_true, Option.map_some, Option.map_none, Bool.not_true, Bool.not_false, isiD, rcvOk, lstOf, Option.isSome_some, sp_S, M, in_S, out_S, count_ws, cmpD]
  generalize TL.spl [32] 0 [] l = ws at *
  have eqi : ∀ x, decide (((ws.count x : Nat) : Int) = 1) = decide (ws.count x = 1) := by
    intro x
    by_cases h : ws.count x = 1
    · rw [h]; rfl
    · have : ¬ ((ws.count x : Nat) : Int) = 1 := by omega
      simp [h, this]
  by_cases h1 : ws.count IN = 1
  case neg =>
    have e : lawP ws = none := by simp only [lawP, h1, false_and, if_false]
    simp only [xs_nil, xs_cons, evs, compF, x_asg, x_put, x_xpr, x_ret, x_cond, x_loop_seq, x_loop_enum, x_loop_rng, x_loop_zip, x_whl, x_raise, x_raiseN, x_tryx, x_tryr, x_pass, x_brk, x_cont, loopR_enum, loopR_tup, loopR_lst, ev_var, e_cst, e_bin, e_neg, e_cmp, e_chn, e_and, e_or, e_not, e_ite, e_tup, e_lst, e_new, e_dct, e_ix, e_sl, e_call, e_bi, e_mt, e_app, e_isi, e_comp_seq, e_comp_rng, e_comp_enum, e_comp_zip, e_xfld, bind_ok, bind_exc, to_ok, to_exc, opt_some, then_nx, then_rt, then_exc, d_val, d_new, tru_bl, tru_non, fin_bl, fin_int, fin_str, fin_non, fin_xnon, fin_xint, GK_call, GK_sub, GK_fld, GK_hot, List.map_cons, List.map_nil, List.cons_append, List.nil_append, List.replicate_succ, List.replicate_zero, Nat.sub_self, Nat.reduceSub, List.getElem?_cons_zero, List.getElem?_cons_succ, List.set_cons_zero, List.set_cons_succ, wipe, bindT, bindTs, List.length_cons, List.length_nil, Nat.reduceAdd, Nat.reduceLT, Nat.reduceLeDiff, Nat.zero_le, binW, binD, compL, stays_nil, decide_true, decide_false, LINE, Int.cast_ofNat_Int, Int.reduceLE, Int.reduceLT, Int.natCast_zero, Int.natCast_one, ixL_0, ixL_1, ixL_2, eqD_int, eqD_str, ixD_tup, ixD_lst, biD, boolsOf, lstOf, Option.bind_some, List.all_cons, List.all_nil, id, isx_non, isx_bl, isx_int, isx_str, isx_tup, isx_lst, isx_frz, isx_ref, isx_exn, String.reduceBEq, Bool.or_false, Bool.or_true, Bool.true_or, Bool.false_or, Bool.and_true, Bool.true_and, Bool.and_false, Bool.false_and, reduceIte, Bool.false_eq_true, Option.map_some, Option.map_none, Bool.not_true, Bool.not_false, eqi, h1, e, orN]
  by_cases h2 : ws.count OUT = 1
  case neg =>
    have e : lawP ws = none := by simp only [lawP, h2, and_false, if_false]
    simp only [xs_nil, xs_cons, evs, compF, x_asg, x_put, x_xpr, x_ret, x_cond, x_loop_seq, x_loop_enum, x_loop_rng, x_loop_zip, x_whl, x_raise, x_raiseN, x_tryx, x_tryr, x_pass, x_brk, x_cont, loopR_enum, loopR_tup, loopR_lst, ev_var, e_cst, e_bin, e_neg, e_cmp, e_chn, e_and, e_or, e_not, e_ite, e_tup, e_lst, e_new, e_dct, e_ix, e_sl, e_call, e_bi, e_mt, e_app, e_isi, e_comp_seq, e_comp_rng, e_comp_enum, e_comp_zip, e_xfld, bind_ok, bind_exc, to_ok, to_exc, opt_some, then_nx, then_rt, then_exc, d_val, d_new, tru_bl, tru_non, fin_bl, fin_int, fin_str, fin_non, fin_xnon, fin_xint, GK_call, GK_sub, GK_fld, GK_hot, List.map_cons, List.map_nil, List.cons_append, List.nil_append, List.replicate_succ, List.replicate_zero, Nat.sub_self, Nat.reduceSub, List.getElem?_cons_zero, List.getElem?_cons_succ, List.set_cons_zero, List.set_cons_succ, wipe, bindT, bindTs, List.length_cons, List.length_nil, Nat.reduceAdd, Nat.reduceLT, Nat.reduceLeDiff, Nat.zero_le, binW, binD, compL, stays_nil, decide_true, decide_false, LINE, Int.cast_ofNat_Int, Int.reduceLE, Int.reduceLT, Int.natCast_zero, Int.natCast_one, ixL_0, ixL_1, ixL_2, eqD_int, eqD_str, ixD_tup, ixD_lst, biD, boolsOf, lstOf, Option.bind_some, List.all_cons, List.all_nil, id, isx_non, isx_bl, isx_int, isx_str, isx_tup, isx_lst, isx_frz, isx_ref, isx_exn, String.reduceBEq, Bool.or_false, Bool.or_true, Bool.true_or, Bool.false_or, Bool.and_true, Bool.true_and, Bool.and_false, Bool.false_and, reduceIte, Bool.false_eq_true, Option.map_some, Option.map_none, Bool.not_true, Bool.not_false, eqi, h1, h2, e, orN]
  rcases cutAt_or (x := IN) ws with ⟨a, b, hc⟩ | hc
  case inr =>
    have := List.count_eq_zero.mpr (cutAt_none hc)
    omega
  obtain ⟨hws, hia⟩ := cutAt_some hc
  have i1 : mtD s .index (.lst (wsD ws)) [.str (SX.S IN)] = some (.val (.int (a.length : Nat))) := by
    rw [hws]; exact index_ws s hia
  rcases cutAt_or (x := OUT) b with ⟨c, d, hd⟩ | hd
  case inr =>
    have hob := List.count_eq_zero.mpr (cutAt_none hd)
    have hoa : OUT ∈ a := by
      apply Decidable.byContradiction
      intro hn
      have := List.count_eq_zero.mpr hn
      rw [hws, List.count_append, List.count_cons, this, hob] at h2
      simp at h2
    have e : lawP ws = none := by simp only [lawP, h1, h2, and_self, if_true, hc, hd]
    rcases cutAt_or (x := OUT) a with ⟨p, q, hp⟩ | hp
    case inr => exact absurd hoa (cutAt_none hp)
    obtain ⟨ha, hop⟩ := cutAt_some hp
    have i2 : mtD s .index (.lst (wsD ws)) [.str (SX.S OUT)] = some (.val (.int (p.length : Nat))) := by
      have := index_ws s (x := OUT) (p := p) (q := q ++ IN :: b) hop
      rw [hws, ha]
      simpa only [List.append_assoc, List.cons_append] using this
    have ha' : a.length = p.length + (q.length + 1) := by rw [ha]; simp
    have q1 : decide (((a.length : Nat) : Int) = 0) = false := by simp only [decide_eq_false_iff_not]; omega
    have q2 : decide (((p.length : Nat) : Int) < ((a.length : Nat) : Int)) = true := by simp only [decide_eq_true_eq]; omega
    simp only [xs_nil, xs_cons, evs, compF, x_asg, x_put, x_xpr, x_ret, x_cond, x_loop_seq, x_loop_enum, x_loop_rng, x_loop_zip, x_whl, x_raise, x_raiseN, x_tryx, x_tryr, x_pass, x_brk, x_cont, loopR_enum, loopR_tup, loopR_lst, ev_var, e_cst, e_bin, e_neg, e_cmp, e_chn, e_and, e_or, e_not, e_ite, e_tup, e_lst, e_new, e_dct, e_ix, e_sl, e_call, e_bi, e_mt, e_app, e_isi, e_comp_seq, e_comp_rng, e_comp_enum, e_comp_zip, e_xfld, bind_ok, bind_exc, to_ok, to_exc, opt_some, then_nx, then_rt, then_exc, d_val, d_new, tru_bl, tru_non, fin_bl, fin_int, fin_str, fin_non, fin_xnon, fin_xint, GK_call, GK_sub, GK_fld, GK_hot, List.map_cons, List.map_nil, List.cons_append, List.nil_append, List.replicate_succ, List.replicate_zero, Nat.sub_self, Nat.reduceSub, List.getElem?_cons_zero, List.getElem?_cons_succ, List.set_cons_zero, List.set_cons_succ, wipe, bindT, bindTs, List.length_cons, List.length_nil, Nat.reduceAdd, Nat.reduceLT, Nat.reduceLeDiff, Nat.zero_le, binW, binD, compL, stays_nil, decide_true, decide_false, LINE, Int.cast_ofNat_Int, Int.reduceLE, Int.reduceLT, Int.natCast_zero, Int.natCast_one, ixL_0, ixL_1, ixL_2, eqD_int, eqD_str, ixD_tup, ixD_lst, biD, boolsOf, lstOf, Option.bind_some, List.all_cons, List.all_nil, id, isx_non, isx_bl, isx_int, isx_str, isx_tup, isx_lst, isx_frz, isx_ref, isx_exn, String.reduceBEq, Bool.or_false, Bool.or_true, Bool.true_or, Bool.false_or, Bool.and_true, Bool.true_and, Bool.and_false, Bool.false_and, reduceIte, Bool.false_eq_true, Option.map_some, Option.map_none, Bool.not_true, Bool.not_false, rcvOk, Option.isSome_some, sp_S, M, in_S, out_S, count_ws, cmpD, eqi, h1, h2, e, orN, i1, i2, q1, q2]
  obtain ⟨hb, hoc⟩ := cutAt_some hd
  rw [hb] at hws
  have hoa : OUT ∉ a ++ IN :: c := by
    intro hn
    have := List.count_pos_iff.mpr hn
    rw [hws, show a ++ IN :: (c ++ OUT :: d) = (a ++ IN :: c) ++ OUT :: d by simp, List.count_append, List.count_cons] at h2
    simp only [beq_self_eq_true, if_true] at h2; omega
  have hsum' := hsum
  rw [hws] at hsum'
  simp only [List.map_append, List.sum_append, List.map_cons, List.sum_cons, List.length_append, List.length_cons, List.length_nil] at hsum'
  have i2 : mtD s .index (.lst (wsD ws)) [.str (SX.S OUT)] = some (.val (.int ((a.length + 1 + c.length : Nat) : Int))) := by
    have := index_ws s (x := OUT) (p := a ++ IN :: c) (q := d) hoa
    rw [show a ++ IN :: c ++ OUT :: d = a ++ IN :: (c ++ OUT :: d) by simp] at this
    rw [hws, this]; simp; omega
  have q2 : decide (((a.length + 1 + c.length : Nat) : Int) < ((a.length : Nat) : Int)) = false := by simp only [decide_eq_false_iff_not]; omega
  rcases a with _ | ⟨w, rs⟩
  · have e : lawP ws = none := by simp only [lawP, h1, h2, and_self, if_true, hc, hd]
    have q1 : decide ((([] : List (List Nat)).length : Int) = 0) = true := by simp
    simp only [xs_nil, xs_cons, evs, compF, x_asg, x_put, x_xpr, x_ret, x_cond, x_loop_seq, x_loop_enum, x_loop_rng, x_loop_zip, x_whl, x_raise, x_raiseN, x_tryx, x_tryr, x_pass, x_brk, x_cont, loopR_enum, loopR_tup, loopR_lst, ev_var, e_cst, e_bin, e_neg, e_cmp, e_chn, e_and, e_or, e_not, e_ite, e_tup, e_lst, e_new, e_dct, e_ix, e_sl, e_call, e_bi, e_mt, e_app, e_isi, e_comp_seq, e_comp_rng, e_comp_enum, e_comp_zip, e_xfld, bind_ok, bind_exc, to_ok, to_exc, opt_some, then_nx, then_rt, then_exc, d_val, d_new, tru_bl, tru_non, fin_bl, fin_int, fin_str, fin_non, fin_xnon, fin_xint, GK_call, GK_sub, GK_fld, GK_hot, List.map_cons, List.map_nil, List.cons_append, List.nil_append, List.replicate_succ, List.replicate_zero, Nat.sub_self, Nat.reduceSub, List.getElem?_cons_zero, List.getElem?_cons_succ, List.set_cons_zero, List.set_cons_succ, wipe, bindT, bindTs, List.length_cons, List.length_nil, Nat.reduceAdd, Nat.reduceLT, Nat.reduceLeDiff, Nat.zero_le, binW, binD, compL, stays_nil, decide_true, decide_false, LINE, Int.cast_ofNat_Int, Int.reduceLE, Int.reduceLT, Int.natCast_zero, Int.natCast_one, ixL_0, ixL_1, ixL_2, eqD_int, eqD_str, ixD_tup, ixD_lst, biD, boolsOf, lstOf, Option.bind_some, List.all_cons, List.all_nil, id, isx_non, isx_bl, isx_int, isx_str, isx_tup, isx_lst, isx_frz, isx_ref, isx_exn, String.reduceBEq, Bool.or_false, Bool.or_true, Bool.true_or, Bool.false_or, Bool.and_true, Bool.true_and, Bool.and_false, Bool.false_and, reduceIte, Bool.false_eq_true, Option.map_some, Option.map_none, Bool.not_true, Bool.not_false, rcvOk, Option.isSome_some, sp_S, M, in_S, out_S, count_ws, cmpD, eqi, h1, h2, e, orN, i1, i2, q1, q2]
  obtain ⟨A, hA⟩ : ∃ A, (w :: rs).length = A := ⟨_, rfl⟩
  rw [hA] at i1 i2 q2
  have q1 : decide (((A : Nat) : Int) = 0) = false := by rw [← hA]; simp only [List.length_cons, decide_eq_false_iff_not]; omega
  have w1 : ∀ s, slD s (.lst (wsD ws)) (some 1) (some ((A : Nat) : Int)) = some (.new (wsD rs)) := by
    intro s
    rw [← hA]
    have := cutL_ab (wsD ws) 1 (w :: rs).length (by rw [hws]; simp [wsD])
    simp only [slD]
    rw [show (1 : Int) = ((1 : Nat) : Int) by rfl, this, hws]
    simp only [wsD, ← List.map_drop, ← List.map_take]
    simp
  have w2 : ∀ s, slD s (.lst (wsD ws)) (some (((A : Nat) : Int) + 1)) (some (((A + 1 + c.length : Nat)) : Int)) = some (.new (wsD c)) := by
    intro s
    rw [← hA]
    have := cutL_ab (wsD ws) ((w :: rs).length + 1) ((w :: rs).length + 1 + c.length) (by rw [hws]; simp [wsD]; omega)
    simp only [slD]
    rw [show (((w :: rs).length : Nat) : Int) + 1 = (((w :: rs).length + 1 : Nat) : Int) by omega, this, hws]
    simp only [wsD, ← List.map_drop, ← List.map_take]
    rw [show (w :: rs) ++ IN :: (c ++ OUT :: d) = ((w :: rs) ++ [IN]) ++ (c ++ OUT :: d) by simp, List.drop_left' (by simp), Nat.add_sub_cancel_left, List.take_left]
  have w3 : ∀ s, slD s (.lst (wsD ws)) (some (((A + 1 + c.length : Nat) : Int) + 1)) none = some (.new (wsD d)) := by
    intro s
    rw [← hA]
    simp only [slD]
    rw [show (((w :: rs).length + 1 + c.length : Nat) : Int) + 1 = (((w :: rs).length + 1 + c.length + 1 : Nat) : Int) by omega, cutL_from, hws]
    simp only [wsD, ← List.map_drop]
    rw [show (w :: rs) ++ IN :: (c ++ OUT :: d) = ((w :: rs) ++ [IN] ++ c ++ [OUT]) ++ d by simp, List.drop_left' (by simp; omega)]
  have hall : ∀ x ∈ ws, x.length + 2 ≤ LINE := by
    intro x hx
    have h6 := le_sum hx
    simp only [List.length_nil] at hsum
    omega
  have hin : ∀ x, x ∈ (w :: rs) ∨ x ∈ c ∨ x ∈ d → x ∈ ws := by
    intro x hx; rw [hws]; simp only [List.mem_append, List.mem_cons] at *
    rcases hx with hx | hx | hx
    · exact .inl hx
    · exact .inr (.inr (.inl hx))
    · exact .inr (.inr (.inr (.inr hx)))
  have L := law_road_loop (k + 2) _ s (.str (SX.S l)) (.lst (wsD ws)) (.int (A : Nat)) (.int (A + 1 + c.length : Nat)) rfl rs [] none none
    (fun x hx => hall x (hin x (by simp [hx]))) (by simp at hsum' ⊢; omega)
  simp only [xs_nil, xs_cons, evs, compF, x_asg, x_put, x_xpr, x_ret, x_cond, x_loop_seq, x_loop_enum, x_loop_rng, x_loop_zip, x_whl, x_raise, x_raiseN, x_tryx, x_tryr, x_pass, x_brk, x_cont, loopR_enum, loopR_tup, loopR_lst, ev_var, e_cst, e_bin, e_neg, e_cmp, e_chn, e_and, e_or, e_not, e_ite, e_tup, e_lst, e_new, e_dct, e_ix, e_sl, e_call, e_bi, e_mt, e_app, e_isi, e_comp_seq, e_comp_rng, e_comp_enum, e_comp_zip, e_xfld, bind_ok, bind_exc, to_ok, to_exc, opt_some, then_nx, then_rt, then_exc, d_val, d_new, tru_bl, tru_non, fin_bl, fin_int, fin_str, fin_non, fin_xnon, fin_xint, GK_call, GK_sub, GK_fld, GK_hot, List.map_cons, List.map_nil, List.cons_append, List.nil_append, List.replicate_succ, List.replicate_zero, Nat.sub_self, Nat.reduceSub, List.getElem?_cons_zero, List.getElem?_cons_succ, List.set_cons_zero, List.set_cons_succ, wipe, bindT, bindTs, List.length_cons, List.length_nil, Nat.reduceAdd, Nat.reduceLT, Nat.reduceLeDiff, Nat.zero_le, binW, binD, compL, stays_nil, decide_true, decide_false, LINE, Int.cast_ofNat_Int, Int.reduceLE, Int.reduceLT, Int.natCast_zero, Int.natCast_one, ixL_0, ixL_1, ixL_2, eqD_int, eqD_str, ixD_tup, ixD_lst, biD, boolsOf, lstOf, Option.bind_some, List.all_cons, List.all_nil, id, isx_non, isx_bl, isx_int, isx_str, isx_tup, isx_lst, isx_frz, isx_ref, isx_exn, String.reduceBEq, Bool.or_false, Bool.or_true, Bool.true_or, Bool.false_or, Bool.and_true, Bool.true_and, Bool.and_false, Bool.false_and, reduceIte, Bool.false_eq_true, Option.map_some, Option.map_none, Bool.not_true, Bool.not_false, rcvOk, Option.isSome_some, sp_S, M, in_S, out_S, count_ws, cmpD, eqi, h1, h2, orN, i1, i2, q1, q2]
  simp only [xs_nil, xs_cons, evs, compF, x_asg, x_put, x_xpr, x_ret, x_cond, x_loop_seq, x_loop_enum, x_loop_rng, x_loop_zip, x_whl, x_raise, x_raiseN, x_tryx, x_tryr, x_pass, x_brk, x_cont, loopR_enum, loopR_tup, loopR_lst, ev_var, e_cst, e_bin, e_neg, e_cmp, e_chn, e_and, e_or, e_not, e_ite, e_tup, e_lst, e_new, e_dct, e_ix, e_sl, e_call, e_bi, e_mt, e_app, e_isi, e_comp_seq, e_comp_rng, e_comp_enum, e_comp_zip, e_xfld, bind_ok, bind_exc, to_ok, to_exc, opt_some, then_nx, then_rt, then_exc, d_val, d_new, tru_bl, tru_non, fin_bl, fin_int, fin_str, fin_non, fin_xnon, fin_xint, GK_call, GK_sub, GK_fld, GK_hot, List.map_cons, List.map_nil, List.cons_append, List.nil_append, List.replicate_succ, List.replicate_zero, Nat.sub_self, Nat.reduceSub, List.getElem?_cons_zero, List.getElem?_cons_succ, List.set_cons_zero, List.set_cons_succ, wipe, bindT, bindTs, List.length_cons, List.length_nil, Nat.reduceAdd, Nat.reduceLT, Nat.reduceLeDiff, Nat.zero_le, binW, binD, compL, stays_nil, decide_true, decide_false, LINE, Int.cast_ofNat_Int, Int.reduceLE, Int.reduceLT, Int.natCast_zero, Int.natCast_one, ixL_0, ixL_1, ixL_2, eqD_int, eqD_str, ixD_tup, ixD_lst, biD, boolsOf, lstOf, Option.bind_some, List.all_cons, List.all_nil, id, isx_non, isx_bl, isx_int, isx_str, isx_tup, isx_lst, isx_frz, isx_ref, isx_exn, String.reduceBEq, Bool.or_false, Bool.or_true, Bool.true_or, Bool.false_or, Bool.and_true, Bool.true_and, Bool.and_false, Bool.false_and, reduceIte, Bool.false_eq_true, Option.map_some, Option.map_none, Bool.not_true, Bool.not_false, noPart, partOf, w1, itemsOf, srcOf]
  cases hrs : roadsOf rs with
  | none =>
    have e : lawP ws = none := by simp only [lawP, h1, h2, and_self, if_true, hc, hd, hrs]
    simp only [hrs] at L
    obtain ⟨X, L⟩ := L
    simp only [xs_nil, xs_cons, evs, compF, x_asg, x_put, x_xpr, x_ret, x_cond, x_loop_seq, x_loop_enum, x_loop_rng, x_loop_zip, x_whl, x_raise, x_raiseN, x_tryx, x_tryr, x_pass, x_brk, x_cont, loopR_enum, loopR_tup, loopR_lst, ev_var, e_cst, e_bin, e_neg, e_cmp, e_chn, e_and, e_or, e_not, e_ite, e_tup, e_lst, e_new, e_dct, e_ix, e_sl, e_call, e_bi, e_mt, e_app, e_isi, e_comp_seq, e_comp_rng, e_comp_enum, e_comp_zip, e_xfld, bind_ok, bind_exc, to_ok, to_exc, opt_some, then_nx, then_rt, then_exc, d_val, d_new, tru_bl, tru_non, fin_bl, fin_int, fin_str, fin_non, fin_xnon, fin_xint, GK_call, GK_sub, GK_fld, GK_hot, List.map_cons, List.map_nil, List.cons_append, List.nil_append, List.replicate_succ, List.replicate_zero, Nat.sub_self, Nat.reduceSub, List.getElem?_cons_zero, List.getElem?_cons_succ, List.set_cons_zero, List.set_cons_succ, wipe, bindT, bindTs, List.length_cons, List.length_nil, Nat.reduceAdd, Nat.reduceLT, Nat.reduceLeDiff, Nat.zero_le, binW, binD, compL, stays_nil, decide_true, decide_false, LINE, Int.cast_ofNat_Int, Int.reduceLE, Int.reduceLT, Int.natCast_zero, Int.natCast_one, ixL_0, ixL_1, ixL_2, eqD_int, eqD_str, ixD_tup, ixD_lst, biD, boolsOf, lstOf, Option.bind_some, List.all_cons, List.all_nil, id, isx_non, isx_bl, isx_int, isx_str, isx_tup, isx_lst, isx_frz, isx_ref, isx_exn, String.reduceBEq, Bool.or_false, Bool.or_true, Bool.true_or, Bool.false_or, Bool.and_true, Bool.true_and, Bool.and_false, Bool.false_and, reduceIte, Bool.false_eq_true, Option.map_some, Option.map_none, Bool.not_true, Bool.not_false, L, e]
    exact fin_rt_app (d := .non) rfl
  | some ts =>
    have e : lawP ws = okP (lpieceD w ts c d) := by simp only [lawP, h1, h2, and_self, if_true, hc, hd, hrs]
    simp only [hrs, List.nil_append] at L
    obtain ⟨u, v, L⟩ := L
    have C : ∀ ws' : List (List Nat), (∀ x ∈ ws', x.length ≤ LINE) → compL [] (compF (GK (k + 3)) none [5] (.nm 5) (.cst (.bl true)) (.call (20 : Nat) (.cons (.var 5) .nil))
        [some (.str (SX.S l)), some (.lst (wsD ws)), some (.int (A : Nat)), some (.int (A + 1 + c.length : Nat)), some (.ref s.length), u, v, none, none, none, none]) (wsD ws') (s ++ [.lst ts]) = .ok (ws'.map numOf) (s ++ [.lst ts]) := by
      intro ws' h'
      exact comp_ws (α := Unit) ws' (fun p hp => by simp only [xs_nil, xs_cons, evs, compF, x_asg, x_put, x_xpr, x_ret, x_cond, x_loop_seq, x_loop_enum, x_loop_rng, x_loop_zip, x_whl, x_raise, x_raiseN, x_tryx, x_tryr, x_pass, x_brk, x_cont, loopR_enum, loopR_tup, loopR_lst, ev_var, e_cst, e_bin, e_neg, e_cmp, e_chn, e_and, e_or, e_not, e_ite, e_tup, e_lst, e_new, e_dct, e_ix, e_sl, e_call, e_bi, e_mt, e_app, e_isi, e_comp_seq, e_comp_rng, e_comp_enum, e_comp_zip, e_xfld, bind_ok, bind_exc, to_ok, to_exc, opt_some, then_nx, then_rt, then_exc, d_val, d_new, tru_bl, tru_non, fin_bl, fin_int, fin_str, fin_non, fin_xnon, fin_xint, GK_call, GK_sub, GK_fld, GK_hot, List.map_cons, List.map_nil, List.cons_append, List.nil_append, List.replicate_succ, List.replicate_zero, Nat.sub_self, Nat.reduceSub, List.getElem?_cons_zero, List.getElem?_cons_succ, List.set_cons_zero, List.set_cons_succ, wipe, bindT, bindTs, List.length_cons, List.length_nil, Nat.reduceAdd, Nat.reduceLT, Nat.reduceLeDiff, Nat.zero_le, binW, binD, compL, stays_nil, decide_true, decide_false, LINE, Int.cast_ofNat_Int, Int.reduceLE, Int.reduceLT, Int.natCast_zero, Int.natCast_one, ixL_0, ixL_1, ixL_2, eqD_int, eqD_str, ixD_tup, ixD_lst, biD, boolsOf, lstOf, Option.bind_some, List.all_cons, List.all_nil, id, isx_non, isx_bl, isx_int, isx_str, isx_tup, isx_lst, isx_frz, isx_ref, isx_exn, String.reduceBEq, Bool.or_false, Bool.or_true, Bool.true_or, Bool.false_or, Bool.and_true, Bool.true_and, Bool.and_false, Bool.false_and, reduceIte, Bool.false_eq_true, Option.map_some, Option.map_none, Bool.not_true, Bool.not_false, r_law_figure (k + 2) p _ (h' p hp)])
    have hcl : c.length ≤ 16777216 := by have hL : LINE = 16777216 := rfl; omega
    have hdl : d.length ≤ 16777216 := by have hL : LINE = 16777216 := rfl; omega
    have hC := C c (fun x hx => by have := hall x (hin x (by simp [hx])); omega)
    have hD := C d (fun x hx => by have := hall x (hin x (by simp [hx])); omega)
    have hw0 : ixL (wsD ws) (.int 0) = some (.str (SX.S w)) := by
      rw [hws, wsD, List.cons_append, List.map_cons, ixL_0]
    have F := r_law_figure (k + 2) w (s ++ [.lst ts]) (by have := hall w (hin w (by simp)); omega)
    have hp := lpieceD_pln w (roadsOf_pln hrs) c d
    have P := r_law_piece_fault k (lpieceD w ts c d) (s ++ [.lst ts]) hp
    have hwl : ∀ x : List (List Nat), (wsD x).length = x.length := by intro x; simp [wsD]
    simp only [lpieceD] at P
    simp only [xs_nil, xs_cons, evs, compF, x_asg, x_put, x_xpr, x_ret, x_cond, x_loop_seq, x_loop_enum, x_loop_rng, x_loop_zip, x_whl, x_raise, x_raiseN, x_tryx, x_tryr, x_pass, x_brk, x_cont, loopR_enum, loopR_tup, loopR_lst, ev_var, e_cst, e_bin, e_neg, e_cmp, e_chn, e_and, e_or, e_not, e_ite, e_tup, e_lst, e_new, e_dct, e_ix, e_sl, e_call, e_bi, e_mt, e_app, e_isi, e_comp_seq, e_comp_rng, e_comp_enum, e_comp_zip, e_xfld, bind_ok, bind_exc, to_ok, to_exc, opt_some, then_nx, then_rt, then_exc, d_val, d_new, tru_bl, tru_non, fin_bl, fin_int, fin_str, fin_non, fin_xnon, fin_xint, GK_call, GK_sub, GK_fld, GK_hot, List.map_cons, List.map_nil, List.cons_append, List.nil_append, List.replicate_succ, List.replicate_zero, Nat.sub_self, Nat.reduceSub, List.getElem?_cons_zero, List.getElem?_cons_succ, List.set_cons_zero, List.set_cons_succ, wipe, bindT, bindTs, List.length_cons, List.length_nil, Nat.reduceAdd, Nat.reduceLT, Nat.reduceLeDiff, Nat.zero_le, binW, binD, compL, stays_nil, decide_true, decide_false, LINE, Int.cast_ofNat_Int, Int.reduceLE, Int.reduceLT, Int.natCast_zero, Int.natCast_one, ixL_0, ixL_1, ixL_2, eqD_int, eqD_str, ixD_tup, ixD_lst, biD, boolsOf, lstOf, Option.bind_some, List.all_cons, List.all_nil, id, isx_non, isx_bl, isx_int, isx_str, isx_tup, isx_lst, isx_frz, isx_ref, isx_exn, String.reduceBEq, Bool.or_false, Bool.or_true, Bool.true_or, Bool.false_or, Bool.and_true, Bool.true_and, Bool.and_false, Bool.false_and, reduceIte, Bool.false_eq_true, Option.map_some, Option.map_none, Bool.not_true, Bool.not_false, L, w2, w3, noPart, partOf, itemsOf, srcOf, hwl, hcl, hdl, hC, hD, hw0, F, get_app, P, cmp_is_non, e]
    cases hpf : pieceFault (lpieceD w ts c d) with
    | none =>
      rw [okP_of hpf]
      simp only [lpieceD] at hpf
      simp only [xs_nil, xs_cons, evs, compF, x_asg, x_put, x_xpr, x_ret, x_cond, x_loop_seq, x_loop_enum, x_loop_rng, x_loop_zip, x_whl, x_raise, x_raiseN, x_tryx, x_tryr, x_pass, x_brk, x_cont, loopR_enum, loopR_tup, loopR_lst, ev_var, e_cst, e_bin, e_neg, e_cmp, e_chn, e_and, e_or, e_not, e_ite, e_tup, e_lst, e_new, e_dct, e_ix, e_sl, e_call, e_bi, e_mt, e_app, e_isi, e_comp_seq, e_comp_rng, e_comp_enum, e_comp_zip, e_xfld, bind_ok, bind_exc, to_ok, to_exc, opt_some, then_nx, then_rt, then_exc, d_val, d_new, tru_bl, tru_non, fin_bl, fin_int, fin_str, fin_non, fin_xnon, fin_xint, GK_call, GK_sub, GK_fld, GK_hot, List.map_cons, List.map_nil, List.cons_append, List.nil_append, List.replicate_succ, List.replicate_zero, Nat.sub_self, Nat.reduceSub, List.getElem?_cons_zero, List.getElem?_cons_succ, List.set_cons_zero, List.set_cons_succ, wipe, bindT, bindTs, List.length_cons, List.length_nil, Nat.reduceAdd, Nat.reduceLT, Nat.reduceLeDiff, Nat.zero_le, binW, binD, compL, stays_nil, decide_true, decide_false, LINE, Int.cast_ofNat_Int, Int.reduceLE, Int.reduceLT, Int.natCast_zero, Int.natCast_one, ixL_0, ixL_1, ixL_2, eqD_int, eqD_str, ixD_tup, ixD_lst, biD, boolsOf, lstOf, Option.bind_some, List.all_cons, List.all_nil, id, isx_non, isx_bl, isx_int, isx_str, isx_tup, isx_lst, isx_frz, isx_ref, isx_exn, String.reduceBEq, Bool.or_false, Bool.or_true, Bool.true_or, Bool.false_or, Bool.and_true, Bool.true_and, Bool.and_false, Bool.false_and, reduceIte, Bool.false_eq_true, Option.map_some, Option.map_none, Bool.not_true, Bool.not_false, hpf, Option.isNone_none]
      exact fin_rt_app hp
    | some q =>
      have : okP (lpieceD w ts c d) = none := by simp only [okP, hpf]; rfl
      rw [this]
      simp only [lpieceD] at hpf
      have hq : ∃ p', lawF (some q) = .tup p' := by rcases q with ⟨_ | cl, p'⟩ <;> exact ⟨_, rfl⟩
      obtain ⟨p', hq⟩ := hq
      simp only [xs_nil, xs_cons, evs, compF, x_asg, x_put, x_xpr, x_ret, x_cond, x_loop_seq, x_loop_enum, x_loop_rng, x_loop_zip, x_whl, x_raise, x_raiseN, x_tryx, x_tryr, x_pass, x_brk, x_cont, loopR_enum, loopR_tup, loopR_lst, ev_var, e_cst, e_bin, e_neg, e_cmp, e_chn, e_and, e_or, e_not, e_ite, e_tup, e_lst, e_new, e_dct, e_ix, e_sl, e_call, e_bi, e_mt, e_app, e_isi, e_comp_seq, e_comp_rng, e_comp_enum, e_comp_zip, e_xfld, bind_ok, bind_exc, to_ok, to_exc, opt_some, then_nx, then_rt, then_exc, d_val, d_new, tru_bl, tru_non, fin_bl, fin_int, fin_str, fin_non, fin_xnon, fin_xint, GK_call, GK_sub, GK_fld, GK_hot, List.map_cons, List.map_nil, List.cons_append, List.nil_append, List.replicate_succ, List.replicate_zero, Nat.sub_self, Nat.reduceSub, List.getElem?_cons_zero, List.getElem?_cons_succ, List.set_cons_zero, List.set_cons_succ, wipe, bindT, bindTs, List.length_cons, List.length_nil, Nat.reduceAdd, Nat.reduceLT, Nat.reduceLeDiff, Nat.zero_le, binW, binD, compL, stays_nil, decide_true, decide_false, LINE, Int.cast_ofNat_Int, Int.reduceLE, Int.reduceLT, Int.natCast_zero, Int.natCast_one, ixL_0, ixL_1, ixL_2, eqD_int, eqD_str, ixD_tup, ixD_lst, biD, boolsOf, lstOf, Option.bind_some, List.all_cons, List.all_nil, id, isx_non, isx_bl, isx_int, isx_str, isx_tup, isx_lst, isx_frz, isx_ref, isx_exn, String.reduceBEq, Bool.or_false, Bool.or_true, Bool.true_or, Bool.false_or, Bool.and_true, Bool.true_and, Bool.and_false, Bool.false_and, reduceIte, Bool.false_eq_true, Option.map_some, Option.map_none, Bool.not_true, Bool.not_false, hpf, hq, reduceCtorEq]
      exact fin_rt_app (d := .non) rfl
end K82
end

section
set_option Elab.async false
set_option linter.all false
set_option maxRecDepth 100000
set_option maxHeartbeats 0
namespace K82
open DW
open PySem (Str)
theorem fold_ge : ∀ (r : List Nat) (a : Nat), a ≤ r.foldl (fun acc c => acc * 10 + (c - 48)) a
  | [], a => Nat.le_refl _
  | c :: r, a => Nat.le_trans (by omega) (fold_ge r (a * 10 + (c - 48)))
theorem numOf_int {l : List Nat} {v : Int} (h : numOf l = .int v) : numOk l = true ∧ vl l = v := by
  unfold numOf at h
  split at h
  · split at h
    · cases h; exact ⟨by assumption, rfl⟩
    · cases h
  · cases h
theorem fig_num {l : List Nat} {v : Int} (h : figOf l = .int v) : numOf l = .int v := by
  unfold figOf at h
  split at h
  · exact h
  · cases h
theorem num_fig {l : List Nat} {v : Int} (h : numOf l = .int v) (hv : v ≤ 99) : figOf l = .int v := by
  obtain ⟨h1, h2⟩ := numOf_int h
  unfold figOf
  rw [if_pos]
  · exact h
  · rcases l with _ | ⟨a, _ | ⟨b, _ | ⟨c, r⟩⟩⟩
    · simp
    · simp
    · simp
    · exfalso
      simp [numOk, isDig] at h1
      have h3 : ((PySem.NumText.digitsVal (a :: b :: c :: r) : Nat) : Int) = v := h2
      have h4 : ((0 * 10 + (a - 48)) * 10 + (b - 48)) * 10 + (c - 48) ≤ PySem.NumText.digitsVal (a :: b :: c :: r) := fold_ge r _
      omega
theorem num_IN : numOf IN = .non := by decide +kernel
theorem num_OUT : numOf OUT = .non := by decide +kernel
theorem fig_OUT : figOf OUT = .non := by decide +kernel
theorem fig_nil : figOf [] = .non := by decide +kernel
theorem road_OUT : roadOf OUT = .non := by decide +kernel
theorem isRoad_of {n : Int} {d : D} (h : isRoad n d = true) : ∃ i j, d = .tup [.int i, .int j] ∧ i < n ∧ j < n := by
  obtain ⟨i, j, e, _, h1, _, h2, _⟩ := isRoad_ints h
  exact ⟨i, j, e, h1, h2⟩
theorem road_l {n : Int} {r : List Nat} (h : isRoad n (roadOf r) = true) : lroadOf r = some (roadOf r) := by
  obtain ⟨i, j, e, _, _⟩ := isRoad_of h
  have hr := e
  simp only [roadOf] at hr
  split at hr
  · rename_i hl
    split at hr
    · cases hr
    · rename_i hn
      generalize hsp : TL.spl [62] 0 [] r = ws at *
      rcases ws with _ | ⟨x, _ | ⟨y, _ | ⟨z, ws⟩⟩⟩ <;> simp at hl
      · simp only [List.map_cons, List.map_nil, D.tup.injEq, List.cons.injEq, and_true] at hr
        have hx := fig_num hr.1
        have hy := fig_num hr.2
        rw [e]
        simp only [lroadOf, hsp, List.map_cons, List.map_nil, hx, hy]
        simp
  · cases hr
theorem l_road {n : Int} {r : List Nat} {t : D} (hn : n ≤ 16) (h : lroadOf r = some t) (ht : isRoad n t = true) : roadOf r = t := by
  obtain ⟨i, j, e, h1, h2⟩ := isRoad_of ht
  simp only [lroadOf] at h
  split at h
  · rename_i hl
    split at h
    · cases h
    · generalize hsp : TL.spl [62] 0 [] r = ws at *
      rcases ws with _ | ⟨x, _ | ⟨y, _ | ⟨z, ws⟩⟩⟩ <;> simp at hl
      · subst e
        simp only [List.map_cons, List.map_nil, Option.some.injEq, D.tup.injEq, List.cons.injEq, and_true] at h
        have hx := num_fig h.1 (by omega)
        have hy := num_fig h.2 (by omega)
        simp only [roadOf, hsp, List.map_cons, List.map_nil, hx, hy]
        simp
  · cases h
theorem roadsFault_none {n : Int} : ∀ {rs known : List D} {i : Nat}, roadsFault n known rs i = none → ∀ r ∈ rs, isRoad n r = true
  | [], _, _, _, r, hr => by simp at hr
  | r :: rs, known, i, h, x, hx => by
    rw [roadsFault] at h
    cases hc : isRoad n r && !(known.contains r)
    · rw [hc] at h; simp at h
    · rw [hc] at h
      simp only [if_true] at h
      simp only [Bool.and_eq_true] at hc
      simp only [List.mem_cons] at hx
      rcases hx with rfl | hx
      · exact hc.1
      · exact roadsFault_none h x hx
theorem doorsFault_none {n : Int} : ∀ {rs known : List D} {i : Nat}, doorsFault n known rs i = none → ∀ r ∈ rs, isAm 0 (n - 1) r = true
  | [], _, _, _, r, hr => by simp at hr
  | r :: rs, known, i, h, x, hx => by
    rw [doorsFault] at h
    cases hc : isAm 0 (n - 1) r && !(known.contains r)
    · rw [hc] at h; simp at h
    · rw [hc] at h
      simp only [if_true] at h
      simp only [Bool.and_eq_true] at hc
      simp only [List.mem_cons] at hx
      rcases hx with rfl | hx
      · exact hc.1
      · exact doorsFault_none h x hx
theorem doorFault_none {n s : Int} {ds : List D} (h : doorFault n s (.tup ds) = none) : ds.length ≤ 5 ∧ doorsFault n [] ds 0 = none := by
  unfold doorFault at h
  cases ht : isTup 0 5 (.tup ds)
  · simp [ht] at h
  · simp only [ht, if_true, Option.map_eq_none_iff] at h
    simp [isTup] at ht
    exact ⟨by omega, h⟩
theorem pieceFault_none {d : D} (h : pieceFault d = none) : ∃ n rs ins outs, d = .tup [.tup [.int n, .tup rs], .tup ins, .tup outs] ∧ 1 ≤ n ∧ n ≤ 16 ∧ rs.length ≤ 60 ∧
    roadsFault n [] rs 0 = none ∧ ins.length ≤ 5 ∧ doorsFault n [] ins 0 = none ∧ outs.length ≤ 5 ∧ doorsFault n [] outs 0 = none := by
  have isT : ∀ {s n : Int} {d : D}, doorFault n s d = none → ∃ xs, d = .tup xs := by
    intro s n d hd
    unfold doorFault at hd
    split at hd
    · exact ⟨_, rfl⟩
    · cases hd
  unfold pieceFault at h
  split at h
  · rename_i a b c
    cases hn : netFault a with
    | some p => rw [hn] at h; cases h
    | none =>
      rw [hn] at h
      obtain ⟨n, rs, rfl, h1, h2, h3, h4⟩ := netFault_none hn
      simp only at h
      cases hb : doorFault n 1 b with
      | some p => rw [hb] at h; cases h
      | none =>
        rw [hb] at h
        simp only [Option.map_eq_none_iff] at h
        obtain ⟨ins, rfl⟩ := isT hb
        obtain ⟨outs, rfl⟩ := isT h
        exact ⟨n, rs, ins, outs, rfl, h1, h2, h3, h4, (doorFault_none hb).1, (doorFault_none hb).2, (doorFault_none h).1, (doorFault_none h).2⟩
  · cases h
theorem okP_some {d p : D} (h : okP d = some p) : p = d ∧ pieceFault d = none := by
  unfold okP at h
  split at h
  · rename_i hi
    cases h; exact ⟨rfl, by simpa [Option.isNone_iff_eq_none] using hi⟩
  · cases h
theorem roadsOf_map {n : Int} : ∀ {rs : List (List Nat)}, (∀ r ∈ rs.map roadOf, isRoad n r = true) → roadsOf rs = some (rs.map roadOf)
  | [], _ => rfl
  | r :: rs, h => by
    rw [roadsOf, road_l (h (roadOf r) (by simp)), roadsOf_map (fun x hx => h x (by simp only [List.map_cons, List.mem_cons]; exact .inr hx))]; rfl
theorem map_roadsOf {n : Int} (hn : n ≤ 16) : ∀ {rs : List (List Nat)} {ts : List D}, roadsOf rs = some ts → (∀ r ∈ ts, isRoad n r = true) → rs.map roadOf = ts
  | [], ts, h, _ => by simp [roadsOf] at h; simp [h]
  | r :: rs, ts, h, ht => by
    rw [roadsOf] at h
    cases hw : lroadOf r with
    | none => rw [hw] at h; cases h
    | some t =>
      rw [hw] at h
      simp only [Option.map_eq_some_iff] at h
      obtain ⟨ts', h', rfl⟩ := h
      rw [List.map_cons, l_road hn hw (ht t (by simp)), map_roadsOf hn h' (fun x hx => ht x (by simp [hx]))]
theorem doors_not {n : Int} {c : List (List Nat)} (h : ∀ r ∈ c.map numOf, isAm 0 (n - 1) r = true) {x : List Nat} (hx : numOf x = .non) : x ∉ c := by
  intro hm
  have := h (numOf x) (List.mem_map_of_mem hm)
  rw [hx] at this; simp [isAm] at this
theorem law_of_read {ws : List (List Nat)} {p : D} (h : readP ws = some p) : lawP ws = some p := by
  simp only [readP] at h
  cases h1 : cutAt IN ws with
  | none => simp [h1] at h
  | some ab =>
    obtain ⟨a, b⟩ := ab
    simp only [h1] at h
    cases h2 : cutAt OUT b with
    | none => simp [h2] at h
    | some cd =>
      obtain ⟨c, d⟩ := cd
      simp only [h2] at h
      obtain ⟨rfl, hp⟩ := okP_some h
      obtain ⟨n, rs, ins, outs, e, hn1, hn2, hrl, hr, hil, hi, hol, ho⟩ := pieceFault_none hp
      simp only [pieceD, D.tup.injEq, List.cons.injEq, and_true] at e
      obtain ⟨e1, rfl, rfl⟩ := e
      obtain ⟨rfl, hia⟩ := cutAt_some h1
      obtain ⟨rfl, hob⟩ := cutAt_some h2
      rcases a with _ | ⟨w, rs'⟩
      · exfalso
        simp only [orE, if_true, netOf, fig_nil, D.tup.injEq, List.cons.injEq, reduceCtorEq, false_and] at e1
      · simp only [orE, reduceCtorEq, if_false, netOf, D.tup.injEq, List.cons.injEq, and_true] at e1
        obtain ⟨e2, rfl⟩ := e1
        have hroads := roadsFault_none hr
        have hins := doorsFault_none hi
        have houts := doorsFault_none ho
        have c1 : (w :: rs' ++ IN :: (c ++ OUT :: d)).count IN = 1 := by
          have a1 := List.count_eq_zero.mpr hia
          have a2 := List.count_eq_zero.mpr (doors_not hins num_IN)
          have a3 := List.count_eq_zero.mpr (doors_not houts num_IN)
          rw [List.count_append, a1, List.count_cons, List.count_append, a2, List.count_cons, a3]; decide
        have hOa : OUT ∉ w :: rs' := by
          intro hm
          simp only [List.mem_cons] at hm
          rcases hm with rfl | hm
          · rw [fig_OUT] at e2; cases e2
          · have := hroads (roadOf OUT) (List.mem_map_of_mem hm)
            rw [road_OUT] at this; simp [isRoad] at this
        have c2 : (w :: rs' ++ IN :: (c ++ OUT :: d)).count OUT = 1 := by
          have a1 := List.count_eq_zero.mpr hOa
          have a2 := List.count_eq_zero.mpr (doors_not hins num_OUT)
          have a3 := List.count_eq_zero.mpr (doors_not houts num_OUT)
          rw [List.count_append, a1, List.count_cons, List.count_append, a2, List.count_cons, a3]; decide
        simp only [lawP, c1, c2, and_self, if_true, h1, h2, roadsOf_map hroads]
        have e3 : lpieceD w (rs'.map roadOf) c d = pieceD (w :: rs') c d := by
          simp only [lpieceD, pieceD, orE, reduceCtorEq, if_false, netOf, e2, fig_num e2]
        rw [e3]; exact okP_of hp
theorem read_of_law {ws : List (List Nat)} {p : D} (h : lawP ws = some p) : readP ws = some p := by
  simp only [lawP] at h
  split at h
  case isFalse => cases h
  cases h1 : cutAt IN ws with
  | none => simp [h1] at h
  | some ab =>
    obtain ⟨a, b⟩ := ab
    simp only [h1] at h
    cases h2 : cutAt OUT b with
    | none => simp [h2] at h
    | some cd =>
      obtain ⟨c, d⟩ := cd
      simp only [h2] at h
      rcases a with _ | ⟨w, rs⟩
      · cases h
      simp only at h
      cases h3 : roadsOf rs with
      | none => simp [h3] at h
      | some ts =>
        simp only [h3] at h
        obtain ⟨rfl, hp⟩ := okP_some h
        obtain ⟨n, rs', ins, outs, e, hn1, hn2, hrl, hr, hil, hi, hol, ho⟩ := pieceFault_none hp
        simp only [lpieceD, D.tup.injEq, List.cons.injEq, and_true] at e
        obtain ⟨⟨e1, rfl⟩, rfl, rfl⟩ := e
        have e4 := map_roadsOf hn2 h3 (roadsFault_none hr)
        have e3 : pieceD (w :: rs) c d = lpieceD w ts c d := by
          simp only [lpieceD, pieceD, orE, reduceCtorEq, if_false, netOf, e1, num_fig e1 (by omega), e4]
        simp only [readP, h1, h2, e3]
        exact okP_of hp
theorem law_read (ws : List (List Nat)) : lawP ws = readP ws := by
  cases h : lawP ws with
  | some p => exact (read_of_law h).symm
  | none =>
    cases h' : readP ws with
    | none => rfl
    | some p => rw [law_of_read h'] at h; cases h
end K82
end

section
set_option Elab.async false
set_option linter.all false
set_option maxRecDepth 100000
set_option maxHeartbeats 0
namespace K82
open DW
open PySem (Str)
mutual
def D.fl : Nat → D → Bool
  | 0, .tup _ => false
  | k + 1, .tup xs => decide (xs.length ≤ 1000) && D.fls k xs
  | _, .int _ => true
  | _, .str _ => true
  | _, .non => true
  | _, .bl _ => true
  | _, _ => false
def D.fls : Nat → List D → Bool
  | _, [] => true
  | k, x :: xs => D.fl k x && D.fls k xs
end
theorem fls_get {k : Nat} : ∀ {xs : List D} {i : Nat} {x : D}, D.fls k xs = true → xs[i]? = some x → D.fl k x = true
  | [], i, x, _, h => by simp at h
  | y :: ys, 0, x, h, hx => by simp [D.fls] at h hx; rw [← hx]; exact h.1
  | y :: ys, i + 1, x, h, hx => by simp [D.fls] at h hx; exact fls_get h.2 hx
theorem fl_isx {k : Nat} {d : D} (h : D.fl k d = true) : d.isx = false := by
  cases d <;> first | rfl | (cases k <;> simp [D.fl] at h)
theorem ixL_nat {xs : List D} {i : Nat} (h : i < xs.length) : ixL xs (.int (i : Nat)) = some xs[i] := by
  simp only [ixL, L2.atI, L2.ixN]
  rw [if_pos (by omega)]
  simp only [Int.toNat_natCast]
  rw [if_pos (by omega)]; simp [h]
theorem rngD_get (n : Nat) : rngD 0 n = (List.range n).map fun i => D.int ((i : Nat) : Int) := by
  simp [rngD]
theorem eqD_bl (s : Store) (b : Bool) : eqD s (.bl b) (.bl b) = some true := by cases b <;> rfl
theorem like_tup (k : Nat) (xs : List D) (s : Store) (h1 : xs.length ≤ 1000) (ih : ∀ (i : Nat) (h : i < xs.length), Rn (k + 1) (25 : Nat) [xs[i], xs[i]] s = .ok (.bl true) s) :
    Rn (k + 2) (25 : Nat) [.tup xs, .tup xs] s = .ok (.bl true) s := by
  have hI := fun (G : GX) (own : List Nat) (tg : Tg) (c el : CE) (ρ : Env) => compR_rng (G := G) (cur := none) (own := own) (tg := tg) (c := c) (el := el) (ρ := ρ) (S := s) (n := xs.length) (by omega)
  have C : compL [] (compF (GK (k + 1)) none [2] (.nm 2) (.cst (.bl true)) (.call (25 : Nat) (.cons (.ix (.var 0) (.var 2)) (.cons (.ix (.var 1) (.var 2)) .nil))) [some (.tup xs), some (.tup xs), none])
      ((List.range xs.length).map (fun i => D.int ((i : Nat) : Int))) s = .ok (((List.range xs.length).map (fun i => D.int ((i : Nat) : Int))).map fun _ => .bl true) s := by
    refine compL_map (stays_nil _) ?_
    intro x hx
    rw [List.mem_map] at hx
    obtain ⟨i, hi, rfl⟩ := hx
    rw [List.mem_range] at hi
    have ih := ih i hi
    simp only [xs_nil, xs_cons, evs, compF, x_asg, x_put, x_xpr, x_ret, x_cond, x_loop_seq, x_loop_enum, x_loop_rng, x_loop_zip, x_whl, x_raise, x_raiseN, x_tryx, x_tryr, x_pass, x_brk, x_cont, loopR_enum, loopR_tup, loopR_lst, ev_var, e_cst, e_bin, e_neg, e_cmp, e_chn, e_and, e_or, e_not, e_ite, e_tup, e_lst, e_new, e_dct, e_ix, e_sl, e_call, e_bi, e_mt, e_app, e_isi, e_comp_seq, e_comp_rng, e_comp_enum, e_comp_zip, e_xfld, bind_ok, bind_exc, to_ok, to_exc, opt_some, then_nx, then_rt, then_exc, d_val, d_new, tru_bl, tru_non, fin_bl, fin_int, fin_str, fin_non, fin_xnon, fin_xint, GK_call, GK_sub, GK_fld, GK_hot, List.map_cons, List.map_nil, List.cons_append, List.nil_append, List.replicate_succ, List.replicate_zero, Nat.sub_self, Nat.reduceSub, List.getElem?_cons_zero, List.getElem?_cons_succ, List.set_cons_zero, List.set_cons_succ, wipe, bindT, bindTs, List.length_cons, List.length_nil, Nat.reduceAdd, Nat.reduceLT, Nat.reduceLeDiff, Nat.zero_le, binW, binD, compL, stays_nil, decide_true, decide_false, LINE, Int.cast_ofNat_Int, Int.reduceLE, Int.reduceLT, Int.natCast_zero, Int.natCast_one, ixL_0, ixL_1, ixL_2, eqD_int, eqD_str, ixD_tup, ixD_lst, biD, boolsOf, lstOf, Option.bind_some, List.all_cons, List.all_nil, id, isx_non, isx_bl, isx_int, isx_str, isx_tup, isx_lst, isx_frz, isx_ref, isx_exn, String.reduceBEq, Bool.or_false, Bool.or_true, Bool.true_or, Bool.false_or, Bool.and_true, Bool.true_and, Bool.and_false, Bool.false_and, reduceIte, Bool.false_eq_true, Option.map_some, Option.map_none, Bool.not_true, Bool.not_false, ixL_nat hi, ih]
  have hb : boolsOf (((List.range xs.length).map (fun i => D.int ((i : Nat) : Int))).map fun _ => D.bl true) = some (((List.range xs.length).map (fun i => D.int ((i : Nat) : Int))).map fun _ => true) := boolsOf_map (fun _ => true) _
  generalize (List.range xs.length).map (fun i => D.int ((i : Nat) : Int)) = L at *
  have hall : (L.map fun _ => true).all id = true := by simp
  rw [Rn_at t_law_like rfl, b_law_like]
  simp only [xs_nil, xs_cons, evs, compF, x_asg, x_put, x_xpr, x_ret, x_cond, x_loop_seq, x_loop_enum, x_loop_rng, x_loop_zip, x_whl, x_raise, x_raiseN, x_tryx, x_tryr, x_pass, x_brk, x_cont, loopR_enum, loopR_tup, loopR_lst, ev_var, e_cst, e_bin, e_neg, e_cmp, e_chn, e_and, e_or, e_not, e_ite, e_tup, e_lst, e_new, e_dct, e_ix, e_sl, e_call, e_bi, e_mt, e_app, e_isi, e_comp_seq, e_comp_rng, e_comp_enum, e_comp_zip, e_xfld, bind_ok, bind_exc, to_ok, to_exc, opt_some, then_nx, then_rt, then_exc, d_val, d_new, tru_bl, tru_non, fin_bl, fin_int, fin_str, fin_non, fin_xnon, fin_xint, GK_call, GK_sub, GK_fld, GK_hot, List.map_cons, List.map_nil, List.cons_append, List.nil_append, List.replicate_succ, List.replicate_zero, Nat.sub_self, Nat.reduceSub, List.getElem?_cons_zero, List.getElem?_cons_succ, List.set_cons_zero, List.set_cons_succ, wipe, bindT, bindTs, List.length_cons, List.length_nil, Nat.reduceAdd, Nat.reduceLT, Nat.reduceLeDiff, Nat.zero_le, binW, binD, compL, stays_nil, decide_true, decide_false, LINE, Int.cast_ofNat_Int, Int.reduceLE, Int.reduceLT, Int.natCast_zero, Int.natCast_one, ixL_0, ixL_1, ixL_2, eqD_int, eqD_str, ixD_tup, ixD_lst, biD, boolsOf, lstOf, Option.bind_some, List.all_cons, List.all_nil, id, isx_non, isx_bl, isx_int, isx_str, isx_tup, isx_lst, isx_frz, isx_ref, isx_exn, String.reduceBEq, Bool.or_false, Bool.or_true, Bool.true_or, Bool.false_or, Bool.and_true, Bool.true_and, Bool.and_false, Bool.false_and, reduceIte, Bool.false_eq_true, Option.map_some, Option.map_none, Bool.not_true, Bool.not_false, isiD, cmpD, lenD, hI, C, hb, hall, eq_self, decide_true]
theorem r_like_self : ∀ (k : Nat) (d : D) (s : Store), D.fl k d = true → Rn (k + 1) (25 : Nat) [d, d] s = .ok (.bl true) s := by
  intro k
  induction k with
  | zero =>
    intro d s h
    rw [Rn_at t_law_like rfl, b_law_like]
    cases d with
    | int i => simp only [xs_nil, xs_cons, evs, compF, x_asg, x_put, x_xpr, x_ret, x_cond, x_loop_seq, x_loop_enum, x_loop_rng, x_loop_zip, x_whl, x_raise, x_raiseN, x_tryx, x_tryr, x_pass, x_brk, x_cont, loopR_enum, loopR_tup, loopR_lst, ev_var, e_cst, e_bin, e_neg, e_cmp, e_chn, e_and, e_or, e_not, e_ite, e_tup, e_lst, e_new, e_dct, e_ix, e_sl, e_call, e_bi, e_mt, e_app, e_isi, e_comp_seq, e_comp_rng, e_comp_enum, e_comp_zip, e_xfld, bind_ok, bind_exc, to_ok, to_exc, opt_some, then_nx, then_rt, then_exc, d_val, d_new, tru_bl, tru_non, fin_bl, fin_int, fin_str, fin_non, fin_xnon, fin_xint, GK_call, GK_sub, GK_fld, GK_hot, List.map_cons, List.map_nil, List.cons_append, List.nil_append, List.replicate_succ, List.replicate_zero, Nat.sub_self, Nat.reduceSub, List.getElem?_cons_zero, List.getElem?_cons_succ, List.set_cons_zero, List.set_cons_succ, wipe, bindT, bindTs, List.length_cons, List.length_nil, Nat.reduceAdd, Nat.reduceLT, Nat.reduceLeDiff, Nat.zero_le, binW, binD, compL, stays_nil, decide_true, decide_false, LINE, Int.cast_ofNat_Int, Int.reduceLE, Int.reduceLT, Int.natCast_zero, Int.natCast_one, ixL_0, ixL_1, ixL_2, eqD_int, eqD_str, ixD_tup, ixD_lst, biD, boolsOf, lstOf, Option.bind_some, List.all_cons, List.all_nil, id, isx_non, isx_bl, isx_int, isx_str, isx_tup, isx_lst, isx_frz, isx_ref, isx_exn, String.reduceBEq, Bool.or_false, Bool.or_true, Bool.true_or, Bool.false_or, Bool.and_true, Bool.true_and, Bool.and_false, Bool.false_and, reduceIte, Bool.false_eq_true, Option.map_some, Option.map_none, Bool.not_true, Bool.not_false, isiD, cmpD, reduceCtorEq, eqD_bl, eq_self, decide_true]
    | bl b => simp only [xs_nil, xs_cons, evs, compF, x_asg, x_put, x_xpr, x_ret, x_cond, x_loop_seq, x_loop_enum, x_loop_rng, x_loop_zip, x_whl, x_raise, x_raiseN, x_tryx, x_tryr, x_pass, x_brk, x_cont, loopR_enum, loopR_tup, loopR_lst, ev_var, e_cst, e_bin, e_neg, e_cmp, e_chn, e_and, e_or, e_not, e_ite, e_tup, e_lst, e_new, e_dct, e_ix, e_sl, e_call, e_bi, e_mt, e_app, e_isi, e_comp_seq, e_comp_rng, e_comp_enum, e_comp_zip, e_xfld, bind_ok, bind_exc, to_ok, to_exc, opt_some, then_nx, then_rt, then_exc, d_val, d_new, tru_bl, tru_non, fin_bl, fin_int, fin_str, fin_non, fin_xnon, fin_xint, GK_call, GK_sub, GK_fld, GK_hot, List.map_cons, List.map_nil, List.cons_append, List.nil_append, List.replicate_succ, List.replicate_zero, Nat.sub_self, Nat.reduceSub, List.getElem?_cons_zero, List.getElem?_cons_succ, List.set_cons_zero, List.set_cons_succ, wipe, bindT, bindTs, List.length_cons, List.length_nil, Nat.reduceAdd, Nat.reduceLT, Nat.reduceLeDiff, Nat.zero_le, binW, binD, compL, stays_nil, decide_true, decide_false, LINE, Int.cast_ofNat_Int, Int.reduceLE, Int.reduceLT, Int.natCast_zero, Int.natCast_one, ixL_0, ixL_1, ixL_2, eqD_int, eqD_str, ixD_tup, ixD_lst, biD, boolsOf, lstOf, Option.bind_some, List.all_cons, List.all_nil, id, isx_non, isx_bl, isx_int, isx_str, isx_tup, isx_lst, isx_frz, isx_ref, isx_exn, String.reduceBEq, Bool.or_false, Bool.or_true, Bool.true_or, Bool.false_or, Bool.and_true, Bool.true_and, Bool.and_false, Bool.false_and, reduceIte, Bool.false_eq_true, Option.map_some, Option.map_none, Bool.not_true, Bool.not_false, isiD, cmpD, reduceCtorEq, eqD_bl, eq_self, decide_true]
    | non => simp only [xs_nil, xs_cons, evs, compF, x_asg, x_put, x_xpr, x_ret, x_cond, x_loop_seq, x_loop_enum, x_loop_rng, x_loop_zip, x_whl, x_raise, x_raiseN, x_tryx, x_tryr, x_pass, x_brk, x_cont, loopR_enum, loopR_tup, loopR_lst, ev_var, e_cst, e_bin, e_neg, e_cmp, e_chn, e_and, e_or, e_not, e_ite, e_tup, e_lst, e_new, e_dct, e_ix, e_sl, e_call, e_bi, e_mt, e_app, e_isi, e_comp_seq, e_comp_rng, e_comp_enum, e_comp_zip, e_xfld, bind_ok, bind_exc, to_ok, to_exc, opt_some, then_nx, then_rt, then_exc, d_val, d_new, tru_bl, tru_non, fin_bl, fin_int, fin_str, fin_non, fin_xnon, fin_xint, GK_call, GK_sub, GK_fld, GK_hot, List.map_cons, List.map_nil, List.cons_append, List.nil_append, List.replicate_succ, List.replicate_zero, Nat.sub_self, Nat.reduceSub, List.getElem?_cons_zero, List.getElem?_cons_succ, List.set_cons_zero, List.set_cons_succ, wipe, bindT, bindTs, List.length_cons, List.length_nil, Nat.reduceAdd, Nat.reduceLT, Nat.reduceLeDiff, Nat.zero_le, binW, binD, compL, stays_nil, decide_true, decide_false, LINE, Int.cast_ofNat_Int, Int.reduceLE, Int.reduceLT, Int.natCast_zero, Int.natCast_one, ixL_0, ixL_1, ixL_2, eqD_int, eqD_str, ixD_tup, ixD_lst, biD, boolsOf, lstOf, Option.bind_some, List.all_cons, List.all_nil, id, isx_non, isx_bl, isx_int, isx_str, isx_tup, isx_lst, isx_frz, isx_ref, isx_exn, String.reduceBEq, Bool.or_false, Bool.or_true, Bool.true_or, Bool.false_or, Bool.and_true, Bool.true_and, Bool.and_false, Bool.false_and, reduceIte, Bool.false_eq_true, Option.map_some, Option.map_none, Bool.not_true, Bool.not_false, isiD, cmpD, eq_self, decide_true]
    | str x => simp only [xs_nil, xs_cons, evs, compF, x_asg, x_put, x_xpr, x_ret, x_cond, x_loop_seq, x_loop_enum, x_loop_rng, x_loop_zip, x_whl, x_raise, x_raiseN, x_tryx, x_tryr, x_pass, x_brk, x_cont, loopR_enum, loopR_tup, loopR_lst, ev_var, e_cst, e_bin, e_neg, e_cmp, e_chn, e_and, e_or, e_not, e_ite, e_tup, e_lst, e_new, e_dct, e_ix, e_sl, e_call, e_bi, e_mt, e_app, e_isi, e_comp_seq, e_comp_rng, e_comp_enum, e_comp_zip, e_xfld, bind_ok, bind_exc, to_ok, to_exc, opt_some, then_nx, then_rt, then_exc, d_val, d_new, tru_bl, tru_non, fin_bl, fin_int, fin_str, fin_non, fin_xnon, fin_xint, GK_call, GK_sub, GK_fld, GK_hot, List.map_cons, List.map_nil, List.cons_append, List.nil_append, List.replicate_succ, List.replicate_zero, Nat.sub_self, Nat.reduceSub, List.getElem?_cons_zero, List.getElem?_cons_succ, List.set_cons_zero, List.set_cons_succ, wipe, bindT, bindTs, List.length_cons, List.length_nil, Nat.reduceAdd, Nat.reduceLT, Nat.reduceLeDiff, Nat.zero_le, binW, binD, compL, stays_nil, decide_true, decide_false, LINE, Int.cast_ofNat_Int, Int.reduceLE, Int.reduceLT, Int.natCast_zero, Int.natCast_one, ixL_0, ixL_1, ixL_2, eqD_int, eqD_str, ixD_tup, ixD_lst, biD, boolsOf, lstOf, Option.bind_some, List.all_cons, List.all_nil, id, isx_non, isx_bl, isx_int, isx_str, isx_tup, isx_lst, isx_frz, isx_ref, isx_exn, String.reduceBEq, Bool.or_false, Bool.or_true, Bool.true_or, Bool.false_or, Bool.and_true, Bool.true_and, Bool.and_false, Bool.false_and, reduceIte, Bool.false_eq_true, Option.map_some, Option.map_none, Bool.not_true, Bool.not_false, isiD, cmpD, reduceCtorEq, eq_self, decide_true]
    | lst xs => simp [D.fl] at h
    | frz xs => simp [D.fl] at h
    | ref i => simp [D.fl] at h
    | exn => simp [D.fl] at h
    | tup xs => simp [D.fl] at h
  | succ k ih0 =>
    intro d s h
    cases d with
    | int i => rw [Rn_at t_law_like rfl, b_law_like]; simp only [xs_nil, xs_cons, evs, compF, x_asg, x_put, x_xpr, x_ret, x_cond, x_loop_seq, x_loop_enum, x_loop_rng, x_loop_zip, x_whl, x_raise, x_raiseN, x_tryx, x_tryr, x_pass, x_brk, x_cont, loopR_enum, loopR_tup, loopR_lst, ev_var, e_cst, e_bin, e_neg, e_cmp, e_chn, e_and, e_or, e_not, e_ite, e_tup, e_lst, e_new, e_dct, e_ix, e_sl, e_call, e_bi, e_mt, e_app, e_isi, e_comp_seq, e_comp_rng, e_comp_enum, e_comp_zip, e_xfld, bind_ok, bind_exc, to_ok, to_exc, opt_some, then_nx, then_rt, then_exc, d_val, d_new, tru_bl, tru_non, fin_bl, fin_int, fin_str, fin_non, fin_xnon, fin_xint, GK_call, GK_sub, GK_fld, GK_hot, List.map_cons, List.map_nil, List.cons_append, List.nil_append, List.replicate_succ, List.replicate_zero, Nat.sub_self, Nat.reduceSub, List.getElem?_cons_zero, List.getElem?_cons_succ, List.set_cons_zero, List.set_cons_succ, wipe, bindT, bindTs, List.length_cons, List.length_nil, Nat.reduceAdd, Nat.reduceLT, Nat.reduceLeDiff, Nat.zero_le, binW, binD, compL, stays_nil, decide_true, decide_false, LINE, Int.cast_ofNat_Int, Int.reduceLE, Int.reduceLT, Int.natCast_zero, Int.natCast_one, ixL_0, ixL_1, ixL_2, eqD_int, eqD_str, ixD_tup, ixD_lst, biD, boolsOf, lstOf, Option.bind_some, List.all_cons, List.all_nil, id, isx_non, isx_bl, isx_int, isx_str, isx_tup, isx_lst, isx_frz, isx_ref, isx_exn, String.reduceBEq, Bool.or_false, Bool.or_true, Bool.true_or, Bool.false_or, Bool.and_true, Bool.true_and, Bool.and_false, Bool.false_and, reduceIte, Bool.false_eq_true, Option.map_some, Option.map_none, Bool.not_true, Bool.not_false, isiD, cmpD, reduceCtorEq, eqD_bl, eq_self, decide_true]
    | bl b => rw [Rn_at t_law_like rfl, b_law_like]; simp only [xs_nil, xs_cons, evs, compF, x_asg, x_put, x_xpr, x_ret, x_cond, x_loop_seq, x_loop_enum, x_loop_rng, x_loop_zip, x_whl, x_raise, x_raiseN, x_tryx, x_tryr, x_pass, x_brk, x_cont, loopR_enum, loopR_tup, loopR_lst, ev_var, e_cst, e_bin, e_neg, e_cmp, e_chn, e_and, e_or, e_not, e_ite, e_tup, e_lst, e_new, e_dct, e_ix, e_sl, e_call, e_bi, e_mt, e_app, e_isi, e_comp_seq, e_comp_rng, e_comp_enum, e_comp_zip, e_xfld, bind_ok, bind_exc, to_ok, to_exc, opt_some, then_nx, then_rt, then_exc, d_val, d_new, tru_bl, tru_non, fin_bl, fin_int, fin_str, fin_non, fin_xnon, fin_xint, GK_call, GK_sub, GK_fld, GK_hot, List.map_cons, List.map_nil, List.cons_append, List.nil_append, List.replicate_succ, List.replicate_zero, Nat.sub_self, Nat.reduceSub, List.getElem?_cons_zero, List.getElem?_cons_succ, List.set_cons_zero, List.set_cons_succ, wipe, bindT, bindTs, List.length_cons, List.length_nil, Nat.reduceAdd, Nat.reduceLT, Nat.reduceLeDiff, Nat.zero_le, binW, binD, compL, stays_nil, decide_true, decide_false, LINE, Int.cast_ofNat_Int, Int.reduceLE, Int.reduceLT, Int.natCast_zero, Int.natCast_one, ixL_0, ixL_1, ixL_2, eqD_int, eqD_str, ixD_tup, ixD_lst, biD, boolsOf, lstOf, Option.bind_some, List.all_cons, List.all_nil, id, isx_non, isx_bl, isx_int, isx_str, isx_tup, isx_lst, isx_frz, isx_ref, isx_exn, String.reduceBEq, Bool.or_false, Bool.or_true, Bool.true_or, Bool.false_or, Bool.and_true, Bool.true_and, Bool.and_false, Bool.false_and, reduceIte, Bool.false_eq_true, Option.map_some, Option.map_none, Bool.not_true, Bool.not_false, isiD, cmpD, reduceCtorEq, eqD_bl, eq_self, decide_true]
    | non => rw [Rn_at t_law_like rfl, b_law_like]; simp only [xs_nil, xs_cons, evs, compF, x_asg, x_put, x_xpr, x_ret, x_cond, x_loop_seq, x_loop_enum, x_loop_rng, x_loop_zip, x_whl, x_raise, x_raiseN, x_tryx, x_tryr, x_pass, x_brk, x_cont, loopR_enum, loopR_tup, loopR_lst, ev_var, e_cst, e_bin, e_neg, e_cmp, e_chn, e_and, e_or, e_not, e_ite, e_tup, e_lst, e_new, e_dct, e_ix, e_sl, e_call, e_bi, e_mt, e_app, e_isi, e_comp_seq, e_comp_rng, e_comp_enum, e_comp_zip, e_xfld, bind_ok, bind_exc, to_ok, to_exc, opt_some, then_nx, then_rt, then_exc, d_val, d_new, tru_bl, tru_non, fin_bl, fin_int, fin_str, fin_non, fin_xnon, fin_xint, GK_call, GK_sub, GK_fld, GK_hot, List.map_cons, List.map_nil, List.cons_append, List.nil_append, List.replicate_succ, List.replicate_zero, Nat.sub_self, Nat.reduceSub, List.getElem?_cons_zero, List.getElem?_cons_succ, List.set_cons_zero, List.set_cons_succ, wipe, bindT, bindTs, List.length_cons, List.length_nil, Nat.reduceAdd, Nat.reduceLT, Nat.reduceLeDiff, Nat.zero_le, binW, binD, compL, stays_nil, decide_true, decide_false, LINE, Int.cast_ofNat_Int, Int.reduceLE, Int.reduceLT, Int.natCast_zero, Int.natCast_one, ixL_0, ixL_1, ixL_2, eqD_int, eqD_str, ixD_tup, ixD_lst, biD, boolsOf, lstOf, Option.bind_some, List.all_cons, List.all_nil, id, isx_non, isx_bl, isx_int, isx_str, isx_tup, isx_lst, isx_frz, isx_ref, isx_exn, String.reduceBEq, Bool.or_false, Bool.or_true, Bool.true_or, Bool.false_or, Bool.and_true, Bool.true_and, Bool.and_false, Bool.false_and, reduceIte, Bool.false_eq_true, Option.map_some, Option.map_none, Bool.not_true, Bool.not_false, isiD, cmpD, eq_self, decide_true]
    | str x => rw [Rn_at t_law_like rfl, b_law_like]; simp only [xs_nil, xs_cons, evs, compF, x_asg, x_put, x_xpr, x_ret, x_cond, x_loop_seq, x_loop_enum, x_loop_rng, x_loop_zip, x_whl, x_raise, x_raiseN, x_tryx, x_tryr, x_pass, x_brk, x_cont, loopR_enum, loopR_tup, loopR_lst, ev_var, e_cst, e_bin, e_neg, e_cmp, e_chn, e_and, e_or, e_not, e_ite, e_tup, e_lst, e_new, e_dct, e_ix, e_sl, e_call, e_bi, e_mt, e_app, e_isi, e_comp_seq, e_comp_rng, e_comp_enum, e_comp_zip, e_xfld, bind_ok, bind_exc, to_ok, to_exc, opt_some, then_nx, then_rt, then_exc, d_val, d_new, tru_bl, tru_non, fin_bl, fin_int, fin_str, fin_non, fin_xnon, fin_xint, GK_call, GK_sub, GK_fld, GK_hot, List.map_cons, List.map_nil, List.cons_append, List.nil_append, List.replicate_succ, List.replicate_zero, Nat.sub_self, Nat.reduceSub, List.getElem?_cons_zero, List.getElem?_cons_succ, List.set_cons_zero, List.set_cons_succ, wipe, bindT, bindTs, List.length_cons, List.length_nil, Nat.reduceAdd, Nat.reduceLT, Nat.reduceLeDiff, Nat.zero_le, binW, binD, compL, stays_nil, decide_true, decide_false, LINE, Int.cast_ofNat_Int, Int.reduceLE, Int.reduceLT, Int.natCast_zero, Int.natCast_one, ixL_0, ixL_1, ixL_2, eqD_int, eqD_str, ixD_tup, ixD_lst, biD, boolsOf, lstOf, Option.bind_some, List.all_cons, List.all_nil, id, isx_non, isx_bl, isx_int, isx_str, isx_tup, isx_lst, isx_frz, isx_ref, isx_exn, String.reduceBEq, Bool.or_false, Bool.or_true, Bool.true_or, Bool.false_or, Bool.and_true, Bool.true_and, Bool.and_false, Bool.false_and, reduceIte, Bool.false_eq_true, Option.map_some, Option.map_none, Bool.not_true, Bool.not_false, isiD, cmpD, reduceCtorEq, eq_self, decide_true]
    | lst xs => simp [D.fl] at h
    | frz xs => simp [D.fl] at h
    | ref i => simp [D.fl] at h
    | exn => simp [D.fl] at h
    | tup xs =>
      simp [D.fl] at h
      exact like_tup k xs s h.1 fun i hi => ih0 xs[i] s (fls_get (i := i) (x := xs[i]) h.2 (by rw [List.getElem?_eq_getElem hi]))
def doorW : D → List Nat
  | .int i => TL.numL i.toNat
  | _ => []
def roadW : D → List Nat
  | .tup [.int i, .int j] => TL.numL i.toNat ++ 62 :: TL.numL j.toNat
  | _ => []
theorem str_int (s : Store) {i : Int} (h0 : 0 ≤ i) (h : i ≤ 100) : biD s .str [.int i] = some (.val (.str (SX.S (TL.numL i.toNat)))) := by
  simp only [biD]
  have e : i = ((i.toNat : Nat) : Int) := by omega
  have hl : i.natAbs.log2 < 1920 := Nat.lt_of_le_of_lt (Nat.log2_le_self _) (by omega)
  rw [if_pos hl]
  conv => lhs; rw [e]
  rw [← SX.num_S]
theorem numL_100 {i : Nat} (h : i ≤ 99) : (TL.numL i).length ≤ 2 := TL.numL_len (by decide) (by omega)
theorem cat_ok (s : Store) {xs ys : List D} (h : xs.length + ys.length ≤ 1000) : catL s (.lst xs) (.lst ys) = some (xs ++ ys) := by
  have hL : LINE = 16777216 := rfl
  simp only [catL, lstOf]; rw [if_pos (by omega)]
theorem comp_str (G : GX) (cur : Cur) (f : D → Store → R (Option D)) (s : Store) (xs : List D) (h : ∀ x ∈ xs, ∃ i : Int, x = .int i ∧ 0 ≤ i ∧ i ≤ 100)
    (hf : ∀ i : Int, 0 ≤ i → i ≤ 100 → f (.int i) s = .ok (some (.str (SX.S (TL.numL i.toNat)))) s) : compL [] f xs s = .ok (wsD (xs.map doorW)) s := by
  have : wsD (xs.map doorW) = xs.map (fun x => .str (SX.S (doorW x))) := by simp [wsD]
  rw [this]
  refine compL_map (stays_nil _) ?_
  intro x hx
  obtain ⟨i, rfl, h0, h1⟩ := h x hx
  exact hf i h0 h1
def netW (n : Int) (rs : List D) : List (List Nat) := TL.numL n.toNat :: rs.map roadW
theorem cat_road (i j : Int) (h0 : 0 ≤ i) (h1 : i ≤ 99) (h2 : 0 ≤ j) (h3 : j ≤ 99) : SX.S (TL.numL i.toNat) ++ SX.S [62] ++ SX.S (TL.numL j.toNat) = SX.S (roadW (.tup [.int i, .int j])) := by
  rw [SX.S_cat, SX.S_cat, roadW]; simp
theorem roadW_len {n : Int} (hn : n ≤ 16) {r : D} (h : isRoad n r = true) : (roadW r).length ≤ 5 := by
  obtain ⟨i, j, rfl, h1, h2, h3, h4, _⟩ := isRoad_ints h
  have a := numL_100 (i := i.toNat) (by omega)
  have b := numL_100 (i := j.toNat) (by omega)
  simp only [roadW, List.length_append, List.length_cons]; omega
theorem sum_le {b : Nat} : ∀ {l : List (List Nat)}, (∀ w ∈ l, w.length ≤ b) → (l.map List.length).sum ≤ b * l.length
  | [], _ => by simp
  | w :: l, h => by
    have := sum_le (l := l) (fun x hx => h x (by simp [hx]))
    have := h w (by simp)
    simp only [List.map_cons, List.sum_cons, List.length_cons]
    rw [Nat.mul_add]; omega
theorem r_net_text (k : Nat) (n : Int) (rs : List D) (s : Store) (h : netFault (.tup [.int n, .tup rs]) = none) (hp : D.plns rs = true) :
    Rn (k + 5) (8 : Nat) [.tup [.int n, .tup rs]] s = .ok (.str (SX.S (TL.joinL [32] (netW n rs)))) s := by
  obtain ⟨n', rs', e, h1, h2, h3, h4⟩ := netFault_none h
  simp only [D.tup.injEq, List.cons.injEq, and_true, D.int.injEq] at e
  obtain ⟨rfl, rfl⟩ := e
  have hr := roadsFault_none h4
  have hpln : (D.tup [.int n, .tup rs]).pln = true := by simp [D.pln, D.plns, hp]
  rw [Rn_at t_net_text rfl, b_net_text]
  have N := r_need_net k (.tup [.int n, .tup rs]) s hpln
  have C : compL [] (compF (GK (k + 4)) none [1, 2] (.tp [(.nm 1), (.nm 2)]) (.cst (.bl true)) (.bin .add (.bin .add (.bi .str (.cons (.var 1) .nil)) (.cst (.str (">" : PySem.Str)))) (.bi .str (.cons (.var 2) .nil))) [some (.tup [.int n, .tup rs]), none, none]) rs s
      = .ok (rs.map fun r => .str (SX.S (roadW r))) s := by
    refine compL_map (stays_nil _) ?_
    intro r hrm
    obtain ⟨i, j, rfl, i0, i1, j0, j1, _⟩ := isRoad_ints (hr r hrm)
    have s1 := str_int s (i := i) i0 (by omega)
    have s2 := str_int s (i := j) j0 (by omega)
    simp only [biD] at s1 s2
    have a := numL_100 (i := i.toNat) (by omega)
    have b := numL_100 (i := j.toNat) (by omega)
    have l1 : ((SX.S (TL.numL i.toNat)).length + (SX.S [62]).length ≤ 16777216) = True := by
      rw [SX.S_len, SX.S_len]; simp; omega
    have l2 : ((SX.S (TL.numL i.toNat) ++ SX.S [62]).length + (SX.S (TL.numL j.toNat)).length ≤ 16777216) = True := by
      rw [SX.S_cat, SX.S_len, SX.S_len]; simp; omega
    simp only [xs_nil, xs_cons, evs, compF, x_asg, x_put, x_xpr, x_ret, x_cond, x_loop_seq, x_loop_enum, x_loop_rng, x_loop_zip, x_whl, x_raise, x_raiseN, x_tryx, x_tryr, x_pass, x_brk, x_cont, loopR_enum, loopR_tup, loopR_lst, ev_var, e_cst, e_bin, e_neg, e_cmp, e_chn, e_and, e_or, e_not, e_ite, e_tup, e_lst, e_new, e_dct, e_ix, e_sl, e_call, e_bi, e_mt, e_app, e_isi, e_comp_seq, e_comp_rng, e_comp_enum, e_comp_zip, e_xfld, bind_ok, bind_exc, to_ok, to_exc, opt_some, then_nx, then_rt, then_exc, d_val, d_new, tru_bl, tru_non, fin_bl, fin_int, fin_str, fin_non, fin_xnon, fin_xint, GK_call, GK_sub, GK_fld, GK_hot, List.map_cons, List.map_nil, List.cons_append, List.nil_append, List.replicate_succ, List.replicate_zero, Nat.sub_self, Nat.reduceSub, List.getElem?_cons_zero, List.getElem?_cons_succ, List.set_cons_zero, List.set_cons_succ, wipe, bindT, bindTs, List.length_cons, List.length_nil, Nat.reduceAdd, Nat.reduceLT, Nat.reduceLeDiff, Nat.zero_le, binW, binD, compL, stays_nil, decide_true, decide_false, LINE, Int.cast_ofNat_Int, Int.reduceLE, Int.reduceLT, Int.natCast_zero, Int.natCast_one, ixL_0, ixL_1, ixL_2, eqD_int, eqD_str, ixD_tup, ixD_lst, biD, boolsOf, lstOf, Option.bind_some, List.all_cons, List.all_nil, id, isx_non, isx_bl, isx_int, isx_str, isx_tup, isx_lst, isx_frz, isx_ref, isx_exn, String.reduceBEq, Bool.or_false, Bool.or_true, Bool.true_or, Bool.false_or, Bool.and_true, Bool.true_and, Bool.and_false, Bool.false_and, reduceIte, Bool.false_eq_true, Option.map_some, Option.map_none, Bool.not_true, Bool.not_false, s1, s2, gt_S, l1, l2, cat_road i j i0 (by omega) j0 (by omega)]
  have sn := str_int s (i := n) (by omega) (by omega)
  simp only [biD] at sn
  have hC := cat_ok s (xs := [.str (SX.S (TL.numL n.toNat))]) (ys := rs.map fun r => .str (SX.S (roadW r))) (by simp; omega)
  have hlen : rs.length ≤ 16777216 := by omega
  have a := numL_100 (i := n.toNat) (by omega)
  have hW : ∀ w ∈ netW n rs, w.length ≤ 5 := by
    intro w hw; rw [netW, List.mem_cons, List.mem_map] at hw
    rcases hw with rfl | ⟨r, hrm, rfl⟩
    · omega
    · exact roadW_len h2 (hr r hrm)
  have hj := join_ws s 32 (netW n rs) (by
    have := sum_le hW
    have e : (netW n rs).length = rs.length + 1 := by simp [netW]
    have hL : LINE = 16777216 := rfl
    rw [e] at this ⊢; omega)
  have e2 : [D.str (SX.S (TL.numL n.toNat))] ++ rs.map (fun r => .str (SX.S (roadW r))) = wsD (netW n rs) := by simp [wsD, netW]
  rw [e2] at hC
  simp only [xs_nil, xs_cons, evs, compF, x_asg, x_put, x_xpr, x_ret, x_cond, x_loop_seq, x_loop_enum, x_loop_rng, x_loop_zip, x_whl, x_raise, x_raiseN, x_tryx, x_tryr, x_pass, x_brk, x_cont, loopR_enum, loopR_tup, loopR_lst, ev_var, e_cst, e_bin, e_neg, e_cmp, e_chn, e_and, e_or, e_not, e_ite, e_tup, e_lst, e_new, e_dct, e_ix, e_sl, e_call, e_bi, e_mt, e_app, e_isi, e_comp_seq, e_comp_rng, e_comp_enum, e_comp_zip, e_xfld, bind_ok, bind_exc, to_ok, to_exc, opt_some, then_nx, then_rt, then_exc, d_val, d_new, tru_bl, tru_non, fin_bl, fin_int, fin_str, fin_non, fin_xnon, fin_xint, GK_call, GK_sub, GK_fld, GK_hot, List.map_cons, List.map_nil, List.cons_append, List.nil_append, List.replicate_succ, List.replicate_zero, Nat.sub_self, Nat.reduceSub, List.getElem?_cons_zero, List.getElem?_cons_succ, List.set_cons_zero, List.set_cons_succ, wipe, bindT, bindTs, List.length_cons, List.length_nil, Nat.reduceAdd, Nat.reduceLT, Nat.reduceLeDiff, Nat.zero_le, binW, binD, compL, stays_nil, decide_true, decide_false, LINE, Int.cast_ofNat_Int, Int.reduceLE, Int.reduceLT, Int.natCast_zero, Int.natCast_one, ixL_0, ixL_1, ixL_2, eqD_int, eqD_str, ixD_tup, ixD_lst, biD, boolsOf, lstOf, Option.bind_some, List.all_cons, List.all_nil, id, isx_non, isx_bl, isx_int, isx_str, isx_tup, isx_lst, isx_frz, isx_ref, isx_exn, String.reduceBEq, Bool.or_false, Bool.or_true, Bool.true_or, Bool.false_or, Bool.and_true, Bool.true_and, Bool.and_false, Bool.false_and, reduceIte, Bool.false_eq_true, Option.map_some, Option.map_none, Bool.not_true, Bool.not_false, N, h, resOf, sp_S, rcvOk, itemsOf, srcOf, hlen, C, sn, hC, hj]
end K82
end

section
set_option Elab.async false
set_option linter.all false
set_option maxRecDepth 100000
set_option maxHeartbeats 0
namespace K82
open DW
open PySem (Str)
theorem joinL_app (c : Nat) : ∀ (a b : List (List Nat)), a ≠ [] → TL.joinL [c] (TL.joinL [c] a :: b) = TL.joinL [c] (a ++ b)
  | [], b, h => absurd rfl h
  | [p], b, _ => by cases b <;> rfl
  | p :: q :: r, b, _ => by
    have ih := joinL_app c (q :: r) b (by simp)
    cases b with
    | nil => simp [TL.joinL]
    | cons y b =>
      simp only [TL.joinL, List.cons_append, List.nil_append, List.append_assoc] at ih ⊢
      rw [← ih]
def pD (n : Int) (rs ins outs : List D) : D := .tup [.tup [.int n, .tup rs], .tup ins, .tup outs]
def wordsP (n : Int) (rs ins outs : List D) : List (List Nat) := netW n rs ++ IN :: (ins.map doorW ++ OUT :: outs.map doorW)
def textP (n : Int) (rs ins outs : List D) : Str := SX.S (TL.joinL [32] (wordsP n rs ins outs))
structure Pc (n : Int) (rs ins outs : List D) : Prop where
  n1 : 1 ≤ n
  n2 : n ≤ 16
  rl : rs.length ≤ 60
  rd : ∀ r ∈ rs, isRoad n r = true
  il : ins.length ≤ 5
  inn : ∀ d ∈ ins, isAm 0 (n - 1) d = true
  ol : outs.length ≤ 5
  out : ∀ d ∈ outs, isAm 0 (n - 1) d = true
  net : netFault (.tup [.int n, .tup rs]) = none
  pc : pieceFault (pD n rs ins outs) = none
theorem pc_of {d : D} (h : pieceFault d = none) : ∃ n rs ins outs, d = pD n rs ins outs ∧ Pc n rs ins outs := by
  obtain ⟨n, rs, ins, outs, e, h1, h2, h3, h4, h5, h6, h7, h8⟩ := pieceFault_none h
  refine ⟨n, rs, ins, outs, e, ?_⟩
  subst e
  refine ⟨h1, h2, h3, roadsFault_none h4, h5, doorsFault_none h6, h7, doorsFault_none h8, ?_, h⟩
  cases hn : netFault (.tup [.int n, .tup rs]) with
  | none => rfl
  | some p => simp [pieceFault, hn] at h
theorem am_int {n : Int} {d : D} (hn : n ≤ 16) (h : isAm 0 (n - 1) d = true) : ∃ i : Int, d = .int i ∧ 0 ≤ i ∧ i ≤ 15 := by
  obtain ⟨i, rfl⟩ := isAm_int h
  simp [isAm] at h
  exact ⟨i, rfl, h.1, by omega⟩
theorem plns_am {n : Int} {xs : List D} (h : ∀ d ∈ xs, isAm 0 (n - 1) d = true) : D.plns xs = true := by
  rw [D.plns_iff]; intro x hx; exact isAm_pln (h x hx)
theorem plns_road {n : Int} {xs : List D} (h : ∀ r ∈ xs, isRoad n r = true) : D.plns xs = true := by
  rw [D.plns_iff]; intro x hx
  obtain ⟨i, j, rfl, _⟩ := isRoad_ints (h x hx)
  simp [D.pln, D.plns]
theorem pD_pln {n : Int} {rs ins outs : List D} (h : Pc n rs ins outs) : (pD n rs ins outs).pln = true := by
  simp [pD, D.pln, D.plns, plns_road h.rd, plns_am h.inn, plns_am h.out]
theorem doors_len {n : Int} (hn : n ≤ 16) {xs : List D} (h : ∀ d ∈ xs, isAm 0 (n - 1) d = true) : ∀ w ∈ xs.map doorW, w.length ≤ 5 := by
  intro w hw; rw [List.mem_map] at hw
  obtain ⟨d, hd, rfl⟩ := hw
  obtain ⟨i, rfl, h0, h1⟩ := am_int hn (h d hd)
  have := numL_100 (i := i.toNat) (by omega)
  simp only [doorW]; omega
theorem netW_len {n : Int} {rs ins outs : List D} (h : Pc n rs ins outs) : ∀ w ∈ netW n rs, w.length ≤ 5 := by
  intro w hw; rw [netW, List.mem_cons, List.mem_map] at hw
  rcases hw with rfl | ⟨r, hrm, rfl⟩
  · have := numL_100 (i := n.toNat) (by have := h.n2; omega)
    omega
  · exact roadW_len h.n2 (h.rd r hrm)
theorem words_len {n : Int} {rs ins outs : List D} (h : Pc n rs ins outs) : ∀ w ∈ wordsP n rs ins outs, w.length ≤ 5 := by
  intro w hw
  simp only [wordsP, List.mem_append, List.mem_cons] at hw
  rcases hw with hw | rfl | hw | rfl | hw
  · exact netW_len h w hw
  · decide
  · exact doors_len h.n2 h.inn w hw
  · decide
  · exact doors_len h.n2 h.out w hw
theorem words_cnt {n : Int} {rs ins outs : List D} (h : Pc n rs ins outs) : (wordsP n rs ins outs).length ≤ 73 := by
  have h1 := h.rl
  have h2 := h.il
  have h3 := h.ol
  simp only [wordsP, netW, List.length_append, List.length_cons, List.length_map]; omega
theorem text_len {n : Int} {rs ins outs : List D} (h : Pc n rs ins outs) : (TL.joinL [32] (wordsP n rs ins outs)).length ≤ 500 := by
  have h1 := joinL_len 32 (wordsP n rs ins outs)
  have h2 := sum_le (words_len h)
  have h3 := words_cnt h
  omega
theorem r_piece_text_bad (k : Nat) (d : D) (s : Store) (hp : d.pln = true) (c : Nat) (p : D) (h : pieceFault d = some (c, p)) (hpp : p.pln = true) :
    Rn (k + 6) (12 : Nat) [d] s = .exc c p s := by
  rw [Rn_at t_piece_text rfl, b_piece_text]
  have P := r_need_piece k d s hp
  simp only [xs_nil, xs_cons, evs, compF, x_asg, x_put, x_xpr, x_ret, x_cond, x_loop_seq, x_loop_enum, x_loop_rng, x_loop_zip, x_whl, x_raise, x_raiseN, x_tryx, x_tryr, x_pass, x_brk, x_cont, loopR_enum, loopR_tup, loopR_lst, ev_var, e_cst, e_bin, e_neg, e_cmp, e_chn, e_and, e_or, e_not, e_ite, e_tup, e_lst, e_new, e_dct, e_ix, e_sl, e_call, e_bi, e_mt, e_app, e_isi, e_comp_seq, e_comp_rng, e_comp_enum, e_comp_zip, e_xfld, bind_ok, bind_exc, to_ok, to_exc, opt_some, then_nx, then_rt, then_exc, d_val, d_new, tru_bl, tru_non, fin_bl, fin_int, fin_str, fin_non, fin_xnon, fin_xint, GK_call, GK_sub, GK_fld, GK_hot, List.map_cons, List.map_nil, List.cons_append, List.nil_append, List.replicate_succ, List.replicate_zero, Nat.sub_self, Nat.reduceSub, List.getElem?_cons_zero, List.getElem?_cons_succ, List.set_cons_zero, List.set_cons_succ, wipe, bindT, bindTs, List.length_cons, List.length_nil, Nat.reduceAdd, Nat.reduceLT, Nat.reduceLeDiff, Nat.zero_le, binW, binD, compL, stays_nil, decide_true, decide_false, LINE, Int.cast_ofNat_Int, Int.reduceLE, Int.reduceLT, Int.natCast_zero, Int.natCast_one, ixL_0, ixL_1, ixL_2, eqD_int, eqD_str, ixD_tup, ixD_lst, biD, boolsOf, lstOf, Option.bind_some, List.all_cons, List.all_nil, id, isx_non, isx_bl, isx_int, isx_str, isx_tup, isx_lst, isx_frz, isx_ref, isx_exn, String.reduceBEq, Bool.or_false, Bool.or_true, Bool.true_or, Bool.false_or, Bool.and_true, Bool.true_and, Bool.and_false, Bool.false_and, reduceIte, Bool.false_eq_true, Option.map_some, Option.map_none, Bool.not_true, Bool.not_false, D.pln_isx hp, P, h, resP]
  exact fin_exc hpp
theorem r_piece_text (k : Nat) (n : Int) (rs ins outs : List D) (s : Store) (h : Pc n rs ins outs) :
    Rn (k + 6) (12 : Nat) [pD n rs ins outs] s = .ok (.str (textP n rs ins outs)) s := by
  rw [Rn_at t_piece_text rfl, b_piece_text]
  have P := r_need_piece k (pD n rs ins outs) s (pD_pln h)
  have N := r_net_text k n rs s h.net (plns_road h.rd)
  have hI : ∀ x ∈ ins, ∃ i : Int, x = .int i ∧ 0 ≤ i ∧ i ≤ 100 := fun x hx => by obtain ⟨i, e, h0, h1⟩ := am_int h.n2 (h.inn x hx); exact ⟨i, e, h0, by omega⟩
  have hO : ∀ x ∈ outs, ∃ i : Int, x = .int i ∧ 0 ≤ i ∧ i ≤ 100 := fun x hx => by obtain ⟨i, e, h0, h1⟩ := am_int h.n2 (h.out x hx); exact ⟨i, e, h0, by omega⟩
  have hE : ∀ i : Int, 0 ≤ i → i ≤ 100 → compF (GK (k + 5)) none [5] (.nm 5) (.cst (.bl true)) (.bi .str (.cons (.var 5) .nil)) [some (pD n rs ins outs), some (.tup [.int n, .tup rs]), some (.tup ins), some (.tup outs), none, none] (.int i) s = .ok (some (.str (SX.S (TL.numL i.toNat)))) s := by
    intro i h0 h1
    have s1 := str_int s h0 h1
    simp only [biD] at s1
    simp only [xs_nil, xs_cons, evs, compF, x_asg, x_put, x_xpr, x_ret, x_cond, x_loop_seq, x_loop_enum, x_loop_rng, x_loop_zip, x_whl, x_raise, x_raiseN, x_tryx, x_tryr, x_pass, x_brk, x_cont, loopR_enum, loopR_tup, loopR_lst, ev_var, e_cst, e_bin, e_neg, e_cmp, e_chn, e_and, e_or, e_not, e_ite, e_tup, e_lst, e_new, e_dct, e_ix, e_sl, e_call, e_bi, e_mt, e_app, e_isi, e_comp_seq, e_comp_rng, e_comp_enum, e_comp_zip, e_xfld, bind_ok, bind_exc, to_ok, to_exc, opt_some, then_nx, then_rt, then_exc, d_val, d_new, tru_bl, tru_non, fin_bl, fin_int, fin_str, fin_non, fin_xnon, fin_xint, GK_call, GK_sub, GK_fld, GK_hot, List.map_cons, List.map_nil, List.cons_append, List.nil_append, List.replicate_succ, List.replicate_zero, Nat.sub_self, Nat.reduceSub, List.getElem?_cons_zero, List.getElem?_cons_succ, List.set_cons_zero, List.set_cons_succ, wipe, bindT, bindTs, List.length_cons, List.length_nil, Nat.reduceAdd, Nat.reduceLT, Nat.reduceLeDiff, Nat.zero_le, binW, binD, compL, stays_nil, decide_true, decide_false, LINE, Int.cast_ofNat_Int, Int.reduceLE, Int.reduceLT, Int.natCast_zero, Int.natCast_one, ixL_0, ixL_1, ixL_2, eqD_int, eqD_str, ixD_tup, ixD_lst, biD, boolsOf, lstOf, Option.bind_some, List.all_cons, List.all_nil, id, isx_non, isx_bl, isx_int, isx_str, isx_tup, isx_lst, isx_frz, isx_ref, isx_exn, String.reduceBEq, Bool.or_false, Bool.or_true, Bool.true_or, Bool.false_or, Bool.and_true, Bool.true_and, Bool.and_false, Bool.false_and, reduceIte, Bool.false_eq_true, Option.map_some, Option.map_none, Bool.not_true, Bool.not_false, s1]
  have CI := comp_str (GK (k + 5)) none _ s ins hI hE
  have CO := comp_str (GK (k + 5)) none _ s outs hO hE
  have l1 := h.il
  have l2 := h.ol
  have l3 : ins.length ≤ 16777216 := by omega
  have l4 : outs.length ≤ 16777216 := by omega
  have c1 : catL s (.lst [.str (SX.S (TL.joinL [32] (netW n rs))), .str (SX.S IN)]) (.lst (wsD (ins.map doorW))) = some (wsD (TL.joinL [32] (netW n rs) :: IN :: ins.map doorW)) := by
    rw [cat_ok s (by simp [wsD]; omega)]; simp [wsD]
  have c2 : catL s (.lst (wsD (TL.joinL [32] (netW n rs) :: IN :: ins.map doorW))) (.lst [.str (SX.S OUT)]) = some (wsD (TL.joinL [32] (netW n rs) :: IN :: (ins.map doorW ++ [OUT]))) := by
    rw [cat_ok s (by simp [wsD]; omega)]; simp [wsD]
  have c3 : catL s (.lst (wsD (TL.joinL [32] (netW n rs) :: IN :: (ins.map doorW ++ [OUT])))) (.lst (wsD (outs.map doorW))) = some (wsD (TL.joinL [32] (netW n rs) :: IN :: (ins.map doorW ++ OUT :: outs.map doorW))) := by
    rw [cat_ok s (by simp [wsD]; omega)]; simp [wsD]
  have nl := netW_len h
  have jl := joinL_len 32 (netW n rs)
  have nl2 := sum_le nl
  have il := sum_le (doors_len h.n2 h.inn)
  have ol := sum_le (doors_len h.n2 h.out)
  have hj := join_ws s 32 (TL.joinL [32] (netW n rs) :: IN :: (ins.map doorW ++ OUT :: outs.map doorW)) (by
    have hL : LINE = 16777216 := rfl
    have e : (netW n rs).length = rs.length + 1 := by simp [netW]
    have := h.rl
    simp only [List.length_map] at il ol
    simp only [List.map_cons, List.map_append, List.sum_cons, List.sum_append, List.length_cons, List.length_append, List.length_map, List.length_nil]
    omega)
  have ht : textP n rs ins outs = SX.S (TL.joinL [32] (TL.joinL [32] (netW n rs) :: IN :: (ins.map doorW ++ OUT :: outs.map doorW))) := by
    rw [textP, wordsP, joinL_app 32 _ _ (by simp [netW])]
  have e0 : D.tup [D.tup [.int n, .tup rs], .tup ins, .tup outs] = pD n rs ins outs := rfl
  have hpc := h.pc
  rw [ht]
  simp only [pD] at P CI CO hpc ⊢
  simp only [xs_nil, xs_cons, evs, compF, x_asg, x_put, x_xpr, x_ret, x_cond, x_loop_seq, x_loop_enum, x_loop_rng, x_loop_zip, x_whl, x_raise, x_raiseN, x_tryx, x_tryr, x_pass, x_brk, x_cont, loopR_enum, loopR_tup, loopR_lst, ev_var, e_cst, e_bin, e_neg, e_cmp, e_chn, e_and, e_or, e_not, e_ite, e_tup, e_lst, e_new, e_dct, e_ix, e_sl, e_call, e_bi, e_mt, e_app, e_isi, e_comp_seq, e_comp_rng, e_comp_enum, e_comp_zip, e_xfld, bind_ok, bind_exc, to_ok, to_exc, opt_some, then_nx, then_rt, then_exc, d_val, d_new, tru_bl, tru_non, fin_bl, fin_int, fin_str, fin_non, fin_xnon, fin_xint, GK_call, GK_sub, GK_fld, GK_hot, List.map_cons, List.map_nil, List.cons_append, List.nil_append, List.replicate_succ, List.replicate_zero, Nat.sub_self, Nat.reduceSub, List.getElem?_cons_zero, List.getElem?_cons_succ, List.set_cons_zero, List.set_cons_succ, wipe, bindT, bindTs, List.length_cons, List.length_nil, Nat.reduceAdd, Nat.reduceLT, Nat.reduceLeDiff, Nat.zero_le, binW, binD, compL, stays_nil, decide_true, decide_false, LINE, Int.cast_ofNat_Int, Int.reduceLE, Int.reduceLT, Int.natCast_zero, Int.natCast_one, ixL_0, ixL_1, ixL_2, eqD_int, eqD_str, ixD_tup, ixD_lst, biD, boolsOf, lstOf, Option.bind_some, List.all_cons, List.all_nil, id, isx_non, isx_bl, isx_int, isx_str, isx_tup, isx_lst, isx_frz, isx_ref, isx_exn, String.reduceBEq, Bool.or_false, Bool.or_true, Bool.true_or, Bool.false_or, Bool.and_true, Bool.true_and, Bool.and_false, Bool.false_and, reduceIte, Bool.false_eq_true, Option.map_some, Option.map_none, Bool.not_true, Bool.not_false, P, hpc, resP, N, in_S, out_S, sp_S, rcvOk, itemsOf, srcOf, l3, l4, CI, CO, c1, c2, c3, hj]
end K82
end

section
set_option Elab.async false
set_option linter.all false
set_option maxRecDepth 100000
set_option maxHeartbeats 0
namespace K82
open DW
open PySem (Str)
theorem r_law_piece_words (k : Nat) (n : Int) (rs ins outs : List D) (s : Store) (h : Pc n rs ins outs) :
    Rn (k + 1) (19 : Nat) [pD n rs ins outs] s = .ok (.str (textP n rs ins outs)) s := by
  rw [Rn_at t_law_piece_words rfl, b_law_piece_words]
  have hI : ∀ x ∈ ins, ∃ i : Int, x = .int i ∧ 0 ≤ i ∧ i ≤ 100 := fun x hx => by obtain ⟨i, e, h0, h1⟩ := am_int h.n2 (h.inn x hx); exact ⟨i, e, h0, by omega⟩
  have hO : ∀ x ∈ outs, ∃ i : Int, x = .int i ∧ 0 ≤ i ∧ i ≤ 100 := fun x hx => by obtain ⟨i, e, h0, h1⟩ := am_int h.n2 (h.out x hx); exact ⟨i, e, h0, by omega⟩
  have hE : ∀ (v : Option D) (i : Int), 0 ≤ i → i ≤ 100 → compF (GK k) none [8] (.nm 8) (.cst (.bl true)) (.bi .str (.cons (.var 8) .nil)) [some (pD n rs ins outs), some (.int n), some (.tup rs), some (.tup ins), some (.tup outs), v, none, none, none] (.int i) s = .ok (some (.str (SX.S (TL.numL i.toNat)))) s := by
    intro v i h0 h1
    have s1 := str_int s h0 h1
    simp only [biD] at s1
    simp only [xs_nil, xs_cons, evs, compF, x_asg, x_put, x_xpr, x_ret, x_cond, x_loop_seq, x_loop_enum, x_loop_rng, x_loop_zip, x_whl, x_raise, x_raiseN, x_tryx, x_tryr, x_pass, x_brk, x_cont, loopR_enum, loopR_tup, loopR_lst, ev_var, e_cst, e_bin, e_neg, e_cmp, e_chn, e_and, e_or, e_not, e_ite, e_tup, e_lst, e_new, e_dct, e_ix, e_sl, e_call, e_bi, e_mt, e_app, e_isi, e_comp_seq, e_comp_rng, e_comp_enum, e_comp_zip, e_xfld, bind_ok, bind_exc, to_ok, to_exc, opt_some, then_nx, then_rt, then_exc, d_val, d_new, tru_bl, tru_non, fin_bl, fin_int, fin_str, fin_non, fin_xnon, fin_xint, GK_call, GK_sub, GK_fld, GK_hot, List.map_cons, List.map_nil, List.cons_append, List.nil_append, List.replicate_succ, List.replicate_zero, Nat.sub_self, Nat.reduceSub, List.getElem?_cons_zero, List.getElem?_cons_succ, List.set_cons_zero, List.set_cons_succ, wipe, bindT, bindTs, List.length_cons, List.length_nil, Nat.reduceAdd, Nat.reduceLT, Nat.reduceLeDiff, Nat.zero_le, binW, binD, compL, stays_nil, decide_true, decide_false, LINE, Int.cast_ofNat_Int, Int.reduceLE, Int.reduceLT, Int.natCast_zero, Int.natCast_one, ixL_0, ixL_1, ixL_2, eqD_int, eqD_str, ixD_tup, ixD_lst, biD, boolsOf, lstOf, Option.bind_some, List.all_cons, List.all_nil, id, isx_non, isx_bl, isx_int, isx_str, isx_tup, isx_lst, isx_frz, isx_ref, isx_exn, String.reduceBEq, Bool.or_false, Bool.or_true, Bool.true_or, Bool.false_or, Bool.and_true, Bool.true_and, Bool.and_false, Bool.false_and, reduceIte, Bool.false_eq_true, Option.map_some, Option.map_none, Bool.not_true, Bool.not_false, s1]
  have hR : compL [] (compF (GK k) none [6, 7] (.tp [(.nm 6), (.nm 7)]) (.cst (.bl true)) (.bin .add (.bin .add (.bi .str (.cons (.var 6) .nil)) (.cst (.str (">" : PySem.Str)))) (.bi .str (.cons (.var 7) .nil))) [some (pD n rs ins outs), some (.int n), some (.tup rs), some (.tup ins), some (.tup outs), none, none, none, none]) rs s
      = .ok (wsD (rs.map roadW)) s := by
    have : wsD (rs.map roadW) = rs.map (fun r => .str (SX.S (roadW r))) := by simp [wsD]
    rw [this]
    refine compL_map (stays_nil _) ?_
    intro r hrm
    obtain ⟨i, j, rfl, i0, i1, j0, j1, _⟩ := isRoad_ints (h.rd r hrm)
    have h2 := h.n2
    have s1 := str_int s (i := i) i0 (by omega)
    have s2 := str_int s (i := j) j0 (by omega)
    simp only [biD] at s1 s2
    have a := numL_100 (i := i.toNat) (by omega)
    have b := numL_100 (i := j.toNat) (by omega)
    have l1 : ((SX.S (TL.numL i.toNat)).length + (SX.S [62]).length ≤ 16777216) = True := by
      rw [SX.S_len, SX.S_len]; simp; omega
    have l2 : ((SX.S (TL.numL i.toNat) ++ SX.S [62]).length + (SX.S (TL.numL j.toNat)).length ≤ 16777216) = True := by
      rw [SX.S_cat, SX.S_len, SX.S_len]; simp; omega
    simp only [xs_nil, xs_cons, evs, compF, x_asg, x_put, x_xpr, x_ret, x_cond, x_loop_seq, x_loop_enum, x_loop_rng, x_loop_zip, x_whl, x_raise, x_raiseN, x_tryx, x_tryr, x_pass, x_brk, x_cont, loopR_enum, loopR_tup, loopR_lst, ev_var, e_cst, e_bin, e_neg, e_cmp, e_chn, e_and, e_or, e_not, e_ite, e_tup, e_lst, e_new, e_dct, e_ix, e_sl, e_call, e_bi, e_mt, e_app, e_isi, e_comp_seq, e_comp_rng, e_comp_enum, e_comp_zip, e_xfld, bind_ok, bind_exc, to_ok, to_exc, opt_some, then_nx, then_rt, then_exc, d_val, d_new, tru_bl, tru_non, fin_bl, fin_int, fin_str, fin_non, fin_xnon, fin_xint, GK_call, GK_sub, GK_fld, GK_hot, List.map_cons, List.map_nil, List.cons_append, List.nil_append, List.replicate_succ, List.replicate_zero, Nat.sub_self, Nat.reduceSub, List.getElem?_cons_zero, List.getElem?_cons_succ, List.set_cons_zero, List.set_cons_succ, wipe, bindT, bindTs, List.length_cons, List.length_nil, Nat.reduceAdd, Nat.reduceLT, Nat.reduceLeDiff, Nat.zero_le, binW, binD, compL, stays_nil, decide_true, decide_false, LINE, Int.cast_ofNat_Int, Int.reduceLE, Int.reduceLT, Int.natCast_zero, Int.natCast_one, ixL_0, ixL_1, ixL_2, eqD_int, eqD_str, ixD_tup, ixD_lst, biD, boolsOf, lstOf, Option.bind_some, List.all_cons, List.all_nil, id, isx_non, isx_bl, isx_int, isx_str, isx_tup, isx_lst, isx_frz, isx_ref, isx_exn, String.reduceBEq, Bool.or_false, Bool.or_true, Bool.true_or, Bool.false_or, Bool.and_true, Bool.true_and, Bool.and_false, Bool.false_and, reduceIte, Bool.false_eq_true, Option.map_some, Option.map_none, Bool.not_true, Bool.not_false, s1, s2, gt_S, l1, l2, cat_road i j i0 (by omega) j0 (by omega)]
  have CI := fun v => comp_str (GK k) none _ s ins hI (hE v)
  have CO := fun v => comp_str (GK k) none _ s outs hO (hE v)
  have l0 := h.rl
  have l1 := h.il
  have l2 := h.ol
  have l3 : ins.length ≤ 16777216 := by omega
  have l4 : outs.length ≤ 16777216 := by omega
  have l5 : rs.length ≤ 16777216 := by omega
  have n1 := h.n1
  have n2 := h.n2
  have sn := str_int s (i := n) (by omega) (by omega)
  simp only [biD] at sn
  have c1 : catL s (.lst [.str (SX.S (TL.numL n.toNat))]) (.lst (wsD (rs.map roadW))) = some (wsD (netW n rs)) := by
    rw [cat_ok s (by simp [wsD]; omega)]; simp [wsD, netW]
  have c2 : catL s (.lst (wsD (netW n rs))) (.lst [.str (SX.S IN)]) = some (wsD (netW n rs ++ [IN])) := by
    rw [cat_ok s (by simp [wsD, netW]; omega)]; simp [wsD]
  have c3 : catL s (.lst (wsD (netW n rs ++ [IN]))) (.lst (wsD (ins.map doorW))) = some (wsD (netW n rs ++ IN :: ins.map doorW)) := by
    rw [cat_ok s (by simp [wsD, netW]; omega)]; simp [wsD]
  have c4 : catL s (.lst (wsD (netW n rs ++ IN :: ins.map doorW))) (.lst [.str (SX.S OUT)]) = some (wsD (netW n rs ++ IN :: (ins.map doorW ++ [OUT]))) := by
    rw [cat_ok s (by simp [wsD, netW]; omega)]; simp [wsD]
  have c5 : catL s (.lst (wsD (netW n rs ++ IN :: (ins.map doorW ++ [OUT])))) (.lst (wsD (outs.map doorW))) = some (wsD (wordsP n rs ins outs)) := by
    rw [cat_ok s (by simp [wsD, netW]; omega)]; simp [wsD, wordsP]
  have hj := join_ws s 32 (wordsP n rs ins outs) (by
    have h2 := sum_le (words_len h)
    have h3 := words_cnt h
    have hL : LINE = 16777216 := rfl
    omega)
  simp only [pD] at hR CI CO ⊢
  simp only [xs_nil, xs_cons, evs, compF, x_asg, x_put, x_xpr, x_ret, x_cond, x_loop_seq, x_loop_enum, x_loop_rng, x_loop_zip, x_whl, x_raise, x_raiseN, x_tryx, x_tryr, x_pass, x_brk, x_cont, loopR_enum, loopR_tup, loopR_lst, ev_var, e_cst, e_bin, e_neg, e_cmp, e_chn, e_and, e_or, e_not, e_ite, e_tup, e_lst, e_new, e_dct, e_ix, e_sl, e_call, e_bi, e_mt, e_app, e_isi, e_comp_seq, e_comp_rng, e_comp_enum, e_comp_zip, e_xfld, bind_ok, bind_exc, to_ok, to_exc, opt_some, then_nx, then_rt, then_exc, d_val, d_new, tru_bl, tru_non, fin_bl, fin_int, fin_str, fin_non, fin_xnon, fin_xint, GK_call, GK_sub, GK_fld, GK_hot, List.map_cons, List.map_nil, List.cons_append, List.nil_append, List.replicate_succ, List.replicate_zero, Nat.sub_self, Nat.reduceSub, List.getElem?_cons_zero, List.getElem?_cons_succ, List.set_cons_zero, List.set_cons_succ, wipe, bindT, bindTs, List.length_cons, List.length_nil, Nat.reduceAdd, Nat.reduceLT, Nat.reduceLeDiff, Nat.zero_le, binW, binD, compL, stays_nil, decide_true, decide_false, LINE, Int.cast_ofNat_Int, Int.reduceLE, Int.reduceLT, Int.natCast_zero, Int.natCast_one, ixL_0, ixL_1, ixL_2, eqD_int, eqD_str, ixD_tup, ixD_lst, biD, boolsOf, lstOf, Option.bind_some, List.all_cons, List.all_nil, id, isx_non, isx_bl, isx_int, isx_str, isx_tup, isx_lst, isx_frz, isx_ref, isx_exn, String.reduceBEq, Bool.or_false, Bool.or_true, Bool.true_or, Bool.false_or, Bool.and_true, Bool.true_and, Bool.and_false, Bool.false_and, reduceIte, Bool.false_eq_true, Option.map_some, Option.map_none, Bool.not_true, Bool.not_false, in_S, out_S, sp_S, rcvOk, itemsOf, srcOf, l3, l4, l5, hR, CI, CO, c1, c2, c3, c4, c5, hj, sn, textP]
theorem fig_all : ∀ m < 17, figOf (TL.numL m) = .int (m : Nat) := by decide +kernel
theorem road_all : ∀ i < 16, ∀ j < 16, roadOf (TL.numL i ++ 62 :: TL.numL j) = .tup [.int (i : Nat), .int (j : Nat)] := by decide +kernel
theorem not_num {x : List Nat} {c : Nat} (hc : c ∈ x) (h : c < 48 ∨ 57 < c) (m : Nat) : x ≠ TL.numL m := by
  intro e; exact TL.numL_free (n := m) h (e ▸ hc)
theorem net_IN {n : Int} {rs : List D} (h : ∀ r ∈ rs, isRoad n r = true) : IN ∉ netW n rs := by
  intro hm
  rw [netW, List.mem_cons, List.mem_map] at hm
  rcases hm with hm | ⟨r, hr, hm⟩
  · exact not_num (x := IN) (c := 105) (by simp) (by omega) _ hm
  · obtain ⟨i, j, rfl, _⟩ := isRoad_ints (h r hr)
    have : 62 ∈ IN := by rw [← hm]; simp [roadW]
    simp at this
theorem doors_OUT {n : Int} (hn : n ≤ 16) {xs : List D} (h : ∀ d ∈ xs, isAm 0 (n - 1) d = true) : OUT ∉ xs.map doorW := by
  intro hm
  rw [List.mem_map] at hm
  obtain ⟨d, hd, e⟩ := hm
  obtain ⟨i, rfl, _, _⟩ := am_int hn (h d hd)
  exact not_num (x := OUT) (c := 111) (by simp) (by omega) _ e.symm
theorem doors_back {n : Int} (hn : n ≤ 16) {xs : List D} (h : ∀ d ∈ xs, isAm 0 (n - 1) d = true) : (xs.map doorW).map numOf = xs := by
  rw [List.map_map]
  conv => rhs; rw [← List.map_id xs]
  apply List.map_congr_left
  intro d hd
  obtain ⟨i, rfl, h0, h1⟩ := am_int hn (h d hd)
  have := fig_num (fig_all i.toNat (by omega))
  simp only [Function.comp, doorW, this, id]
  congr 1; omega
theorem roads_back {n : Int} (hn : n ≤ 16) {xs : List D} (h : ∀ r ∈ xs, isRoad n r = true) : (xs.map roadW).map roadOf = xs := by
  rw [List.map_map]
  conv => rhs; rw [← List.map_id xs]
  apply List.map_congr_left
  intro d hd
  obtain ⟨i, j, rfl, i0, i1, j0, j1, _⟩ := isRoad_ints (h d hd)
  have := road_all i.toNat (by omega) j.toNat (by omega)
  simp only [Function.comp, roadW, this, id]
  rw [show ((i.toNat : Nat) : Int) = i by omega, show ((j.toNat : Nat) : Int) = j by omega]
theorem read_words {n : Int} {rs ins outs : List D} (h : Pc n rs ins outs) : readP (wordsP n rs ins outs) = some (pD n rs ins outs) := by
  have n1 := h.n1
  have n2 := h.n2
  have e : pieceD (netW n rs) (ins.map doorW) (outs.map doorW) = pD n rs ins outs := by
    have hf := fig_all n.toNat (by omega)
    rw [show ((n.toNat : Nat) : Int) = n by omega] at hf
    have ho : orE (netW n rs) = netW n rs := by simp [orE, netW]
    rw [pieceD, ho, netW, netOf, hf, roads_back h.n2 h.rd, doors_back h.n2 h.inn, doors_back h.n2 h.out]; rfl
  simp only [readP, wordsP, cutAt_mem (net_IN h.rd), cutAt_mem (doors_OUT h.n2 h.inn), e]
  exact okP_of h.pc
theorem words_sp {n : Int} {rs ins outs : List D} (h : Pc n rs ins outs) : ∀ w ∈ wordsP n rs ins outs, 32 ∉ w := by
  have hn : ∀ m, 32 ∉ TL.numL m := fun m => TL.numL_free (by omega)
  have hd : ∀ {xs : List D}, (∀ d ∈ xs, isAm 0 (n - 1) d = true) → ∀ w ∈ xs.map doorW, 32 ∉ w := by
    intro xs hx w hw
    rw [List.mem_map] at hw
    obtain ⟨d, hd, rfl⟩ := hw
    obtain ⟨i, rfl, _, _⟩ := am_int h.n2 (hx d hd)
    exact hn _
  intro w hw
  simp only [wordsP, netW, List.mem_append, List.mem_cons] at hw
  rcases hw with (rfl | hw) | rfl | hw | rfl | hw
  · exact hn _
  · rw [List.mem_map] at hw
    obtain ⟨r, hr, rfl⟩ := hw
    obtain ⟨i, j, rfl, _⟩ := isRoad_ints (h.rd r hr)
    simp only [roadW, List.mem_append, List.mem_cons, not_or]
    exact ⟨hn _, by decide, hn _⟩
  · decide
  · exact hd h.inn w hw
  · decide
  · exact hd h.out w hw

theorem r_read_text (k : Nat) (n : Int) (rs ins outs : List D) (s : Store) (h : Pc n rs ins outs) :
    Rn (k + 6) (14 : Nat) [.str (textP n rs ins outs)] s = .ok (pD n rs ins outs) s := by
  have hl := text_len h
  have hL : LINE = 16777216 := rfl
  rw [textP, r_read_piece k _ s (by omega), SX.spl_join (by simp [wordsP, netW]) (words_sp h), read_words h]; rfl

theorem r_law_told (k : Nat) (l : List Nat) (s : Store) (hl : l.length + 6 ≤ LINE) :
    Rn (k + 7) (26 : Nat) [.str (SX.S l)] s = .ok (orN (readP (TL.spl [32] 0 [] l))) s := by
  rw [Rn_at t_law_told rfl, b_law_told]
  have P := r_read_piece k l s hl
  cases h : readP (TL.spl [32] 0 [] l) with
  | some p =>
    have hp : p.pln = true := by
      simp only [readP] at h
      split at h
      · cases h
      · split at h
        · cases h
        · obtain ⟨rfl, _⟩ := okP_some h; exact pieceD_pln _ _ _
    rw [h, readR] at P
    simp only [xs_nil, xs_cons, evs, compF, x_asg, x_put, x_xpr, x_ret, x_cond, x_loop_seq, x_loop_enum, x_loop_rng, x_loop_zip, x_whl, x_raise, x_raiseN, x_tryx, x_tryr, x_pass, x_brk, x_cont, loopR_enum, loopR_tup, loopR_lst, ev_var, e_cst, e_bin, e_neg, e_cmp, e_chn, e_and, e_or, e_not, e_ite, e_tup, e_lst, e_new, e_dct, e_ix, e_sl, e_call, e_bi, e_mt, e_app, e_isi, e_comp_seq, e_comp_rng, e_comp_enum, e_comp_zip, e_xfld, bind_ok, bind_exc, to_ok, to_exc, opt_some, then_nx, then_rt, then_exc, d_val, d_new, tru_bl, tru_non, fin_bl, fin_int, fin_str, fin_non, fin_xnon, fin_xint, GK_call, GK_sub, GK_fld, GK_hot, List.map_cons, List.map_nil, List.cons_append, List.nil_append, List.replicate_succ, List.replicate_zero, Nat.sub_self, Nat.reduceSub, List.getElem?_cons_zero, List.getElem?_cons_succ, List.set_cons_zero, List.set_cons_succ, wipe, bindT, bindTs, List.length_cons, List.length_nil, Nat.reduceAdd, Nat.reduceLT, Nat.reduceLeDiff, Nat.zero_le, binW, binD, compL, stays_nil, decide_true, decide_false, LINE, Int.cast_ofNat_Int, Int.reduceLE, Int.reduceLT, Int.natCast_zero, Int.natCast_one, ixL_0, ixL_1, ixL_2, eqD_int, eqD_str, ixD_tup, ixD_lst, biD, boolsOf, lstOf, Option.bind_some, List.all_cons, List.all_nil, id, isx_non, isx_bl, isx_int, isx_str, isx_tup, isx_lst, isx_frz, isx_ref, isx_exn, String.reduceBEq, Bool.or_false, Bool.or_true, Bool.true_or, Bool.false_or, Bool.and_true, Bool.true_and, Bool.and_false, Bool.false_and, reduceIte, Bool.false_eq_true, Option.map_some, Option.map_none, Bool.not_true, Bool.not_false, P, orN]
    exact fin_rt hp
  | none =>
    rw [h, readR] at P
    have hf : Y.fld 2 = ("place" : Str) := by decide +kernel
    simp only [xs_nil, xs_cons, evs, compF, x_asg, x_put, x_xpr, x_ret, x_cond, x_loop_seq, x_loop_enum, x_loop_rng, x_loop_zip, x_whl, x_raise, x_raiseN, x_tryx, x_tryr, x_pass, x_brk, x_cont, loopR_enum, loopR_tup, loopR_lst, ev_var, e_cst, e_bin, e_neg, e_cmp, e_chn, e_and, e_or, e_not, e_ite, e_tup, e_lst, e_new, e_dct, e_ix, e_sl, e_call, e_bi, e_mt, e_app, e_isi, e_comp_seq, e_comp_rng, e_comp_enum, e_comp_zip, e_xfld, bind_ok, bind_exc, to_ok, to_exc, opt_some, then_nx, then_rt, then_exc, d_val, d_new, tru_bl, tru_non, fin_bl, fin_int, fin_str, fin_non, fin_xnon, fin_xint, GK_call, GK_sub, GK_fld, GK_hot, List.map_cons, List.map_nil, List.cons_append, List.nil_append, List.replicate_succ, List.replicate_zero, Nat.sub_self, Nat.reduceSub, List.getElem?_cons_zero, List.getElem?_cons_succ, List.set_cons_zero, List.set_cons_succ, wipe, bindT, bindTs, List.length_cons, List.length_nil, Nat.reduceAdd, Nat.reduceLT, Nat.reduceLeDiff, Nat.zero_le, binW, binD, compL, stays_nil, decide_true, decide_false, LINE, Int.cast_ofNat_Int, Int.reduceLE, Int.reduceLT, Int.natCast_zero, Int.natCast_one, ixL_0, ixL_1, ixL_2, eqD_int, eqD_str, ixD_tup, ixD_lst, biD, boolsOf, lstOf, Option.bind_some, List.all_cons, List.all_nil, id, isx_non, isx_bl, isx_int, isx_str, isx_tup, isx_lst, isx_frz, isx_ref, isx_exn, String.reduceBEq, Bool.or_false, Bool.or_true, Bool.true_or, Bool.false_or, Bool.and_true, Bool.true_and, Bool.and_false, Bool.false_and, reduceIte, Bool.false_eq_true, Option.map_some, Option.map_none, Bool.not_true, Bool.not_false, P, orN, exh, sub_22, hf, cmpD]
theorem r_law_told_no (k : Nat) (d : D) (s : Store) (hx : d.isx = false) (hd : isiD s "str" d = some false) :
    Rn (k + 7) (26 : Nat) [d] s = .ok .non s := by
  rw [Rn_at t_law_told rfl, b_law_told]
  have P := r_read_piece_no k d s hx hd
  have hf : Y.fld 2 = ("place" : Str) := by decide +kernel
  simp only [xs_nil, xs_cons, evs, compF, x_asg, x_put, x_xpr, x_ret, x_cond, x_loop_seq, x_loop_enum, x_loop_rng, x_loop_zip, x_whl, x_raise, x_raiseN, x_tryx, x_tryr, x_pass, x_brk, x_cont, loopR_enum, loopR_tup, loopR_lst, ev_var, e_cst, e_bin, e_neg, e_cmp, e_chn, e_and, e_or, e_not, e_ite, e_tup, e_lst, e_new, e_dct, e_ix, e_sl, e_call, e_bi, e_mt, e_app, e_isi, e_comp_seq, e_comp_rng, e_comp_enum, e_comp_zip, e_xfld, bind_ok, bind_exc, to_ok, to_exc, opt_some, then_nx, then_rt, then_exc, d_val, d_new, tru_bl, tru_non, fin_bl, fin_int, fin_str, fin_non, fin_xnon, fin_xint, GK_call, GK_sub, GK_fld, GK_hot, List.map_cons, List.map_nil, List.cons_append, List.nil_append, List.replicate_succ, List.replicate_zero, Nat.sub_self, Nat.reduceSub, List.getElem?_cons_zero, List.getElem?_cons_succ, List.set_cons_zero, List.set_cons_succ, wipe, bindT, bindTs, List.length_cons, List.length_nil, Nat.reduceAdd, Nat.reduceLT, Nat.reduceLeDiff, Nat.zero_le, binW, binD, compL, stays_nil, decide_true, decide_false, LINE, Int.cast_ofNat_Int, Int.reduceLE, Int.reduceLT, Int.natCast_zero, Int.natCast_one, ixL_0, ixL_1, ixL_2, eqD_int, eqD_str, ixD_tup, ixD_lst, biD, boolsOf, lstOf, Option.bind_some, List.all_cons, List.all_nil, id, isx_non, isx_bl, isx_int, isx_str, isx_tup, isx_lst, isx_frz, isx_ref, isx_exn, String.reduceBEq, Bool.or_false, Bool.or_true, Bool.true_or, Bool.false_or, Bool.and_true, Bool.true_and, Bool.and_false, Bool.false_and, reduceIte, Bool.false_eq_true, Option.map_some, Option.map_none, Bool.not_true, Bool.not_false, hx, P, exh, sub_22, hf, cmpD]

theorem orN_fl (ws : List (List Nat)) : D.fl 4 (orN (readP ws)) = true := by
  cases h : readP ws with
  | none => rfl
  | some p =>
    have hq : pieceFault p = none := by
      simp only [readP] at h
      split at h
      · cases h
      · split at h
        · cases h
        · obtain ⟨rfl, h'⟩ := okP_some h; exact h'
    obtain ⟨n, rs, ins, outs, rfl, P⟩ := pc_of hq
    have hD : ∀ (k : Nat) {xs : List D}, (∀ d ∈ xs, isAm 0 (n - 1) d = true) → D.fls (k + 1) xs = true := by
      intro k xs hx
      induction xs with
      | nil => rfl
      | cons x xs ih =>
        obtain ⟨i, rfl, _⟩ := am_int P.n2 (hx x (by simp))
        simp only [D.fls, D.fl, Bool.true_and]
        exact ih fun y hy => hx y (by simp [hy])
    have hR : ∀ {xs : List D}, (∀ r ∈ xs, isRoad n r = true) → D.fls 1 xs = true := by
      intro xs hx
      induction xs with
      | nil => rfl
      | cons x xs ih =>
        obtain ⟨i, j, rfl, _⟩ := isRoad_ints (hx x (by simp))
        simp only [D.fls, D.fl, Bool.true_and, Bool.and_true]
        simp only [List.length_cons, List.length_nil, decide_true, Bool.true_and]
        exact ih fun y hy => hx y (by simp [hy])
    have h1 := P.rl
    have h2 := P.il
    have h3 := P.ol
    simp only [orN, pD, D.fl, D.fls, hD 1 P.inn, hD 1 P.out, hR P.rd]
    simp; omega
end K82
end

section
set_option Elab.async false
set_option linter.all false
set_option maxRecDepth 100000
set_option maxHeartbeats 0
namespace K82
open DW
open PySem (Str)
abbrev kCells : D := .str ("cells" : Str)
abbrev kAt : D := .str ("at" : Str)
abbrev kLeft : D := .str ("left" : Str)

structure MSt (S : Store) (r a b : Nat) (n : Nat) : Prop where
  tab : ∃ (t : Int) (cells left : List Int), S[r]? = some (.dct false [(kCells, .ref a), (kAt, .int t), (kLeft, .ref b)]) ∧
    S[a]? = some (.lst (cells.map D.int)) ∧ S[b]? = some (.lst (left.map D.int)) ∧ 0 ≤ t ∧ t ≤ n ∧ cells.length ≤ 1000

structure Lat (S S' : Store) (r b b' : Nat) : Prop where
  len : S.length ≤ S'.length
  kp : ∀ i o, S[i]? = some o → i ≠ r → i ≠ b → S'[i]? = some o ∧ i ≠ b'
theorem MSt.mono {S : Store} {r a b n m : Nat} (h : MSt S r a b n) (hm : n ≤ m) : MSt S r a b m := by
  obtain ⟨t, cells, left, h1, h2, h3, h4, h5, h6⟩ := h.tab
  exact ⟨t, cells, left, h1, h2, h3, h4, by omega, h6⟩
theorem Lat.refl (S : Store) (r b : Nat) : Lat S S r b b := ⟨Nat.le_refl _, fun i o h h1 h2 => ⟨h, h2⟩⟩
theorem Lat.trans {S S1 S2 : Store} {r b b1 b2 : Nat} (h : Lat S S1 r b b1) (h' : Lat S1 S2 r b1 b2) : Lat S S2 r b b2 :=
  ⟨Nat.le_trans h.len h'.len, fun i o hi h1 h2 => by
    obtain ⟨x, y⟩ := h.kp i o hi h1 h2
    exact h'.kp i o x h1 y⟩
theorem gc_or (S S' : Store) (d : D) : gc S S' d = S' ∨ (gc S S' d = S ∧ S'.take S.length = S) := by
  unfold gc
  split
  · rename_i h
    simp only [Bool.and_eq_true, decide_eq_true_eq] at h
    exact .inr ⟨rfl, h.2⟩
  · exact .inl rfl
theorem fin_gc {S S' : Store} {d : D} (h : d.pln = true) : fin S (.rt d S') = .ok d (gc S S' d) := by
  simp only [fin, D.pln_und _ h, if_true]
theorem dgetC (a : Nat) (t : Int) (b : Nat) : dget [(kCells, .ref a), (kAt, .int t), (kLeft, .ref b)] kCells = some (.ref a) := by
  simp only [dget, List.find?_cons, decide_true]; rfl
theorem nCA : ¬ kCells = kAt := by decide +kernel
theorem nCL : ¬ kCells = kLeft := by decide +kernel
theorem nAL : ¬ kAt = kLeft := by decide +kernel
theorem sCA : ¬ ("cells" : Str) = ("at" : Str) := by decide +kernel
theorem sCL : ¬ ("cells" : Str) = ("left" : Str) := by decide +kernel
theorem sAL : ¬ ("at" : Str) = ("left" : Str) := by decide +kernel
theorem sLA : ¬ ("left" : Str) = ("at" : Str) := by decide +kernel
theorem dgetA (a : Nat) (t : Int) (b : Nat) : dget [(kCells, .ref a), (kAt, .int t), (kLeft, .ref b)] kAt = some (.int t) := by
  simp only [dget, List.find?_cons, nCA, decide_true, decide_false]; rfl
theorem dgetL (a : Nat) (t : Int) (b : Nat) : dget [(kCells, .ref a), (kAt, .int t), (kLeft, .ref b)] kLeft = some (.ref b) := by
  simp only [dget, List.find?_cons, nCL, nAL, decide_true, decide_false]; rfl
theorem dputA (a : Nat) (t u : Int) (b : Nat) : dput [(kCells, .ref a), (kAt, .int t), (kLeft, .ref b)] kAt (.int u) = [(kCells, .ref a), (kAt, .int u), (kLeft, .ref b)] := by
  simp [dput, sCA, sLA]
theorem dputL (a : Nat) (t : Int) (b c : Nat) : dput [(kCells, .ref a), (kAt, .int t), (kLeft, .ref b)] kLeft (.ref c) = [(kCells, .ref a), (kAt, .int t), (kLeft, .ref c)] := by
  simp [dput, sCL, sAL]

theorem ixD_at {S : Store} {n : Nat} {o : List D} (h : S[n]? = some (.lst o)) (i : D) : ixD S (.ref n) i = ixL o i := by
  simp only [ixD, h]
theorem ixD_key {S : Store} {n : Nat} {o : List (D × D)} (h : S[n]? = some (.dct false o)) (k : Str) : ixD S (.ref n) (.str k) = dget o (.str k) := by
  simp only [ixD, h, keyOk, flatKey]; rfl
theorem putD_key {S : Store} {n : Nat} {o : List (D × D)} (h : S[n]? = some (.dct false o)) (hl : o.length ≤ 100) (k : Str) (v : D) : putD S (.ref n) (.str k) v = some (S.set n (.dct false (dput o (.str k) v))) := by
  have e : (keyOk false (D.str k) && decide (o.length < LINE)) = true := by
    have hL : LINE = 16777216 := rfl
    simp [keyOk, flatKey]; omega
  simp only [putD, h, e, if_true]
theorem putD_0 {S : Store} {n : Nat} {x : D} {o : List D} (h : S[n]? = some (.lst (x :: o))) (v : D) : putD S (.ref n) (.int 0) v = some (S.set n (.lst (v :: o))) := by
  have e : L2.ixN (x :: o).length 0 = some 0 := by simp only [L2.ixN, List.length_cons]; rw [if_pos (by omega), if_pos (by omega)]; rfl
  simp only [putD, h, e, Option.map_some, List.set_cons_zero]
theorem res_ints (S : Store) (k : Nat) (is : List Int) : (is.map D.int).mapM (res S (k + 1)) = some (is.map D.int) :=
  mapM_id fun x hx => by rw [List.mem_map] at hx; obtain ⟨i, _, rfl⟩ := hx; rfl
theorem eqD_ref_nil {S : Store} {b : Nat} {is : List Int} (h : S[b]? = some (.lst (is.map D.int))) : eqD S (.ref b) (.lst []) = some is.isEmpty := by
  have r1 : res S DEPTH (.ref b) = some (.lst (is.map D.int)) := by
    show res S (59 + 1) (.ref b) = _
    rw [res]; simp only [h, res_ints S 58, Option.map_some]
  have r2 : res S DEPTH (.lst []) = some (.lst []) := res_lst (n := 59) (by simp)
  simp only [eqD, flatD, Bool.false_and, Bool.false_eq_true, if_false, r1, r2]
  cases is <;> simp [deq, deqs]
theorem set_get {S : Store} {b i : Nat} {o o' : Ob} (h : S[b]? = some o) : (S.set b o')[i]? = if i = b then some o' else S[i]? := by
  have hb : b < S.length := by rw [List.getElem?_eq_some_iff] at h; exact h.1
  rw [List.getElem?_set]
  by_cases e : b = i
  · subst e; simp [hb]
  · have e' : ¬ i = b := fun h => e h.symm
    simp [e, e']
theorem mulOk_l {i j : Int} (h0 : 0 ≤ i) (h1 : i < 2 ^ 64) : mulOk i j = true := by
  have : decide (-(2 ^ 64) < i ∧ i < 2 ^ 64) = true := by simp; omega
  simp only [mulOk, this, Bool.true_or]
theorem mulOk_r {i j : Int} (h0 : 0 ≤ j) (h1 : j < 2 ^ 64) : mulOk i j = true := by
  have : decide (-(2 ^ 64) < j ∧ j < 2 ^ 64) = true := by simp; omega
  simp only [mulOk, this, Bool.or_true]
theorem lenD_ref {S : Store} {n : Nat} {o : List D} (h : S[n]? = some (.lst o)) : lenD S (.ref n) = some o.length := by
  simp only [lenD, h]
theorem slD_ref {S : Store} {n : Nat} {o : List D} (h : S[n]? = some (.lst o)) (lo hi : Option Int) : slD S (.ref n) lo hi = some (.new (cutL o lo hi)) := by
  simp only [slD, h]

theorem draw_fin {S S' : Store} {r a b b' n : Nat} {d : D} (hd : d.pln = true) (hS : MSt S r a b n) (hS' : MSt S' r a b' (n + 1)) (L : Lat S S' r b b') :
    ∃ S2 b2, fin S (.rt d S') = .ok d S2 ∧ MSt S2 r a b2 (n + 1) ∧ Lat S S2 r b b2 := by
  rw [fin_gc hd]
  rcases gc_or S S' d with h | ⟨h, _⟩
  · exact ⟨S', b', by rw [h], hS', L⟩
  · exact ⟨S, b, by rw [h], hS.mono (by omega), Lat.refl _ _ _⟩
theorem r_law_next (k : Nat) (S : Store) (r a b n : Nat) (many : Int) (h : MSt S r a b n) (hn : n ≤ 1000000000000) (hm : 0 < many) (hm2 : many < 1073741824) :
    ∃ v S' b', Rn (k + 1) (23 : Nat) [.ref r, .int many] S = .ok (.int v) S' ∧ 0 ≤ v ∧ v < many ∧ MSt S' r a b' (n + 1) ∧ Lat S S' r b b' := by
  obtain ⟨t, cells, left, h1, h2, h3, h4, h5, h6⟩ := h.tab
  have hrb : r ≠ b := by intro e; rw [e, h3] at h1; cases h1
  have hra : r ≠ a := by intro e; rw [e, h2] at h1; cases h1
  rw [Rn_at t_law_next rfl, b_law_next]
  have i1 := ixD_key h1 ("left" : Str)
  have i2 := ixD_key h1 ("at" : Str)
  have e0 := eqD_ref_nil h3
  have f1 : (many < 1073741824) = True := by simp [hm2]
  have f2 : (0 < many) = True := by simp [hm]
  cases left with
  | cons x left =>
    simp only [List.map_cons] at h3
    obtain ⟨q, hq⟩ : ∃ q, x / many = q := ⟨_, rfl⟩
    have i3 := ixD_at h3 (.int 0)
    have p1 := putD_0 h3 (.int (q))
    have g1 : (S.set b (.lst (.int (q) :: left.map D.int)))[r]? = some (.dct false [(kCells, .ref a), (kAt, .int t), (kLeft, .ref b)]) := by
      rw [set_get h3, if_neg hrb, h1]
    have g2 : (S.set b (.lst (.int (q) :: left.map D.int)))[b]? = some (.lst (.int (q) :: left.map D.int)) := by
      rw [set_get h3, if_pos rfl]
    have j1 := ixD_key g1 ("left" : Str)
    have j2 := ixD_at g2 (.int 0)
    have hv := Int.emod_nonneg x (show many ≠ 0 by omega)
    have hv2 := Int.emod_lt_of_pos x hm
    cases hz : decide (q = 0) with
    | true =>
      skip
      have g3 : (S.set b (.lst (.int (q) :: left.map D.int)) ++ [.lst (left.map D.int)])[r]? = some (.dct false [(kCells, .ref a), (kAt, .int t), (kLeft, .ref b)]) := by
        rw [List.getElem?_append_left]
        · exact g1
        · rw [List.getElem?_eq_some_iff] at g1; exact g1.1
      have p2 := putD_key g3 (by simp) ("left" : Str) (.ref (S.set b (.lst (.int (q) :: left.map D.int))).length)
      have s1 := slD_ref g2 (some 1) none
      rw [cutL_1] at s1
      have j3 := ixD_key g3 ("left" : Str)
      simp only [xs_nil, xs_cons, evs, compF, x_asg, x_put, x_xpr, x_ret, x_cond, x_loop_seq, x_loop_enum, x_loop_rng, x_loop_zip, x_whl, x_raise, x_raiseN, x_tryx, x_tryr, x_pass, x_brk, x_cont, loopR_enum, loopR_tup, loopR_lst, ev_var, e_cst, e_bin, e_neg, e_cmp, e_chn, e_and, e_or, e_not, e_ite, e_tup, e_lst, e_new, e_dct, e_ix, e_sl, e_call, e_bi, e_mt, e_app, e_isi, e_comp_seq, e_comp_rng, e_comp_enum, e_comp_zip, e_xfld, bind_ok, bind_exc, to_ok, to_exc, opt_some, then_nx, then_rt, then_exc, d_val, d_new, tru_bl, tru_non, fin_bl, fin_int, fin_str, fin_non, fin_xnon, fin_xint, GK_call, GK_sub, GK_fld, GK_hot, List.map_cons, List.map_nil, List.cons_append, List.nil_append, List.replicate_succ, List.replicate_zero, Nat.sub_self, Nat.reduceSub, List.getElem?_cons_zero, List.getElem?_cons_succ, List.set_cons_zero, List.set_cons_succ, wipe, bindT, bindTs, List.length_cons, List.length_nil, Nat.reduceAdd, Nat.reduceLT, Nat.reduceLeDiff, Nat.zero_le, binW, binD, compL, stays_nil, decide_true, decide_false, LINE, Int.cast_ofNat_Int, Int.reduceLE, Int.reduceLT, Int.natCast_zero, Int.natCast_one, ixL_0, ixL_1, ixL_2, eqD_int, eqD_str, ixD_tup, ixD_lst, biD, boolsOf, lstOf, Option.bind_some, List.all_cons, List.all_nil, id, isx_non, isx_bl, isx_int, isx_str, isx_tup, isx_lst, isx_frz, isx_ref, isx_exn, String.reduceBEq, Bool.or_false, Bool.or_true, Bool.true_or, Bool.false_or, Bool.and_true, Bool.true_and, Bool.and_false, Bool.false_and, reduceIte, Bool.false_eq_true, Option.map_some, Option.map_none, Bool.not_true, Bool.not_false, cmpD, i1, i2, e0, i3, f1, f2, hq, and_self, p1, j1, j2, hz, dgetL, dgetA, noPart, partOf, s1, p2, dputL, List.isEmpty_cons]
      generalize hS1 : S.set b (.lst (.int (q) :: left.map D.int)) = S1 at *
      have hl1 : S1.length = S.length := by rw [← hS1]; simp
      have ha : b < S.length := by rw [List.getElem?_eq_some_iff] at h3; exact h3.1
      have hal : a < S.length := by rw [List.getElem?_eq_some_iff] at h2; exact h2.1
      have G : ∀ i, ((S1 ++ [Ob.lst (left.map D.int)]).set r (.dct false [(kCells, .ref a), (kAt, .int t), (kLeft, .ref S1.length)]))[i]? =
          if i = r then some (.dct false [(kCells, .ref a), (kAt, .int t), (kLeft, .ref S1.length)]) else (S1 ++ [Ob.lst (left.map D.int)])[i]? := fun i => set_get g3
      have G1 : ∀ i, i < S.length → (S1 ++ [Ob.lst (left.map D.int)])[i]? = S1[i]? := fun i hi => List.getElem?_append_left (by omega)
      have G2 : ∀ i, S1[i]? = if i = b then some (.lst (.int (q) :: left.map D.int)) else S[i]? := fun i => by rw [← hS1]; exact set_get h3
      have M' : MSt ((S1 ++ [Ob.lst (left.map D.int)]).set r (.dct false [(kCells, .ref a), (kAt, .int t), (kLeft, .ref S1.length)])) r a S1.length (n + 1) := by
        have ga : ∃ cs : List Int, S1[a]? = some (.lst (cs.map D.int)) ∧ cs.length ≤ 1000 := by
          rw [G2]
          by_cases hab : a = b
          · have hc : cells = x :: left := by
              rw [hab, h3] at h2
              simp only [Option.some.injEq, Ob.lst.injEq] at h2
              have : (x :: left).map D.int = cells.map D.int := h2
              exact ((List.map_inj_right (fun a b h => D.int.inj h)).mp this).symm
            rw [hc] at h6
            exact ⟨(q) :: left, by rw [if_pos hab]; rfl, by simpa using h6⟩
          · exact ⟨cells, by rw [if_neg hab, h2], h6⟩
        obtain ⟨cs, ga, hcs⟩ := ga
        refine ⟨t, cs, left, ?_, ?_, ?_, h4, by omega, hcs⟩
        · rw [G, if_pos rfl]
        · rw [G, if_neg (fun e => hra e.symm), G1 a hal, ga]
        · rw [G, if_neg (by intro e; rw [List.getElem?_eq_some_iff] at h1; have := h1.1; omega)]; simp
      have L' : Lat S ((S1 ++ [Ob.lst (left.map D.int)]).set r (.dct false [(kCells, .ref a), (kAt, .int t), (kLeft, .ref S1.length)])) r b S1.length := by
        refine ⟨by simp; omega, fun i o hi hir hib => ?_⟩
        have hil : i < S.length := by rw [List.getElem?_eq_some_iff] at hi; exact hi.1
        refine ⟨?_, by omega⟩
        rw [G, if_neg hir, G1 i hil, G2, if_neg hib, hi]
      obtain ⟨S2, b2, e, q1, q2⟩ := draw_fin (d := .int (x % many)) (by simp [D.pln]) h M' L'
      exact ⟨_, S2, b2, e, hv, hv2, q1, q2⟩
    | false =>
      simp only [xs_nil, xs_cons, evs, compF, x_asg, x_put, x_xpr, x_ret, x_cond, x_loop_seq, x_loop_enum, x_loop_rng, x_loop_zip, x_whl, x_raise, x_raiseN, x_tryx, x_tryr, x_pass, x_brk, x_cont, loopR_enum, loopR_tup, loopR_lst, ev_var, e_cst, e_bin, e_neg, e_cmp, e_chn, e_and, e_or, e_not, e_ite, e_tup, e_lst, e_new, e_dct, e_ix, e_sl, e_call, e_bi, e_mt, e_app, e_isi, e_comp_seq, e_comp_rng, e_comp_enum, e_comp_zip, e_xfld, bind_ok, bind_exc, to_ok, to_exc, opt_some, then_nx, then_rt, then_exc, d_val, d_new, tru_bl, tru_non, fin_bl, fin_int, fin_str, fin_non, fin_xnon, fin_xint, GK_call, GK_sub, GK_fld, GK_hot, List.map_cons, List.map_nil, List.cons_append, List.nil_append, List.replicate_succ, List.replicate_zero, Nat.sub_self, Nat.reduceSub, List.getElem?_cons_zero, List.getElem?_cons_succ, List.set_cons_zero, List.set_cons_succ, wipe, bindT, bindTs, List.length_cons, List.length_nil, Nat.reduceAdd, Nat.reduceLT, Nat.reduceLeDiff, Nat.zero_le, binW, binD, compL, stays_nil, decide_true, decide_false, LINE, Int.cast_ofNat_Int, Int.reduceLE, Int.reduceLT, Int.natCast_zero, Int.natCast_one, ixL_0, ixL_1, ixL_2, eqD_int, eqD_str, ixD_tup, ixD_lst, biD, boolsOf, lstOf, Option.bind_some, List.all_cons, List.all_nil, id, isx_non, isx_bl, isx_int, isx_str, isx_tup, isx_lst, isx_frz, isx_ref, isx_exn, String.reduceBEq, Bool.or_false, Bool.or_true, Bool.true_or, Bool.false_or, Bool.and_true, Bool.true_and, Bool.and_false, Bool.false_and, reduceIte, Bool.false_eq_true, Option.map_some, Option.map_none, Bool.not_true, Bool.not_false, cmpD, i1, i2, e0, i3, f1, f2, hq, and_self, p1, j1, j2, hz, dgetL, dgetA, List.isEmpty_cons]
      have G2 : ∀ i, (S.set b (.lst (.int (q) :: left.map D.int)))[i]? = if i = b then some (.lst (.int (q) :: left.map D.int)) else S[i]? := fun i => set_get h3
      have M' : MSt (S.set b (.lst (.int (q) :: left.map D.int))) r a b (n + 1) := by
        have ga : ∃ cs : List Int, (S.set b (.lst (.int (q) :: left.map D.int)))[a]? = some (.lst (cs.map D.int)) ∧ cs.length ≤ 1000 := by
          rw [G2]
          by_cases hab : a = b
          · have hc : cells = x :: left := by
              rw [hab, h3] at h2
              simp only [Option.some.injEq, Ob.lst.injEq] at h2
              have : (x :: left).map D.int = cells.map D.int := h2
              exact ((List.map_inj_right (fun a b h => D.int.inj h)).mp this).symm
            rw [hc] at h6
            exact ⟨(q) :: left, by rw [if_pos hab]; rfl, by simpa using h6⟩
          · exact ⟨cells, by rw [if_neg hab, h2], h6⟩
        obtain ⟨cs, ga, hcs⟩ := ga
        exact ⟨t, cs, (q) :: left, g1, ga, g2, h4, by omega, hcs⟩
      have L' : Lat S (S.set b (.lst (.int (q) :: left.map D.int))) r b b := by
        refine ⟨by simp, fun i o hi hir hib => ⟨?_, hib⟩⟩
        rw [G2, if_neg hib, hi]
      obtain ⟨S2, b2, e, q1, q2⟩ := draw_fin (d := .int (x % many)) (by simp [D.pln]) h M' L'
      exact ⟨_, S2, b2, e, hv, hv2, q1, q2⟩
  | nil =>
    have p1 := putD_key h1 (by simp) ("at" : Str) (.int (t + 1))
    rw [dputA] at p1
    have G : ∀ i, (S.set r (.dct false [(kCells, .ref a), (kAt, .int (t + 1)), (kLeft, .ref b)]))[i]? = if i = r then some (.dct false [(kCells, .ref a), (kAt, .int (t + 1)), (kLeft, .ref b)]) else S[i]? := fun i => set_get h1
    have g1 : (S.set r (.dct false [(kCells, .ref a), (kAt, .int (t + 1)), (kLeft, .ref b)]))[r]? = some (.dct false [(kCells, .ref a), (kAt, .int (t + 1)), (kLeft, .ref b)]) := by rw [G, if_pos rfl]
    have g2 : (S.set r (.dct false [(kCells, .ref a), (kAt, .int (t + 1)), (kLeft, .ref b)]))[a]? = some (.lst (cells.map D.int)) := by rw [G, if_neg (fun e => hra e.symm), h2]
    have g3 : (S.set r (.dct false [(kCells, .ref a), (kAt, .int (t + 1)), (kLeft, .ref b)]))[b]? = some (.lst (([] : List Int).map D.int)) := by rw [G, if_neg (fun e => hrb e.symm), h3]
    have M' : MSt (S.set r (.dct false [(kCells, .ref a), (kAt, .int (t + 1)), (kLeft, .ref b)])) r a b (n + 1) :=
      ⟨t + 1, cells, [], g1, g2, g3, by omega, by omega, h6⟩
    have L' : Lat S (S.set r (.dct false [(kCells, .ref a), (kAt, .int (t + 1)), (kLeft, .ref b)])) r b b := by
      refine ⟨by simp, fun i o hi hir hib => ⟨?_, hib⟩⟩
      rw [G, if_neg hir, hi]
    generalize (S.set r (.dct false [(kCells, .ref a), (kAt, .int (t + 1)), (kLeft, .ref b)])) = S1 at *
    have j1 := ixD_key g1 ("cells" : Str)
    have e1 := eqD_ref_nil g2
    have l1 := lenD_ref g2
    have hc : ∃ c : Int, (if cells.isEmpty then c = 0 else ixL (cells.map D.int) (.int (t % ((cells.map D.int).length : Nat))) = some (.int c)) := by
      cases cells with
      | nil => exact ⟨0, by simp⟩
      | cons c0 cs =>
        have hp : (0 : Int) < (((c0 :: cs).map D.int).length : Nat) := by simp only [List.map_cons, List.length_cons]; omega
        have k0 := Int.emod_nonneg t (show (((c0 :: cs).map D.int).length : Int) ≠ 0 by omega)
        have k1 := Int.emod_lt_of_pos t hp
        generalize t % (((c0 :: cs).map D.int).length : Nat) = j at *
        have hj : j.toNat < ((c0 :: cs).map D.int).length := by omega
        have e : j = ((j.toNat : Nat) : Int) := by omega
        have hx := ixL_nat hj
        rw [← e] at hx
        refine ⟨(c0 :: cs)[j.toNat]'(by simpa using hj), ?_⟩
        rw [if_neg (by simp), hx, List.getElem_map]
    obtain ⟨c, hc⟩ := hc
    have m1 : mulOk (c % 2147483629) (2 * t + 3) = true := mulOk_l (Int.emod_nonneg _ (by decide)) (by have := Int.emod_lt_of_pos c (show (0 : Int) < 2147483629 by decide); omega)
    have m2 : mulOk 2 t = true := mulOk_l (by decide) (by decide)
    have m3 : mulOk 7919 t = true := mulOk_l (by decide) (by decide)
    have m4 : mulOk (7919 * t) t = true := mulOk_r h4 (by omega)
    have m5 : mulOk 104729 t = true := mulOk_l (by decide) (by decide)
    obtain ⟨u, hu⟩ : ∃ u, (c % 2147483629 * (2 * t + 3) + 7919 * t * t + 104729 * t + 31) % 2147483647 = u := ⟨_, rfl⟩
    have u0 : 0 ≤ u := by rw [← hu]; exact Int.emod_nonneg _ (by decide)
    have u1 : u < 2147483647 := by rw [← hu]; exact Int.emod_lt_of_pos _ (by decide)
    have m6 : mulOk u u = true := mulOk_l u0 (by omega)
    have m7 : mulOk (u * u % 2147483629) 48271 = true := mulOk_r (by decide) (by decide)
    have z1 : ((0 : Int) < 2147483629) = True := by simp
    have z2 : ((0 : Int) < 2147483647) = True := by simp
    have z3 : ((0 : Int) < 13) = True := by simp
    have z4 : ((13 : Int) < 1073741824) = True := by simp
    obtain ⟨S2, b2, e, q1, q2⟩ := draw_fin (d := .int (u * u % 2147483629 * 48271 % 2147483647 / 13 % many)) (by simp [D.pln]) h M' L'
    have v0 := Int.emod_nonneg (u * u % 2147483629 * 48271 % 2147483647 / 13) (show many ≠ 0 by omega)
    have v1 := Int.emod_lt_of_pos (u * u % 2147483629 * 48271 % 2147483647 / 13) hm
    refine ⟨u * u % 2147483629 * 48271 % 2147483647 / 13 % many, S2, b2, ?_, v0, v1, q1, q2⟩
    cases hem : cells.isEmpty with
    | true =>
      simp only [hem, if_true] at hc
      subst hc
      simp only [xs_nil, xs_cons, evs, compF, x_asg, x_put, x_xpr, x_ret, x_cond, x_loop_seq, x_loop_enum, x_loop_rng, x_loop_zip, x_whl, x_raise, x_raiseN, x_tryx, x_tryr, x_pass, x_brk, x_cont, loopR_enum, loopR_tup, loopR_lst, ev_var, e_cst, e_bin, e_neg, e_cmp, e_chn, e_and, e_or, e_not, e_ite, e_tup, e_lst, e_new, e_dct, e_ix, e_sl, e_call, e_bi, e_mt, e_app, e_isi, e_comp_seq, e_comp_rng, e_comp_enum, e_comp_zip, e_xfld, bind_ok, bind_exc, to_ok, to_exc, opt_some, then_nx, then_rt, then_exc, d_val, d_new, tru_bl, tru_non, fin_bl, fin_int, fin_str, fin_non, fin_xnon, fin_xint, GK_call, GK_sub, GK_fld, GK_hot, List.map_cons, List.map_nil, List.cons_append, List.nil_append, List.replicate_succ, List.replicate_zero, Nat.sub_self, Nat.reduceSub, List.getElem?_cons_zero, List.getElem?_cons_succ, List.set_cons_zero, List.set_cons_succ, wipe, bindT, bindTs, List.length_cons, List.length_nil, Nat.reduceAdd, Nat.reduceLT, Nat.reduceLeDiff, Nat.zero_le, binW, binD, compL, stays_nil, decide_true, decide_false, LINE, Int.cast_ofNat_Int, Int.reduceLE, Int.reduceLT, Int.natCast_zero, Int.natCast_one, ixL_0, ixL_1, ixL_2, eqD_int, eqD_str, ixD_tup, ixD_lst, biD, boolsOf, lstOf, Option.bind_some, List.all_cons, List.all_nil, id, isx_non, isx_bl, isx_int, isx_str, isx_tup, isx_lst, isx_frz, isx_ref, isx_exn, String.reduceBEq, Bool.or_false, Bool.or_true, Bool.true_or, Bool.false_or, Bool.and_true, Bool.true_and, Bool.and_false, Bool.false_and, reduceIte, Bool.false_eq_true, Option.map_some, Option.map_none, Bool.not_true, Bool.not_false, cmpD, i1, i2, e0, dgetL, dgetA, dgetC, List.isEmpty_nil, p1, j1, e1, hem, and_self, m1, m2, m3, m4, m5, z1, z2, hu, m6, m7, z3, z4, f2]
      exact e
    | false =>
      simp only [hem, Bool.false_eq_true, if_false] at hc
      have i4 := ixD_at g2 (.int (t % ((cells.map D.int).length : Nat)))
      have z5 : ((0 : Int) < ((cells.map D.int).length : Nat)) = True := by
        cases cells with
        | nil => simp at hem
        | cons c0 cs => simp only [List.map_cons, List.length_cons, eq_iff_iff, iff_true]; omega
      simp only [xs_nil, xs_cons, evs, compF, x_asg, x_put, x_xpr, x_ret, x_cond, x_loop_seq, x_loop_enum, x_loop_rng, x_loop_zip, x_whl, x_raise, x_raiseN, x_tryx, x_tryr, x_pass, x_brk, x_cont, loopR_enum, loopR_tup, loopR_lst, ev_var, e_cst, e_bin, e_neg, e_cmp, e_chn, e_and, e_or, e_not, e_ite, e_tup, e_lst, e_new, e_dct, e_ix, e_sl, e_call, e_bi, e_mt, e_app, e_isi, e_comp_seq, e_comp_rng, e_comp_enum, e_comp_zip, e_xfld, bind_ok, bind_exc, to_ok, to_exc, opt_some, then_nx, then_rt, then_exc, d_val, d_new, tru_bl, tru_non, fin_bl, fin_int, fin_str, fin_non, fin_xnon, fin_xint, GK_call, GK_sub, GK_fld, GK_hot, List.map_cons, List.map_nil, List.cons_append, List.nil_append, List.replicate_succ, List.replicate_zero, Nat.sub_self, Nat.reduceSub, List.getElem?_cons_zero, List.getElem?_cons_succ, List.set_cons_zero, List.set_cons_succ, wipe, bindT, bindTs, List.length_cons, List.length_nil, Nat.reduceAdd, Nat.reduceLT, Nat.reduceLeDiff, Nat.zero_le, binW, binD, compL, stays_nil, decide_true, decide_false, LINE, Int.cast_ofNat_Int, Int.reduceLE, Int.reduceLT, Int.natCast_zero, Int.natCast_one, ixL_0, ixL_1, ixL_2, eqD_int, eqD_str, ixD_tup, ixD_lst, biD, boolsOf, lstOf, Option.bind_some, List.all_cons, List.all_nil, id, isx_non, isx_bl, isx_int, isx_str, isx_tup, isx_lst, isx_frz, isx_ref, isx_exn, String.reduceBEq, Bool.or_false, Bool.or_true, Bool.true_or, Bool.false_or, Bool.and_true, Bool.true_and, Bool.and_false, Bool.false_and, reduceIte, Bool.false_eq_true, Option.map_some, Option.map_none, Bool.not_true, Bool.not_false, cmpD, i1, i2, e0, dgetL, dgetA, dgetC, List.isEmpty_nil, p1, j1, e1, hem, and_self, l1, i4, hc, z5, m1, m2, m3, m4, m5, z1, z2, hu, m6, m7, z3, z4, f2]
      exact e
end K82
end

section
set_option Elab.async false
set_option linter.all false
set_option maxRecDepth 100000
set_option maxHeartbeats 0
namespace K82
open DW
open PySem (Str)
def bigs (ns : List Int) : List Int := ns.filter fun i => decide (1000000000000000000 ≤ i)
theorem dctL (x y z : D) : ([kCells, kAt, kLeft].zip [x, y, z]).foldl (fun acc kv => dput acc kv.1 kv.2) [] = [(kCells, x), (kAt, y), (kLeft, z)] := by
  simp [dput, sCA, sCL, sAL]
theorem r_law_begun (k : Nat) (ns : List Int) (hn : ns.length ≤ 63) :
    ∃ S, Rn (k + 1) (22 : Nat) [.frz (ns.map D.int)] [] = .ok (.ref 2) S ∧ MSt S 2 0 1 0 := by
  rw [Rn_at t_law_begun rfl, b_law_begun]
  have C : ∀ s, compL [] (compF (GK k) none [1] (.nm 1) (.cmp .ge (.bi .int (.cons (.var 1) .nil)) (.bin .pow (.cst (.int (10))) (.cst (.int (18))))) (.bi .int (.cons (.var 1) .nil)) [some (.frz (ns.map D.int)), none]) (ns.map D.int) s
      = .ok ((bigs ns).map D.int) s := by
    intro s
    have e : (bigs ns).map D.int = (ns.map D.int).filterMap (fun d => match d with | .int i => if decide (1000000000000000000 ≤ i) then some (.int i) else none | _ => none) := by
      unfold bigs
      clear hn
      induction ns with
      | nil => rfl
      | cons x xs ih =>
        rw [List.filter_cons, List.map_cons, List.filterMap_cons]
        cases h : decide (1000000000000000000 ≤ x) <;> simp only [h, Bool.false_eq_true, if_false, if_true, List.map_cons, ih]
    rw [e]
    refine compL_eq (stays_nil _) ?_
    intro x hx
    rw [List.mem_map] at hx
    obtain ⟨i, _, rfl⟩ := hx
    have z1 : ((0 : Int) ≤ 18) = True := by simp
    have z2 : ((18 : Int) ≤ 1000000) = True := by simp
    have z3 : (Int.natAbs 10 < 2 ^ 64) = True := by simp
    have z4 : (10 : Int) ^ Int.toNat 18 = 1000000000000000000 := by decide
    cases h : decide (1000000000000000000 ≤ i) <;> simp only [xs_nil, xs_cons, evs, compF, x_asg, x_put, x_xpr, x_ret, x_cond, x_loop_seq, x_loop_enum, x_loop_rng, x_loop_zip, x_whl, x_raise, x_raiseN, x_tryx, x_tryr, x_pass, x_brk, x_cont, loopR_enum, loopR_tup, loopR_lst, ev_var, e_cst, e_bin, e_neg, e_cmp, e_chn, e_and, e_or, e_not, e_ite, e_tup, e_lst, e_new, e_dct, e_ix, e_sl, e_call, e_bi, e_mt, e_app, e_isi, e_comp_seq, e_comp_rng, e_comp_enum, e_comp_zip, e_xfld, bind_ok, bind_exc, to_ok, to_exc, opt_some, then_nx, then_rt, then_exc, d_val, d_new, tru_bl, tru_non, fin_bl, fin_int, fin_str, fin_non, fin_xnon, fin_xint, GK_call, GK_sub, GK_fld, GK_hot, List.map_cons, List.map_nil, List.cons_append, List.nil_append, List.replicate_succ, List.replicate_zero, Nat.sub_self, Nat.reduceSub, List.getElem?_cons_zero, List.getElem?_cons_succ, List.set_cons_zero, List.set_cons_succ, wipe, bindT, bindTs, List.length_cons, List.length_nil, Nat.reduceAdd, Nat.reduceLT, Nat.reduceLeDiff, Nat.zero_le, binW, binD, compL, stays_nil, decide_true, decide_false, LINE, Int.cast_ofNat_Int, Int.reduceLE, Int.reduceLT, Int.natCast_zero, Int.natCast_one, ixL_0, ixL_1, ixL_2, eqD_int, eqD_str, ixD_tup, ixD_lst, biD, boolsOf, lstOf, Option.bind_some, List.all_cons, List.all_nil, id, isx_non, isx_bl, isx_int, isx_str, isx_tup, isx_lst, isx_frz, isx_ref, isx_exn, String.reduceBEq, Bool.or_false, Bool.or_true, Bool.true_or, Bool.false_or, Bool.and_true, Bool.true_and, Bool.and_false, Bool.false_and, reduceIte, Bool.false_eq_true, Option.map_some, Option.map_none, Bool.not_true, Bool.not_false, z1, z2, z3, z4, and_self, cmpD, h]
  have hl : ((ns.map D.int).length ≤ 16777216) = True := by simp; omega
  have hd := dctL (.ref 0) (.int 0) (.ref 1)
  refine ⟨[.lst (ns.map D.int), .lst ((bigs ns).map D.int), .dct false [(kCells, .ref 0), (kAt, .int 0), (kLeft, .ref 1)]], ?_, ?_⟩
  · simp only [xs_nil, xs_cons, evs, compF, x_asg, x_put, x_xpr, x_ret, x_cond, x_loop_seq, x_loop_enum, x_loop_rng, x_loop_zip, x_whl, x_raise, x_raiseN, x_tryx, x_tryr, x_pass, x_brk, x_cont, loopR_enum, loopR_tup, loopR_lst, ev_var, e_cst, e_bin, e_neg, e_cmp, e_chn, e_and, e_or, e_not, e_ite, e_tup, e_lst, e_new, e_dct, e_ix, e_sl, e_call, e_bi, e_mt, e_app, e_isi, e_comp_seq, e_comp_rng, e_comp_enum, e_comp_zip, e_xfld, bind_ok, bind_exc, to_ok, to_exc, opt_some, then_nx, then_rt, then_exc, d_val, d_new, tru_bl, tru_non, fin_bl, fin_int, fin_str, fin_non, fin_xnon, fin_xint, GK_call, GK_sub, GK_fld, GK_hot, List.map_cons, List.map_nil, List.cons_append, List.nil_append, List.replicate_succ, List.replicate_zero, Nat.sub_self, Nat.reduceSub, List.getElem?_cons_zero, List.getElem?_cons_succ, List.set_cons_zero, List.set_cons_succ, wipe, bindT, bindTs, List.length_cons, List.length_nil, Nat.reduceAdd, Nat.reduceLT, Nat.reduceLeDiff, Nat.zero_le, binW, binD, compL, stays_nil, decide_true, decide_false, LINE, Int.cast_ofNat_Int, Int.reduceLE, Int.reduceLT, Int.natCast_zero, Int.natCast_one, ixL_0, ixL_1, ixL_2, eqD_int, eqD_str, ixD_tup, ixD_lst, biD, boolsOf, lstOf, Option.bind_some, List.all_cons, List.all_nil, id, isx_non, isx_bl, isx_int, isx_str, isx_tup, isx_lst, isx_frz, isx_ref, isx_exn, String.reduceBEq, Bool.or_false, Bool.or_true, Bool.true_or, Bool.false_or, Bool.and_true, Bool.true_and, Bool.and_false, Bool.false_and, reduceIte, Bool.false_eq_true, Option.map_some, Option.map_none, Bool.not_true, Bool.not_false, seqOf, itemsOf, srcOf, hl, C, keyOk, flatKey, hd]
    rfl
  · exact ⟨0, ns, bigs ns, rfl, rfl, rfl, by omega, by omega, by omega⟩
theorem atI_nat {α : Type} {xs : List α} {i : Nat} (h : i < xs.length) : L2.atI xs (i : Int) = some xs[i] := by
  simp only [L2.atI, L2.ixN]
  rw [if_pos (by omega)]
  simp only [Int.toNat_natCast]
  rw [if_pos (by omega)]; simp [h]
theorem r_of_lst (k : Nat) (S : Store) (r a b n : Nat) (xs : List D) (h : MSt S r a b n) (hn : n ≤ 1000000000000) (h0 : 0 < xs.length) (h1 : xs.length ≤ 1000) (hp : ∀ x ∈ xs, x.pln = true) :
    ∃ x S' b', x ∈ xs ∧ Rn (k + 2) (24 : Nat) [.ref r, .lst xs] S = .ok x S' ∧ MSt S' r a b' (n + 1) ∧ Lat S S' r b b' := by
  obtain ⟨v, S1, b1, e, v0, v1, M, L⟩ := r_law_next k S r a b n (xs.length : Nat) h hn (by omega) (by omega)
  have ev : v = ((v.toNat : Nat) : Int) := by omega
  have hv : v.toNat < xs.length := by omega
  have hi := ixL_nat hv
  rw [← ev] at hi
  obtain ⟨S2, b2, e2, M2, L2⟩ := draw_fin (d := xs[v.toNat]) (hp _ (List.getElem_mem hv)) h M L
  refine ⟨xs[v.toNat], S2, b2, List.getElem_mem hv, ?_, M2, L2⟩
  rw [Rn_at t_law_of rfl, b_law_of]
  simp only [xs_nil, xs_cons, evs, compF, x_asg, x_put, x_xpr, x_ret, x_cond, x_loop_seq, x_loop_enum, x_loop_rng, x_loop_zip, x_whl, x_raise, x_raiseN, x_tryx, x_tryr, x_pass, x_brk, x_cont, loopR_enum, loopR_tup, loopR_lst, ev_var, e_cst, e_bin, e_neg, e_cmp, e_chn, e_and, e_or, e_not, e_ite, e_tup, e_lst, e_new, e_dct, e_ix, e_sl, e_call, e_bi, e_mt, e_app, e_isi, e_comp_seq, e_comp_rng, e_comp_enum, e_comp_zip, e_xfld, bind_ok, bind_exc, to_ok, to_exc, opt_some, then_nx, then_rt, then_exc, d_val, d_new, tru_bl, tru_non, fin_bl, fin_int, fin_str, fin_non, fin_xnon, fin_xint, GK_call, GK_sub, GK_fld, GK_hot, List.map_cons, List.map_nil, List.cons_append, List.nil_append, List.replicate_succ, List.replicate_zero, Nat.sub_self, Nat.reduceSub, List.getElem?_cons_zero, List.getElem?_cons_succ, List.set_cons_zero, List.set_cons_succ, wipe, bindT, bindTs, List.length_cons, List.length_nil, Nat.reduceAdd, Nat.reduceLT, Nat.reduceLeDiff, Nat.zero_le, binW, binD, compL, stays_nil, decide_true, decide_false, LINE, Int.cast_ofNat_Int, Int.reduceLE, Int.reduceLT, Int.natCast_zero, Int.natCast_one, ixL_0, ixL_1, ixL_2, eqD_int, eqD_str, ixD_tup, ixD_lst, biD, boolsOf, lstOf, Option.bind_some, List.all_cons, List.all_nil, id, isx_non, isx_bl, isx_int, isx_str, isx_tup, isx_lst, isx_frz, isx_ref, isx_exn, String.reduceBEq, Bool.or_false, Bool.or_true, Bool.true_or, Bool.false_or, Bool.and_true, Bool.true_and, Bool.and_false, Bool.false_and, reduceIte, Bool.false_eq_true, Option.map_some, Option.map_none, Bool.not_true, Bool.not_false, lenD, e, hi]
  exact e2
theorem r_of_str (k : Nat) (S : Store) (r a b n : Nat) (x : Str) (h : MSt S r a b n) (hn : n ≤ 1000000000000) (h0 : 0 < x.length) (h1 : x.length ≤ 1000) :
    ∃ c S' b', Rn (k + 2) (24 : Nat) [.ref r, .str x] S = .ok (.str ⟨#[c]⟩) S' ∧ MSt S' r a b' (n + 1) ∧ Lat S S' r b b' := by
  obtain ⟨v, S1, b1, e, v0, v1, M, L⟩ := r_law_next k S r a b n (x.length : Nat) h hn (by omega) (by omega)
  have ev : v = ((v.toNat : Nat) : Int) := by omega
  have hv : v.toNat < x.cps.toList.length := by
    have : x.cps.toList.length = x.length := by simp [Str.length]
    omega
  have hi := atI_nat hv
  rw [← ev] at hi
  have hl : (x.length ≤ 16777216) = True := by simp; omega
  obtain ⟨S2, b2, e2, M2, L2⟩ := draw_fin (d := .str ⟨#[x.cps.toList[v.toNat]]⟩) (by simp [D.pln]) h M L
  refine ⟨x.cps.toList[v.toNat], S2, b2, ?_, M2, L2⟩
  rw [Rn_at t_law_of rfl, b_law_of]
  simp only [xs_nil, xs_cons, evs, compF, x_asg, x_put, x_xpr, x_ret, x_cond, x_loop_seq, x_loop_enum, x_loop_rng, x_loop_zip, x_whl, x_raise, x_raiseN, x_tryx, x_tryr, x_pass, x_brk, x_cont, loopR_enum, loopR_tup, loopR_lst, ev_var, e_cst, e_bin, e_neg, e_cmp, e_chn, e_and, e_or, e_not, e_ite, e_tup, e_lst, e_new, e_dct, e_ix, e_sl, e_call, e_bi, e_mt, e_app, e_isi, e_comp_seq, e_comp_rng, e_comp_enum, e_comp_zip, e_xfld, bind_ok, bind_exc, to_ok, to_exc, opt_some, then_nx, then_rt, then_exc, d_val, d_new, tru_bl, tru_non, fin_bl, fin_int, fin_str, fin_non, fin_xnon, fin_xint, GK_call, GK_sub, GK_fld, GK_hot, List.map_cons, List.map_nil, List.cons_append, List.nil_append, List.replicate_succ, List.replicate_zero, Nat.sub_self, Nat.reduceSub, List.getElem?_cons_zero, List.getElem?_cons_succ, List.set_cons_zero, List.set_cons_succ, wipe, bindT, bindTs, List.length_cons, List.length_nil, Nat.reduceAdd, Nat.reduceLT, Nat.reduceLeDiff, Nat.zero_le, binW, binD, compL, stays_nil, decide_true, decide_false, LINE, Int.cast_ofNat_Int, Int.reduceLE, Int.reduceLT, Int.natCast_zero, Int.natCast_one, ixL_0, ixL_1, ixL_2, eqD_int, eqD_str, ixD_tup, ixD_lst, biD, boolsOf, lstOf, Option.bind_some, List.all_cons, List.all_nil, id, isx_non, isx_bl, isx_int, isx_str, isx_tup, isx_lst, isx_frz, isx_ref, isx_exn, String.reduceBEq, Bool.or_false, Bool.or_true, Bool.true_or, Bool.false_or, Bool.and_true, Bool.true_and, Bool.and_false, Bool.false_and, reduceIte, Bool.false_eq_true, Option.map_some, Option.map_none, Bool.not_true, Bool.not_false, lenD, hl, e, ixD, hi]
  exact e2
end K82
end

section
set_option Elab.async false
set_option linter.all false
set_option maxRecDepth 100000
set_option maxHeartbeats 0
namespace K82
open DW
open PySem (Str)
theorem roadsFault_app {n : Int} {r : D} (hr : isRoad n r = true) : ∀ {rs known : List D} {i : Nat}, roadsFault n known rs i = none → (known ++ rs).contains r = false → roadsFault n known (rs ++ [r]) i = none
  | [], known, i, h, hc => by
    simp only [List.append_nil] at hc
    simp [roadsFault, hr, hc]
    simpa using hc
  | x :: xs, known, i, h, hc => by
    rw [roadsFault] at h
    rw [List.cons_append, roadsFault]
    cases hx : isRoad n x && !(known.contains x)
    · rw [hx] at h; simp at h
    · rw [hx] at h
      simp only [if_true] at h ⊢
      exact roadsFault_app hr h (by simpa using hc)
theorem doorsFault_app {n : Int} {r : D} (hr : isAm 0 (n - 1) r = true) : ∀ {rs known : List D} {i : Nat}, doorsFault n known rs i = none → (known ++ rs).contains r = false → doorsFault n known (rs ++ [r]) i = none
  | [], known, i, h, hc => by
    simp only [List.append_nil] at hc
    simp [doorsFault, hr, hc]
    simpa using hc
  | x :: xs, known, i, h, hc => by
    rw [doorsFault] at h
    rw [List.cons_append, doorsFault]
    cases hx : isAm 0 (n - 1) x && !(known.contains x)
    · rw [hx] at h; simp at h
    · rw [hx] at h
      simp only [if_true] at h ⊢
      exact doorsFault_app hr h (by simpa using hc)
theorem road_of_ints {n i j : Int} (h0 : 0 ≤ i) (h1 : i < n) (h2 : 0 ≤ j) (h3 : j < n) (hn : i ≠ j) : isRoad n (.tup [.int i, .int j]) = true := by
  have e : ¬ (D.int i = D.int j) := fun e => hn (D.int.inj e)
  simp [isRoad, isAm, hn]; omega

theorem drawn_roads (k : Nat) (f : D → Env → Store → RS) (r a p n0 : Nat) (most many : Int) (hm : 1 ≤ many) (hm2 : many ≤ 16) (hn0 : n0 ≤ 1000000000)
    (hf : f = bodyF (GK (k + 1)) none (.nm 4) (.cons (.asg (.nm 5) (.tup (.cons (.call (23 : Nat) (.cons (.var 0) (.cons (.var 2) .nil))) (.cons (.call (23 : Nat) (.cons (.var 0) (.cons (.var 2) .nil))) .nil))))
  (.cons (.cond (.and (.cmp .ne (.ix (.var 5) (.cst (.int (0)))) (.ix (.var 5) (.cst (.int (1))))) (.cmp .notin (.var 5) (.var 3)))
  (.cons (.xpr (.app (.var 3) (.var 5)))
  .nil)
  .nil)
  .nil))) : ∀ (items : List D) (S : Store) (b c : Nat) (rs : List D) (u v : Option D), items.length + c ≤ 40 → (∀ x ∈ items, x.isx = false) → MSt S r a b (n0 + 2 * c) → S[p]? = some (.lst rs) → p ≠ r → p ≠ a → p ≠ b →
      roadsFault many [] rs 0 = none → rs.length ≤ c →
    ∃ S' b' rs' u' v', forL [] f items [some (.ref r), some (.int most), some (.int many), some (.ref p), u, v, none, none, none] S = .nx [some (.ref r), some (.int most), some (.int many), some (.ref p), u', v', none, none, none] S' ∧
      MSt S' r a b' (n0 + 80) ∧ S'[p]? = some (.lst rs') ∧ p ≠ r ∧ p ≠ b' ∧ roadsFault many [] rs' 0 = none ∧ rs'.length ≤ 40 ∧ S.length ≤ S'.length ∧
      (∀ i o, S[i]? = some o → i ≠ r → i ≠ b → i ≠ p → S'[i]? = some o ∧ i ≠ b')
  | [], S, b, c, rs, u, v, hl, _, M, hp, h1, h1a, h2, hr, hc => by
    refine ⟨S, b, rs, u, v, by simp [forL, stays], M.mono (by simp at hl; omega), hp, h1, h2, hr, by simp at hl; omega, Nat.le_refl _, fun i o hi _ hib _ => ⟨hi, hib⟩⟩
  | x :: items, S, b, c, rs, u, v, hl, hix, M, hp, h1, h1a, h2, hr, hc => by
    have hx := hix x (by simp)
    simp only [List.length_cons] at hl
    obtain ⟨v1, S1, b1, e1, a1, a2, M1, L1⟩ := r_law_next k S r a b _ many M (by omega) (by omega) (by omega)
    obtain ⟨hp1, q1⟩ := L1.kp p _ hp h1 h2
    obtain ⟨v2, S2, b2, e2, a3, a4, M2, L2⟩ := r_law_next k S1 r a b1 _ many M1 (by omega) (by omega) (by omega)
    obtain ⟨hp2, q2⟩ := L2.kp p _ hp1 h1 q1
    have L := L1.trans L2
    have hroads := roadsFault_none hr
    have st : forL [] f (x :: items) [some (.ref r), some (.int most), some (.int many), some (.ref p), u, v, none, none, none] S =
      match f x [some (.ref r), some (.int most), some (.int many), some (.ref p), u, v, none, none, none] S with
      | .nx ρ' S' => forL [] f items ρ' S'
      | .ct ρ' S' => forL [] f items ρ' S'
      | .bk ρ' S' => .nx ρ' S'
      | r => r := by
      rw [forL, if_pos (stays_nil _)] <;> rfl
    have hin : inD S2 (.tup [.int v1, .int v2]) (.ref p) = some (rs.contains (.tup [.int v1, .int v2])) := by
      simp only [inD, hp2]
      exact inL_pr (by trivial) (fun y hy => isRoad_pr (hroads y hy))
    have ef : ∃ S3 b3 rs3, f x [some (.ref r), some (.int most), some (.int many), some (.ref p), u, v, none, none, none] S = .nx [some (.ref r), some (.int most), some (.int many), some (.ref p), some x, some (.tup [.int v1, .int v2]), none, none, none] S3 ∧
        MSt S3 r a b3 (n0 + 2 * (c + 1)) ∧ S3[p]? = some (.lst rs3) ∧ p ≠ b3 ∧ roadsFault many [] rs3 0 = none ∧ rs3.length ≤ c + 1 ∧ S.length ≤ S3.length ∧ (∀ i o, S[i]? = some o → i ≠ r → i ≠ b → i ≠ p → S3[i]? = some o ∧ i ≠ b3) := by
      rw [hf, bodyF]
      have M2' : MSt S2 r a b2 (n0 + 2 * (c + 1)) := M2.mono (by omega)
      by_cases hij : v1 = v2
      · refine ⟨S2, b2, rs, ?_, M2', hp2, q2, hr, by omega, L.len, fun i o hi hir hib hip => L.kp i o hi hir hib⟩
        simp only [xs_nil, xs_cons, evs, compF, x_asg, x_put, x_xpr, x_ret, x_cond, x_loop_seq, x_loop_enum, x_loop_rng, x_loop_zip, x_whl, x_raise, x_raiseN, x_tryx, x_tryr, x_pass, x_brk, x_cont, loopR_enum, loopR_tup, loopR_lst, ev_var, e_cst, e_bin, e_neg, e_cmp, e_chn, e_and, e_or, e_not, e_ite, e_tup, e_lst, e_new, e_dct, e_ix, e_sl, e_call, e_bi, e_mt, e_app, e_isi, e_comp_seq, e_comp_rng, e_comp_enum, e_comp_zip, e_xfld, bind_ok, bind_exc, to_ok, to_exc, opt_some, then_nx, then_rt, then_exc, d_val, d_new, tru_bl, tru_non, fin_bl, fin_int, fin_str, fin_non, fin_xnon, fin_xint, GK_call, GK_sub, GK_fld, GK_hot, List.map_cons, List.map_nil, List.cons_append, List.nil_append, List.replicate_succ, List.replicate_zero, Nat.sub_self, Nat.reduceSub, List.getElem?_cons_zero, List.getElem?_cons_succ, List.set_cons_zero, List.set_cons_succ, wipe, bindT, bindTs, List.length_cons, List.length_nil, Nat.reduceAdd, Nat.reduceLT, Nat.reduceLeDiff, Nat.zero_le, binW, binD, compL, stays_nil, decide_true, decide_false, LINE, Int.cast_ofNat_Int, Int.reduceLE, Int.reduceLT, Int.natCast_zero, Int.natCast_one, ixL_0, ixL_1, ixL_2, eqD_int, eqD_str, ixD_tup, ixD_lst, biD, boolsOf, lstOf, Option.bind_some, List.all_cons, List.all_nil, id, isx_non, isx_bl, isx_int, isx_str, isx_tup, isx_lst, isx_frz, isx_ref, isx_exn, String.reduceBEq, Bool.or_false, Bool.or_true, Bool.true_or, Bool.false_or, Bool.and_true, Bool.true_and, Bool.and_false, Bool.false_and, reduceIte, Bool.false_eq_true, Option.map_some, Option.map_none, Bool.not_true, Bool.not_false, e1, e2, cmpD, hij, decide_true]
      · cases hcn : rs.contains (D.tup [.int v1, .int v2]) with
        | true =>
          refine ⟨S2, b2, rs, ?_, M2', hp2, q2, hr, by omega, L.len, fun i o hi hir hib hip => L.kp i o hi hir hib⟩
          simp only [xs_nil, xs_cons, evs, compF, x_asg, x_put, x_xpr, x_ret, x_cond, x_loop_seq, x_loop_enum, x_loop_rng, x_loop_zip, x_whl, x_raise, x_raiseN, x_tryx, x_tryr, x_pass, x_brk, x_cont, loopR_enum, loopR_tup, loopR_lst, ev_var, e_cst, e_bin, e_neg, e_cmp, e_chn, e_and, e_or, e_not, e_ite, e_tup, e_lst, e_new, e_dct, e_ix, e_sl, e_call, e_bi, e_mt, e_app, e_isi, e_comp_seq, e_comp_rng, e_comp_enum, e_comp_zip, e_xfld, bind_ok, bind_exc, to_ok, to_exc, opt_some, then_nx, then_rt, then_exc, d_val, d_new, tru_bl, tru_non, fin_bl, fin_int, fin_str, fin_non, fin_xnon, fin_xint, GK_call, GK_sub, GK_fld, GK_hot, List.map_cons, List.map_nil, List.cons_append, List.nil_append, List.replicate_succ, List.replicate_zero, Nat.sub_self, Nat.reduceSub, List.getElem?_cons_zero, List.getElem?_cons_succ, List.set_cons_zero, List.set_cons_succ, wipe, bindT, bindTs, List.length_cons, List.length_nil, Nat.reduceAdd, Nat.reduceLT, Nat.reduceLeDiff, Nat.zero_le, binW, binD, compL, stays_nil, decide_true, decide_false, LINE, Int.cast_ofNat_Int, Int.reduceLE, Int.reduceLT, Int.natCast_zero, Int.natCast_one, ixL_0, ixL_1, ixL_2, eqD_int, eqD_str, ixD_tup, ixD_lst, biD, boolsOf, lstOf, Option.bind_some, List.all_cons, List.all_nil, id, isx_non, isx_bl, isx_int, isx_str, isx_tup, isx_lst, isx_frz, isx_ref, isx_exn, String.reduceBEq, Bool.or_false, Bool.or_true, Bool.true_or, Bool.false_or, Bool.and_true, Bool.true_and, Bool.and_false, Bool.false_and, reduceIte, Bool.false_eq_true, Option.map_some, Option.map_none, Bool.not_true, Bool.not_false, e1, e2, cmpD, hij, decide_false, hin, hcn]
        | false =>
          have hlen : (rs.length < 16777216) = True := by simp; omega
          have G : ∀ i, (S2.set p (.lst (rs ++ [.tup [.int v1, .int v2]])))[i]? = if i = p then some (.lst (rs ++ [.tup [.int v1, .int v2]])) else S2[i]? := fun i => set_get hp2
          refine ⟨S2.set p (.lst (rs ++ [.tup [.int v1, .int v2]])), b2, rs ++ [.tup [.int v1, .int v2]], ?_, ?_, ?_, q2, ?_, by simp; omega, by simp; exact L.len, ?_⟩
          · simp only [xs_nil, xs_cons, evs, compF, x_asg, x_put, x_xpr, x_ret, x_cond, x_loop_seq, x_loop_enum, x_loop_rng, x_loop_zip, x_whl, x_raise, x_raiseN, x_tryx, x_tryr, x_pass, x_brk, x_cont, loopR_enum, loopR_tup, loopR_lst, ev_var, e_cst, e_bin, e_neg, e_cmp, e_chn, e_and, e_or, e_not, e_ite, e_tup, e_lst, e_new, e_dct, e_ix, e_sl, e_call, e_bi, e_mt, e_app, e_isi, e_comp_seq, e_comp_rng, e_comp_enum, e_comp_zip, e_xfld, bind_ok, bind_exc, to_ok, to_exc, opt_some, then_nx, then_rt, then_exc, d_val, d_new, tru_bl, tru_non, fin_bl, fin_int, fin_str, fin_non, fin_xnon, fin_xint, GK_call, GK_sub, GK_fld, GK_hot, List.map_cons, List.map_nil, List.cons_append, List.nil_append, List.replicate_succ, List.replicate_zero, Nat.sub_self, Nat.reduceSub, List.getElem?_cons_zero, List.getElem?_cons_succ, List.set_cons_zero, List.set_cons_succ, wipe, bindT, bindTs, List.length_cons, List.length_nil, Nat.reduceAdd, Nat.reduceLT, Nat.reduceLeDiff, Nat.zero_le, binW, binD, compL, stays_nil, decide_true, decide_false, LINE, Int.cast_ofNat_Int, Int.reduceLE, Int.reduceLT, Int.natCast_zero, Int.natCast_one, ixL_0, ixL_1, ixL_2, eqD_int, eqD_str, ixD_tup, ixD_lst, biD, boolsOf, lstOf, Option.bind_some, List.all_cons, List.all_nil, id, isx_non, isx_bl, isx_int, isx_str, isx_tup, isx_lst, isx_frz, isx_ref, isx_exn, String.reduceBEq, Bool.or_false, Bool.or_true, Bool.true_or, Bool.false_or, Bool.and_true, Bool.true_and, Bool.and_false, Bool.false_and, reduceIte, Bool.false_eq_true, Option.map_some, Option.map_none, Bool.not_true, Bool.not_false, e1, e2, cmpD, hij, decide_false, hin, hcn, lstOf, hp2, Option.isSome_some, hlen, Bool.true_eq_false]
          · obtain ⟨t, cells, left, t1, t2, t3, t4, t5, t6⟩ := M2'.tab
            exact ⟨t, cells, left, by rw [G, if_neg (fun e => h1 e.symm), t1], by rw [G, if_neg (fun e => h1a e.symm), t2], by rw [G, if_neg (fun e => q2 e.symm), t3], t4, t5, t6⟩
          · rw [G, if_pos rfl]
          · exact roadsFault_app (road_of_ints a1 a2 a3 a4 hij) hr (by simpa using hcn)
          · intro i o hi hir hib hip
            obtain ⟨y1, y2⟩ := L.kp i o hi hir hib
            exact ⟨by rw [G, if_neg hip, y1], y2⟩
    obtain ⟨S3, b3, rs3, e3, M3, hp3, q3, hr3, hc3, hl3, K3⟩ := ef
    obtain ⟨S', b', rs', u', v', e', M', hp', _, q', hr', hc', hl', K'⟩ := drawn_roads k f r a p n0 most many hm hm2 hn0 hf items S3 b3 (c + 1) rs3 (some x) (some (.tup [.int v1, .int v2])) (by omega) (fun y hy => hix y (by simp [hy])) M3 hp3 h1 h1a q3 hr3 hc3
    refine ⟨S', b', rs', u', v', ?_, M', hp', h1, q', hr', hc', by omega, ?_⟩
    · rw [st, e3]; exact e'
    · intro i o hi hir hib hip
      obtain ⟨y1, y2⟩ := K3 i o hi hir hib hip
      exact K' i o y1 hir y2 hip
end K82
end

section
set_option Elab.async false
set_option linter.all false
set_option maxRecDepth 100000
set_option maxHeartbeats 0
namespace K82
open DW
open PySem (Str)
def addD (xs : List D) (v : Int) : List D := if xs.contains (.int v) then xs else xs ++ [.int v]
theorem addD_ok {n v : Int} {xs : List D} (h0 : 0 ≤ v) (h1 : v < n) (h : doorsFault n [] xs 0 = none) : doorsFault n [] (addD xs v) 0 = none := by
  unfold addD
  split
  · exact h
  · rename_i hc
    refine doorsFault_app ?_ h (by simpa using hc)
    simp [isAm]; omega
theorem addD_len (xs : List D) (v : Int) : (addD xs v).length ≤ xs.length + 1 := by
  unfold addD; split <;> simp
theorem drawn_doors (k : Nat) (f : D → Env → Store → RS) (r a n0 : Nat) (most many : Int) (v3 v5 : Option D) (hm : 1 ≤ many) (hm2 : many ≤ 16) (hn0 : n0 ≤ 1000000000)
    (hf : f = bodyF (GK (k + 1)) none (.nm 4) (.cons (.asg (.nm 6) (.bin .add (.var 6) (.comp [8] (.nm 8) .seq (.cons (.lst (.cons (.call (23 : Nat) (.cons (.var 0) (.cons (.var 2) .nil))) .nil)) .nil) (.cmp .notin (.var 8) (.var 6)) (.var 8))))
  (.cons (.asg (.nm 7) (.bin .add (.var 7) (.comp [8] (.nm 8) .seq (.cons (.lst (.cons (.call (23 : Nat) (.cons (.var 0) (.cons (.var 2) .nil))) .nil)) .nil) (.cmp .notin (.var 8) (.var 7)) (.var 8))))
  .nil))) : ∀ (items : List D) (S : Store) (b c : Nat) (ins outs : List D) (u : Option D), items.length + c ≤ 4 → (∀ x ∈ items, x.isx = false) → MSt S r a b (n0 + 2 * c) →
      doorsFault many [] ins 0 = none → ins.length ≤ c → doorsFault many [] outs 0 = none → outs.length ≤ c →
    ∃ S' b' ins' outs' u', forL [] f items [some (.ref r), some (.int most), some (.int many), v3, u, v5, some (.lst ins), some (.lst outs), none] S = .nx [some (.ref r), some (.int most), some (.int many), v3, u', v5, some (.lst ins'), some (.lst outs'), none] S' ∧
      MSt S' r a b' (n0 + 8) ∧ doorsFault many [] ins' 0 = none ∧ ins'.length ≤ 4 ∧ doorsFault many [] outs' 0 = none ∧ outs'.length ≤ 4 ∧ Lat S S' r b b'
  | [], S, b, c, ins, outs, u, hl, _, M, hi, hi2, ho, ho2 => by
    simp only [List.length_nil] at hl
    exact ⟨S, b, ins, outs, u, by simp [forL, stays], M.mono (by omega), hi, by omega, ho, by omega, Lat.refl _ _ _⟩
  | x :: items, S, b, c, ins, outs, u, hl, hix, M, hi, hi2, ho, ho2 => by
    have hx := hix x (by simp)
    simp only [List.length_cons] at hl
    obtain ⟨v1, S1, b1, e1, a1, a2, M1, L1⟩ := r_law_next k S r a b _ many M (by omega) (by omega) (by omega)
    obtain ⟨v2, S2, b2, e2, a3, a4, M2, L2⟩ := r_law_next k S1 r a b1 _ many M1 (by omega) (by omega) (by omega)
    have L := L1.trans L2
    have st : forL [] f (x :: items) [some (.ref r), some (.int most), some (.int many), v3, u, v5, some (.lst ins), some (.lst outs), none] S =
      match f x [some (.ref r), some (.int most), some (.int many), v3, u, v5, some (.lst ins), some (.lst outs), none] S with
      | .nx ρ' S' => forL [] f items ρ' S'
      | .ct ρ' S' => forL [] f items ρ' S'
      | .bk ρ' S' => .nx ρ' S'
      | r => r := by
      rw [forL, if_pos (stays_nil _)] <;> rfl
    have iI : inD S1 (.int v1) (.lst ins) = some (ins.contains (.int v1)) := inL_int fun y hy => by obtain ⟨i, e⟩ := isAm_int (doorsFault_none hi y hy); exact ⟨i, e⟩
    have iO : inD S2 (.int v2) (.lst outs) = some (outs.contains (.int v2)) := inL_int fun y hy => by obtain ⟨i, e⟩ := isAm_int (doorsFault_none ho y hy); exact ⟨i, e⟩
    have cI : ∀ s, catL s (.lst ins) (.lst (if ins.contains (.int v1) then [] else [.int v1])) = some (addD ins v1) := by
      intro s
      unfold addD
      cases ins.contains (.int v1)
      · simp only [Bool.false_eq_true, if_false]; exact cat_ok s (by simp; omega)
      · simp only [if_true]; rw [cat_ok s (by simp; omega)]; simp
    have cO : ∀ s, catL s (.lst outs) (.lst (if outs.contains (.int v2) then [] else [.int v2])) = some (addD outs v2) := by
      intro s
      unfold addD
      cases outs.contains (.int v2)
      · simp only [Bool.false_eq_true, if_false]; exact cat_ok s (by simp; omega)
      · simp only [if_true]; rw [cat_ok s (by simp; omega)]; simp
    have ef : f x [some (.ref r), some (.int most), some (.int many), v3, u, v5, some (.lst ins), some (.lst outs), none] S = .nx [some (.ref r), some (.int most), some (.int many), v3, some x, v5, some (.lst (addD ins v1)), some (.lst (addD outs v2)), none] S2 := by
      rw [hf, bodyF]
      cases hc1 : ins.contains (.int v1) <;> cases hc2 : outs.contains (.int v2) <;>
        (rw [hc1] at cI; rw [hc2] at cO; simp only [Bool.false_eq_true, if_false, if_true] at cI cO
         simp only [xs_nil, xs_cons, evs, compF, x_asg, x_put, x_xpr, x_ret, x_cond, x_loop_seq, x_loop_enum, x_loop_rng, x_loop_zip, x_whl, x_raise, x_raiseN, x_tryx, x_tryr, x_pass, x_brk, x_cont, loopR_enum, loopR_tup, loopR_lst, ev_var, e_cst, e_bin, e_neg, e_cmp, e_chn, e_and, e_or, e_not, e_ite, e_tup, e_lst, e_new, e_dct, e_ix, e_sl, e_call, e_bi, e_mt, e_app, e_isi, e_comp_seq, e_comp_rng, e_comp_enum, e_comp_zip, e_xfld, bind_ok, bind_exc, to_ok, to_exc, opt_some, then_nx, then_rt, then_exc, d_val, d_new, tru_bl, tru_non, fin_bl, fin_int, fin_str, fin_non, fin_xnon, fin_xint, GK_call, GK_sub, GK_fld, GK_hot, List.map_cons, List.map_nil, List.cons_append, List.nil_append, List.replicate_succ, List.replicate_zero, Nat.sub_self, Nat.reduceSub, List.getElem?_cons_zero, List.getElem?_cons_succ, List.set_cons_zero, List.set_cons_succ, wipe, bindT, bindTs, List.length_cons, List.length_nil, Nat.reduceAdd, Nat.reduceLT, Nat.reduceLeDiff, Nat.zero_le, binW, binD, compL, stays_nil, decide_true, decide_false, LINE, Int.cast_ofNat_Int, Int.reduceLE, Int.reduceLT, Int.natCast_zero, Int.natCast_one, ixL_0, ixL_1, ixL_2, eqD_int, eqD_str, ixD_tup, ixD_lst, biD, boolsOf, lstOf, Option.bind_some, List.all_cons, List.all_nil, id, isx_non, isx_bl, isx_int, isx_str, isx_tup, isx_lst, isx_frz, isx_ref, isx_exn, String.reduceBEq, Bool.or_false, Bool.or_true, Bool.true_or, Bool.false_or, Bool.and_true, Bool.true_and, Bool.and_false, Bool.false_and, reduceIte, Bool.false_eq_true, Option.map_some, Option.map_none, Bool.not_true, Bool.not_false, e1, e2, itemsOf, srcOf, cmpD, iI, iO, hc1, hc2, cI, cO])
    obtain ⟨S', b', ins', outs', u', e', M', hi', hil, ho', hol, L'⟩ := drawn_doors k f r a n0 most many v3 v5 hm hm2 hn0 hf items S2 b2 (c + 1) (addD ins v1) (addD outs v2) (some x) (by omega) (fun y hy => hix y (by simp [hy]))
      (M2.mono (by omega)) (addD_ok a1 a2 hi) (by have := addD_len ins v1; omega) (addD_ok a3 a4 ho) (by have := addD_len outs v2; omega)
    exact ⟨S', b', ins', outs', u', by rw [st, ef]; exact e', M', hi', hil, ho', hol, L.trans L'⟩
theorem rng_isx (n : Nat) : ∀ x ∈ (List.range n).map (fun i => D.int ((i : Nat) : Int)), x.isx = false := by
  intro x hx; rw [List.mem_map] at hx; obtain ⟨i, _, rfl⟩ := hx; rfl

theorem r_law_drawn_piece (k : Nat) (S : Store) (r a b n0 : Nat) (most : Int) (h : MSt S r a b n0) (hn0 : n0 ≤ 100000000) (hm : 1 ≤ most) (hm2 : most ≤ 16) :
    ∃ n rs ins outs S' b', Rn (k + 2) (18 : Nat) [.ref r, .int most] S = .ok (pD n rs ins outs) S' ∧ Pc n rs ins outs ∧ MSt S' r a b' (n0 + 200) := by
  obtain ⟨v0, S1, b1, e1, a1, a2, M1, L1⟩ := r_law_next k S r a b n0 most h (by omega) (by omega) (by omega)
  have hr : ∀ {S : Store} {b n : Nat}, MSt S r a b n → r < S.length ∧ a < S.length ∧ b < S.length := by
    intro S b n h
    obtain ⟨t, cells, left, t1, t2, t3, _⟩ := h.tab
    rw [List.getElem?_eq_some_iff] at t1 t2 t3
    exact ⟨t1.1, t2.1, t3.1⟩
  obtain ⟨l1, l2, l3⟩ := hr M1
  have M1' : MSt (S1 ++ [.lst []]) r a b1 (n0 + 1) := by
    obtain ⟨t, cells, left, t1, t2, t3, t4, t5, t6⟩ := M1.tab
    exact ⟨t, cells, left, by rw [List.getElem?_append_left l1, t1], by rw [List.getElem?_append_left l2, t2], by rw [List.getElem?_append_left l3, t3], t4, t5, t6⟩
  have hp : (S1 ++ [Ob.lst []])[S1.length]? = some (.lst []) := by simp
  obtain ⟨w, S2, b2, e2, a3, a4, M2, L2⟩ := r_law_next k (S1 ++ [.lst []]) r a b1 _ (2 * most) M1' (by omega) (by omega) (by omega)
  obtain ⟨hp2, q2⟩ := L2.kp S1.length _ hp (by omega) (by omega)
  have ew : w = ((w.toNat : Nat) : Int) := by omega
  obtain ⟨S3, b3, rs, u, v, e3, M3, hp3, _, q3, hrs, hrl, hl3, K3⟩ := drawn_roads k _ r a S1.length (n0 + 2) most (1 + v0) (by omega) (by omega) (by omega) rfl
    ((List.range w.toNat).map (fun i => D.int ((i : Nat) : Int))) S2 b2 0 [] none none (by simp; omega) (rng_isx _) (by simpa using M2) hp2 (by omega) (by omega) q2 rfl (by simp)
  obtain ⟨w2, S4, b4, e4, a5, a6, M4, L4⟩ := r_law_next k S3 r a b3 _ 4 M3 (by omega) (by omega) (by omega)
  obtain ⟨hp4, q4⟩ := L4.kp S1.length _ hp3 (by omega) q3
  have ew2 : w2 = ((w2.toNat : Nat) : Int) := by omega
  obtain ⟨S5, b5, ins, outs, u', e5, M5, hi, hil, ho, hol, L5⟩ := drawn_doors k _ r a (n0 + 2 + 80 + 1) most (1 + v0) (some (.ref S1.length)) v (by omega) (by omega) (by omega) rfl
    ((List.range w2.toNat).map (fun i => D.int ((i : Nat) : Int))) S4 b4 0 [] [] u (by simp; omega) (rng_isx _) (by simpa using M4) rfl (by simp) rfl (by simp)
  obtain ⟨hp5, q5⟩ := L5.kp S1.length _ hp4 (by omega) q4
  have hw := loopX_rng (f := bodyF (GK (k + 1)) none (.nm 4) (.cons (.asg (.nm 5) (.tup (.cons (.call (23 : Nat) (.cons (.var 0) (.cons (.var 2) .nil))) (.cons (.call (23 : Nat) (.cons (.var 0) (.cons (.var 2) .nil))) .nil))))
  (.cons (.cond (.and (.cmp .ne (.ix (.var 5) (.cst (.int (0)))) (.ix (.var 5) (.cst (.int (1))))) (.cmp .notin (.var 5) (.var 3)))
  (.cons (.xpr (.app (.var 3) (.var 5)))
  .nil)
  .nil)
  .nil))) (ρ := [some (.ref r), some (.int most), some (.int (1 + v0)), some (.ref S1.length), none, none, none, none, none]) (S := S2) (n := w.toNat) (by omega)
  rw [← ew] at hw
  have hw2 := loopX_rng (f := bodyF (GK (k + 1)) none (.nm 4) (.cons (.asg (.nm 6) (.bin .add (.var 6) (.comp [8] (.nm 8) .seq (.cons (.lst (.cons (.call (23 : Nat) (.cons (.var 0) (.cons (.var 2) .nil))) .nil)) .nil) (.cmp .notin (.var 8) (.var 6)) (.var 8))))
  (.cons (.asg (.nm 7) (.bin .add (.var 7) (.comp [8] (.nm 8) .seq (.cons (.lst (.cons (.call (23 : Nat) (.cons (.var 0) (.cons (.var 2) .nil))) .nil)) .nil) (.cmp .notin (.var 8) (.var 7)) (.var 8))))
  .nil))) (ρ := [some (.ref r), some (.int most), some (.int (1 + v0)), some (.ref S1.length), u, v, some (.lst []), some (.lst []), none]) (S := S4) (n := w2.toNat) (by omega)
  rw [← ew2] at hw2
  have mo : mulOk 2 most = true := mulOk_l (by decide) (by decide)
  have P : Pc (1 + v0) rs ins outs := by
    have hnf : netFault (.tup [.int (1 + v0), .tup rs]) = none := by
      have h1 : isAm 1 16 (.int (1 + v0)) = true := by simp [isAm]; omega
      have h2 : isTup 0 60 (.tup rs) = true := by simp [isTup]; omega
      simp only [netFault, h1, h2, if_true, hrs, Option.map_none]
    have hdf : ∀ {s : Int} {xs : List D}, doorsFault (1 + v0) [] xs 0 = none → xs.length ≤ 4 → doorFault (1 + v0) s (.tup xs) = none := by
      intro s xs hx hl
      have h2 : isTup 0 5 (.tup xs) = true := by simp [isTup]; omega
      simp only [doorFault, h2, if_true, hx, Option.map_none]
    refine ⟨by omega, by omega, by omega, roadsFault_none hrs, by omega, doorsFault_none hi, by omega, doorsFault_none ho, hnf, ?_⟩
    simp only [pD, pieceFault, hnf, hdf hi hil, hdf ho hol, Option.map_none]
  have hf2 : ∃ S' b', fin S (.rt (pD (1 + v0) rs ins outs) S5) = .ok (pD (1 + v0) rs ins outs) S' ∧ MSt S' r a b' (n0 + 200) := by
    rw [fin_gc (pD_pln P)]
    rcases gc_or S S5 (pD (1 + v0) rs ins outs) with hg | ⟨hg, _⟩
    · exact ⟨S5, b5, by rw [hg], M5.mono (by omega)⟩
    · exact ⟨S, b, by rw [hg], h.mono (by omega)⟩
  obtain ⟨S', b', ef, MF⟩ := hf2
  refine ⟨1 + v0, rs, ins, outs, S', b', ?_, P, MF⟩
  rw [Rn_at t_law_drawn_piece rfl, b_law_drawn_piece]
  simp only [xs_nil, xs_cons, evs, compF, x_asg, x_put, x_xpr, x_ret, x_cond, x_loop_seq, x_loop_enum, x_loop_rng, x_loop_zip, x_whl, x_raise, x_raiseN, x_tryx, x_tryr, x_pass, x_brk, x_cont, loopR_enum, loopR_tup, loopR_lst, ev_var, e_cst, e_bin, e_neg, e_cmp, e_chn, e_and, e_or, e_not, e_ite, e_tup, e_lst, e_new, e_dct, e_ix, e_sl, e_call, e_bi, e_mt, e_app, e_isi, e_comp_seq, e_comp_rng, e_comp_enum, e_comp_zip, e_xfld, bind_ok, bind_exc, to_ok, to_exc, opt_some, then_nx, then_rt, then_exc, d_val, d_new, tru_bl, tru_non, fin_bl, fin_int, fin_str, fin_non, fin_xnon, fin_xint, GK_call, GK_sub, GK_fld, GK_hot, List.map_cons, List.map_nil, List.cons_append, List.nil_append, List.replicate_succ, List.replicate_zero, Nat.sub_self, Nat.reduceSub, List.getElem?_cons_zero, List.getElem?_cons_succ, List.set_cons_zero, List.set_cons_succ, wipe, bindT, bindTs, List.length_cons, List.length_nil, Nat.reduceAdd, Nat.reduceLT, Nat.reduceLeDiff, Nat.zero_le, binW, binD, compL, stays_nil, decide_true, decide_false, LINE, Int.cast_ofNat_Int, Int.reduceLE, Int.reduceLT, Int.natCast_zero, Int.natCast_one, ixL_0, ixL_1, ixL_2, eqD_int, eqD_str, ixD_tup, ixD_lst, biD, boolsOf, lstOf, Option.bind_some, List.all_cons, List.all_nil, id, isx_non, isx_bl, isx_int, isx_str, isx_tup, isx_lst, isx_frz, isx_ref, isx_exn, String.reduceBEq, Bool.or_false, Bool.or_true, Bool.true_or, Bool.false_or, Bool.and_true, Bool.true_and, Bool.and_false, Bool.false_and, reduceIte, Bool.false_eq_true, Option.map_some, Option.map_none, Bool.not_true, Bool.not_false, e1, mo, e2, hw, e3, e4, hw2, e5, hp5]
  exact ef
end K82
end

section
set_option Elab.async false
set_option linter.all false
set_option maxRecDepth 100000
set_option maxHeartbeats 0
namespace K82
open DW
open PySem (Str)
theorem fl_mono : ∀ (k : Nat) (d : D), D.fl k d = true → D.fl (k + 1) d = true := by
  intro k
  induction k with
  | zero =>
    intro d h
    cases d <;> simp [D.fl] at h ⊢
  | succ k ih =>
    intro d h
    cases d <;> simp [D.fl] at h ⊢
    rename_i xs
    refine ⟨h.1, ?_⟩
    have : ∀ xs : List D, D.fls k xs = true → D.fls (k + 1) xs = true := by
      intro xs
      induction xs with
      | nil => intro _; rfl
      | cons x xs ih2 =>
        intro h
        simp only [D.fls, Bool.and_eq_true] at h ⊢
        exact ⟨ih x h.1, ih2 h.2⟩
    exact this xs h.2
theorem fl_le {k m : Nat} {d : D} (h : D.fl k d = true) (hm : k ≤ m) : D.fl m d = true := by
  induction m with
  | zero => have : k = 0 := by omega
            subst this; exact h
  | succ m ih =>
    by_cases e : k = m + 1
    · subst e; exact h
    · exact fl_mono m d (ih (by omega))
theorem len_cat (x y : Str) : (x ++ y).length = x.length + y.length := by
  rw [TL.len_tl, TL.tl_append, List.length_append, ← TL.len_tl, ← TL.len_tl]
theorem pD_fl {n : Int} {rs ins outs : List D} (h : Pc n rs ins outs) : D.fl 4 (pD n rs ins outs) = true := by
  have := orN_fl (wordsP n rs ins outs)
  rw [read_words h] at this; exact this

theorem near_ok (k : Nat) (S : Store) (z : Str) (hz : z.length ≤ 3000) :
    ∃ d, Rn (k + 7) (26 : Nat) [.str z] S = .ok d S ∧ Rn (k + 7) (21 : Nat) [.str z] S = .ok d S ∧ Rn (k + 7) (25 : Nat) [d, d] S = .ok (.bl true) S := by
  have hL : LINE = 16777216 := rfl
  have hl : z.cps.toList.length = z.length := by simp [Str.length]
  have e : z = SX.S z.cps.toList := (SX.S_tl z).symm
  have a := r_law_told k z.cps.toList S (by omega)
  have b := r_law_read_piece (k + 3) z.cps.toList S (by omega)
  rw [law_read] at b
  rw [← e] at a b
  exact ⟨_, a, b, r_like_self (k + 6) _ S (fl_le (orN_fl _) (by omega))⟩
end K82
namespace K82
open DW
open PySem (Str)
abbrev SIGNS : Str := (" >0123456789inout-\n\t_~" : Str)
theorem right_loop (k : Nat) (f : D → Env → Store → RS) (r a n0 : Nat) (pc : D) (T : Str) (hT : T.length ≤ 500) (hn0 : n0 ≤ 1000000000)
    (hf : f = bodyF (GK (k + 7)) none (.nm 3) (.cons (.asg (.nm 4) (.call (23 : Nat) (.cons (.var 0) (.cons (.bin .add (.bi .len (.cons (.var 2) .nil)) (.cst (.int (1)))) .nil))))
  (.cons (.asg (.nm 5) (.call (24 : Nat) (.cons (.var 0) (.cons (.cst (.str (" >0123456789inout-\n\t_~" : PySem.Str))) .nil))))
  (.cons (.asg (.nm 6) (.lst (.cons (.bin .add (.bin .add (.sl (.var 2) (.cst .non) (.var 4)) (.var 5)) (.sl (.var 2) (.var 4) (.cst .non))) (.cons (.bin .add (.bin .add (.sl (.var 2) (.cst .non) (.var 4)) (.var 5)) (.sl (.var 2) (.bin .add (.var 4) (.cst (.int (1)))) (.cst .non))) (.cons (.bin .add (.sl (.var 2) (.cst .non) (.var 4)) (.sl (.var 2) (.bin .add (.var 4) (.cst (.int (1)))) (.cst .non))) (.cons (.sl (.var 2) (.var 4) (.cst .non)) (.cons (.sl (.var 2) (.cst .non) (.var 4)) (.cons (.bin .add (.bin .add (.var 2) (.cst (.str (" " : PySem.Str)))) (.var 2)) .nil))))))))
  (.cons (.asg (.nm 7) (.call (24 : Nat) (.cons (.var 0) (.cons (.bin .add (.var 6) (.lst (.cons (.bin .add (.var 2) (.cst (.str (" 0" : PySem.Str)))) (.cons (.bin .add (.cst (.str ("1 " : PySem.Str))) (.var 2)) (.cons (.bin .add (.sl (.var 2) (.cst .non) (.var 4)) (.bin .mul (.sl (.var 2) (.var 4) (.cst .non)) (.cst (.int (2))))) .nil))))) .nil))))
  (.cons (.cond (.not (.call (25 : Nat) (.cons (.call (26 : Nat) (.cons (.var 7) .nil)) (.cons (.call (21 : Nat) (.cons (.var 7) .nil)) .nil))))
  (.cons (.ret (.cst (.bl false)))
  .nil)
  .nil)
  .nil)))))) : ∀ (items : List D) (S : Store) (b c : Nat) (u1 u2 u3 u4 u5 : Option D), items.length + c ≤ 10 → (∀ x ∈ items, x.isx = false) → MSt S r a b (n0 + 3 * c) →
    ∃ S' b' w1 w2 w3 w4 w5, forL [] f items [some (.ref r), some pc, some (.str T), u1, u2, u3, u4, u5] S = .nx [some (.ref r), some pc, some (.str T), w1, w2, w3, w4, w5] S' ∧ MSt S' r a b' (n0 + 30)
  | [], S, b, c, u1, u2, u3, u4, u5, hl, _, M => ⟨S, b, u1, u2, u3, u4, u5, by simp [forL, stays], M.mono (by simp at hl; omega)⟩
  | x :: items, S, b, c, u1, u2, u3, u4, u5, hl, hix, M => by
    have hx := hix x (by simp)
    simp only [List.length_cons] at hl
    obtain ⟨v, S1, b1, e1, a1, a2, M1, LL1⟩ := r_law_next (k + 6) S r a b _ ((T.length : Nat) + 1) M (by omega) (by omega) (by omega)
    obtain ⟨sg, S2, b2, e2, M2, LL2⟩ := r_of_str (k + 5) S1 r a b1 _ SIGNS M1 (by omega) (by decide +kernel) (by decide +kernel)
    obtain ⟨A, hA⟩ : ∃ A, L2.cutS T none (some v) = A := ⟨_, rfl⟩
    obtain ⟨B, hB⟩ : ∃ B, L2.cutS T (some v) none = B := ⟨_, rfl⟩
    obtain ⟨C, hC⟩ : ∃ C, L2.cutS T (some (v + 1)) none = C := ⟨_, rfl⟩
    have lA : A.length ≤ 500 := by rw [← hA]; exact Nat.le_trans (L2.cutS_length _ _ _) hT
    have lB : B.length ≤ 500 := by rw [← hB]; exact Nat.le_trans (L2.cutS_length _ _ _) hT
    have lC : C.length ≤ 500 := by rw [← hC]; exact Nat.le_trans (L2.cutS_length _ _ _) hT
    have lT : (T.length ≤ 16777216) = True := by simp; omega
    have l1 : (⟨#[sg]⟩ : Str).length = 1 := rfl
    have l2 : (" " : Str).length = 1 := by decide +kernel
    have l3 : (" 0" : Str).length = 2 := by decide +kernel
    have l4 : ("1 " : Str).length = 2 := by decide +kernel
    have c1 : (A.length + 1 ≤ 16777216) = True := by simp; omega
    have c2 : (A.length + 1 + B.length ≤ 16777216) = True := by simp; omega
    have c3 : (A.length + 1 + C.length ≤ 16777216) = True := by simp; omega
    have c4 : (A.length + C.length ≤ 16777216) = True := by simp; omega
    have c5 : (T.length + 1 ≤ 16777216) = True := by simp; omega
    have c6 : (T.length + 1 + T.length ≤ 16777216) = True := by simp; omega
    have c7 : (T.length + 2 ≤ 16777216) = True := by simp; omega
    have c8 : (2 + T.length ≤ 16777216) = True := by simp; omega
    have c9 : (B.length * Int.toNat 2 ≤ 16777216) = True := by simp; omega
    obtain ⟨W, hW⟩ : ∃ W : Str, (if B.length = 0 then B else ⟨(List.replicate (Int.toNat 2) B.cps).foldl (fun x1 x2 => x1 ++ x2) #[]⟩) = W := ⟨_, rfl⟩
    have lW : W.length ≤ 1000 := by
      rw [← hW]
      split
      · omega
      · have e : (List.replicate (Int.toNat 2) B.cps).foldl (fun x1 x2 => x1 ++ x2) #[] = #[] ++ B.cps ++ B.cps := rfl
        simp only [e, Str.length, Array.size_append] at lB ⊢
        simp; omega
    have c10 : (A.length + W.length ≤ 16777216) = True := by simp; omega
    have h9 : ∀ S, catL S (.lst [.str (A ++ ⟨#[sg]⟩ ++ B), .str (A ++ ⟨#[sg]⟩ ++ C), .str (A ++ C), .str B, .str A, .str (T ++ (" " : Str) ++ T)]) (.lst [.str (T ++ (" 0" : Str)), .str (("1 " : Str) ++ T), .str (A ++ W)]) =
        some [.str (A ++ ⟨#[sg]⟩ ++ B), .str (A ++ ⟨#[sg]⟩ ++ C), .str (A ++ C), .str B, .str A, .str (T ++ (" " : Str) ++ T), .str (T ++ (" 0" : Str)), .str (("1 " : Str) ++ T), .str (A ++ W)] := by
      intro S; exact cat_ok S (by simp)
    obtain ⟨y, S3, b3, hy, e3, M3, LL3⟩ := r_of_lst (k + 5) S2 r a b2 _ [.str (A ++ ⟨#[sg]⟩ ++ B), .str (A ++ ⟨#[sg]⟩ ++ C), .str (A ++ C), .str B, .str A, .str (T ++ (" " : Str) ++ T), .str (T ++ (" 0" : Str)), .str (("1 " : Str) ++ T), .str (A ++ W)] M2 (by omega) (by simp) (by simp)
      (by intro z hz; simp only [List.mem_cons, List.not_mem_nil, or_false] at hz; rcases hz with rfl | rfl | rfl | rfl | rfl | rfl | rfl | rfl | rfl <;> rfl)
    have hz : ∃ z : Str, y = .str z ∧ z.length ≤ 3000 := by
      simp only [List.mem_cons, List.not_mem_nil, or_false] at hy
      rcases hy with rfl | rfl | rfl | rfl | rfl | rfl | rfl | rfl | rfl <;> refine ⟨_, rfl, ?_⟩ <;> (try simp only [len_cat, l1, l2, l3, l4]) <;> omega
    obtain ⟨z, rfl, hz⟩ := hz
    obtain ⟨d, n1, n2, n3⟩ := near_ok k S3 z hz
    have st : forL [] f (x :: items) [some (.ref r), some pc, some (.str T), u1, u2, u3, u4, u5] S =
      match f x [some (.ref r), some pc, some (.str T), u1, u2, u3, u4, u5] S with
      | .nx ρ' S' => forL [] f items ρ' S'
      | .ct ρ' S' => forL [] f items ρ' S'
      | .bk ρ' S' => .nx ρ' S'
      | r => r := by
      rw [forL, if_pos (stays_nil _)] <;> rfl
    have ef : f x [some (.ref r), some pc, some (.str T), u1, u2, u3, u4, u5] S = .nx [some (.ref r), some pc, some (.str T), some x, some (.int v), some (.str ⟨#[sg]⟩), some (.lst [.str (A ++ ⟨#[sg]⟩ ++ B), .str (A ++ ⟨#[sg]⟩ ++ C), .str (A ++ C), .str B, .str A, .str (T ++ (" " : Str) ++ T)]), some (.str z)] S3 := by
      rw [hf]
      simp only [bodyF]
      simp only [xs_nil, xs_cons, evs, compF, x_asg, x_put, x_xpr, x_ret, x_cond, x_loop_seq, x_loop_enum, x_loop_rng, x_loop_zip, x_whl, x_raise, x_raiseN, x_tryx, x_tryr, x_pass, x_brk, x_cont, loopR_enum, loopR_tup, loopR_lst, ev_var, e_cst, e_bin, e_neg, e_cmp, e_chn, e_and, e_or, e_not, e_ite, e_tup, e_lst, e_new, e_dct, e_ix, e_sl, e_call, e_bi, e_mt, e_app, e_isi, e_comp_seq, e_comp_rng, e_comp_enum, e_comp_zip, e_xfld, bind_ok, bind_exc, to_ok, to_exc, opt_some, then_nx, then_rt, then_exc, d_val, d_new, tru_bl, tru_non, fin_bl, fin_int, fin_str, fin_non, fin_xnon, fin_xint, GK_call, GK_sub, GK_fld, GK_hot, List.map_cons, List.map_nil, List.cons_append, List.nil_append, List.replicate_succ, List.replicate_zero, Nat.sub_self, Nat.reduceSub, List.getElem?_cons_zero, List.getElem?_cons_succ, List.set_cons_zero, List.set_cons_succ, wipe, bindT, bindTs, List.length_cons, List.length_nil, Nat.reduceAdd, Nat.reduceLT, Nat.reduceLeDiff, Nat.zero_le, binW, binD, compL, stays_nil, decide_true, decide_false, LINE, Int.cast_ofNat_Int, Int.reduceLE, Int.reduceLT, Int.natCast_zero, Int.natCast_one, ixL_0, ixL_1, ixL_2, eqD_int, eqD_str, ixD_tup, ixD_lst, biD, boolsOf, lstOf, Option.bind_some, List.all_cons, List.all_nil, id, isx_non, isx_bl, isx_int, isx_str, isx_tup, isx_lst, isx_frz, isx_ref, isx_exn, String.reduceBEq, Bool.or_false, Bool.or_true, Bool.true_or, Bool.false_or, Bool.and_true, Bool.true_and, Bool.and_false, Bool.false_and, reduceIte, Bool.false_eq_true, Option.map_some, Option.map_none, Bool.not_true, Bool.not_false, hx, lenD, lT, e1, e2, slD, noPart, partOf, hA, hB, hC, len_cat, l1, l2, l3, l4, c1, c2, c3, c4, c5, c6, c7, c8, c9, true_and, and_true, hW, c10, h9, e3, n1, n2, n3]
    obtain ⟨S', b', w1, w2, w3, w4, w5, e', M'⟩ := right_loop k f r a n0 pc T hT hn0 hf items S3 b3 (c + 1) (some x) _ _ _ _ (by omega) (fun y hy => hix y (by simp [hy])) (M3.mono (by omega))
    exact ⟨S', b', w1, w2, w3, w4, w5, by rw [st, ef]; exact e', M'⟩

theorem r_law_right (k : Nat) (S : Store) (r a b n0 : Nat) (n : Int) (rs ins outs : List D) (h : MSt S r a b n0) (hn0 : n0 ≤ 100000000) (P : Pc n rs ins outs) :
    ∃ S' b', Rn (k + 8) (27 : Nat) [.ref r, pD n rs ins outs] S = .ok (.bl true) S' ∧ MSt S' r a b' (n0 + 30) := by
  have hT : (textP n rs ins outs).length ≤ 500 := by rw [textP, SX.S_len]; exact text_len P
  obtain ⟨S1, b1, u1, u2, u3, u4, u5, e, M⟩ := right_loop k _ r a n0 (pD n rs ins outs) (textP n rs ins outs) hT (by omega) rfl ((List.range 10).map (fun i => D.int ((i : Nat) : Int))) S b 0 none none none none none (by simp) (rng_isx _) h
  have hp := pD_pln P
  have w := r_law_piece_words (k + 6) n rs ins outs S P
  have t := r_piece_text (k + 1) n rs ins outs S P
  have q := r_read_text (k + 1) n rs ins outs S P
  have q1 := r_like_self (k + 6) (.str (textP n rs ins outs)) S rfl
  have q2 := r_like_self (k + 6) (pD n rs ins outs) S (fl_le (pD_fl P) (by omega))
  have hw : ∀ (f : D → Env → Store → RS) (ρ : Env) (S : Store), loopX .rng [.int 10] f ρ S = forL [] f ((List.range 10).map (fun i => D.int ((i : Nat) : Int))) ρ S := fun f ρ S => loopX_rng (n := 10) (by omega)
  have hf2 : ∃ S' b', fin S (.rt (.bl true) S1) = .ok (.bl true) S' ∧ MSt S' r a b' (n0 + 30) := by
    rw [fin_gc (by simp [D.pln])]
    rcases gc_or S S1 (.bl true) with hg | ⟨hg, _⟩
    · exact ⟨S1, b1, by rw [hg], M⟩
    · exact ⟨S, b, by rw [hg], h.mono (by omega)⟩
  obtain ⟨S', b', ef, MF⟩ := hf2
  refine ⟨S', b', ?_, MF⟩
  rw [Rn_at t_law_right rfl, b_law_right]
  generalize (List.range 10).map (fun i => D.int ((i : Nat) : Int)) = items at *
  simp only [xs_nil, xs_cons, evs, compF, x_asg, x_put, x_xpr, x_ret, x_cond, x_loop_seq, x_loop_enum, x_loop_rng, x_loop_zip, x_whl, x_raise, x_raiseN, x_tryx, x_tryr, x_pass, x_brk, x_cont, loopR_enum, loopR_tup, loopR_lst, ev_var, e_cst, e_bin, e_neg, e_cmp, e_chn, e_and, e_or, e_not, e_ite, e_tup, e_lst, e_new, e_dct, e_ix, e_sl, e_call, e_bi, e_mt, e_app, e_isi, e_comp_seq, e_comp_rng, e_comp_enum, e_comp_zip, e_xfld, bind_ok, bind_exc, to_ok, to_exc, opt_some, then_nx, then_rt, then_exc, d_val, d_new, tru_bl, tru_non, fin_bl, fin_int, fin_str, fin_non, fin_xnon, fin_xint, GK_call, GK_sub, GK_fld, GK_hot, List.map_cons, List.map_nil, List.cons_append, List.nil_append, List.replicate_succ, List.replicate_zero, Nat.sub_self, Nat.reduceSub, List.getElem?_cons_zero, List.getElem?_cons_succ, List.set_cons_zero, List.set_cons_succ, wipe, bindT, bindTs, List.length_cons, List.length_nil, Nat.reduceAdd, Nat.reduceLT, Nat.reduceLeDiff, Nat.zero_le, binW, binD, compL, stays_nil, decide_true, decide_false, LINE, Int.cast_ofNat_Int, Int.reduceLE, Int.reduceLT, Int.natCast_zero, Int.natCast_one, ixL_0, ixL_1, ixL_2, eqD_int, eqD_str, ixD_tup, ixD_lst, biD, boolsOf, lstOf, Option.bind_some, List.all_cons, List.all_nil, id, isx_non, isx_bl, isx_int, isx_str, isx_tup, isx_lst, isx_frz, isx_ref, isx_exn, String.reduceBEq, Bool.or_false, Bool.or_true, Bool.true_or, Bool.false_or, Bool.and_true, Bool.true_and, Bool.and_false, Bool.false_and, reduceIte, Bool.false_eq_true, Option.map_some, Option.map_none, Bool.not_true, Bool.not_false, D.pln_isx hp, w, t, q, q1, q2, hw, e]
  exact ef
end K82
end

section
set_option Elab.async false
set_option linter.all false
set_option maxRecDepth 100000
set_option maxHeartbeats 0
namespace K82
open DW
open PySem (Str)
def wl : List Str := ["", "in out", "1", "1 in", "1 out in", "1 in in out", "1 in out out", " 1 in out", "1  in out", "1 in out ", "01 in out", "17 in out", "0 in out", "2 0>1 in 0 0 out",
  "2 0>0 in out", "2 0>1 0>1 in out", "2 0>2 in out", "2 0>1>0 in out", "2 01>1 in out", "2 in 2 out", "2 in out 00", "6 in 0 1 2 3 4 5 out", "1 in out\n", "1\tin out", "1 IN OUT"]
theorem wl_none : ∀ x ∈ wl, (readP (TL.spl [32] 0 [] x.cps.toList)).isNone = true ∧ x.cps.toList.length ≤ 100 := by decide +kernel
theorem told_none (k : Nat) (S : Store) (x : Str) (h : (readP (TL.spl [32] 0 [] x.cps.toList)).isNone = true) (hl : x.cps.toList.length ≤ 10000) : Rn (k + 7) (26 : Nat) [.str x] S = .ok .non S := by
  have hL : LINE = 16777216 := rfl
  have a := r_law_told k x.cps.toList S (by omega)
  rw [SX.S_tl] at a
  rw [a]
  rw [Option.isNone_iff_eq_none] at h
  rw [h]; rfl
theorem fold_rep (a : Array Nat) : ∀ (n : Nat) (acc : Array Nat), ((List.replicate n a).foldl (fun x1 x2 => x1 ++ x2) acc).toList = acc.toList ++ (List.replicate n a.toList).flatten
  | 0, acc => by simp
  | n + 1, acc => by rw [List.replicate_succ, List.foldl_cons, fold_rep a n, List.replicate_succ, List.flatten_cons]; simp
theorem flat_rep (c : Nat) : ∀ n : Nat, (List.replicate n [c]).flatten = List.replicate n c
  | 0 => rfl
  | n + 1 => by rw [List.replicate_succ, List.flatten_cons, flat_rep c n, List.replicate_succ]; rfl
theorem big_none (x : Str) (h : x.cps.toList = List.replicate 5000 57 ++ [32, 105, 110, 32, 111, 117, 116]) : (readP (TL.spl [32] 0 [] x.cps.toList)).isNone = true := by
  have e1 : x.cps.toList = TL.joinL [32] [List.replicate 5000 57, IN, OUT] := by rw [h]; simp [TL.joinL]
  have hne : ∀ m : List Nat, m.length < 5000 → ¬ m = List.replicate 5000 57 := by
    intro m hm e; rw [e, List.length_replicate] at hm; omega
  have hfree : ∀ p ∈ [List.replicate 5000 57, IN, OUT], 32 ∉ p := by
    intro p hp
    simp only [List.mem_cons, List.not_mem_nil, or_false] at hp
    rcases hp with rfl | rfl | rfl
    · intro hm; have := List.eq_of_mem_replicate hm; omega
    · decide
    · decide
  rw [e1, SX.spl_join (by simp) hfree]
  have c1 : cutAt IN ([List.replicate 5000 57] ++ IN :: [OUT]) = some ([List.replicate 5000 57], [OUT]) := by
    apply cutAt_mem
    simp only [List.mem_cons, List.not_mem_nil, or_false]
    exact hne IN (by decide)
  have c2 : cutAt OUT [OUT] = some ([], []) := by decide +kernel
  have hf : figOf (List.replicate 5000 57) = .non := by
    unfold figOf; rw [if_neg]; rw [List.length_replicate]; decide
  have hz : okP (pieceD [List.replicate 5000 57] [] []) = none := by
    have : pieceFault (pieceD [List.replicate 5000 57] [] []) = some (0, .int 0) := by
      simp only [pieceD, orE, reduceCtorEq, if_false, netOf, hf, List.map_nil, pieceFault, netFault, isAm, Bool.false_eq_true]
    simp only [okP, this, Option.isNone_some, Bool.false_eq_true, if_false]
  have c1' : cutAt IN [List.replicate 5000 57, IN, OUT] = some ([List.replicate 5000 57], [OUT]) := c1
  simp only [readP, c1', c2, hz]; rfl
theorem told_loop (k : Nat) (f : D → Env → Store → RS) (v0 v1 v2 v3 v5 v6 v7 : Option D)
    (hf : f = bodyF (GK k) none (.nm 4) (.cons (.cond (.cmp .isnot (.call (26 : Nat) (.cons (.var 4) .nil)) (.cst .non))
  (.cons (.ret (.cst (.bl false)))
  .nil)
  .nil)
  .nil)) : ∀ (items : List D) (S : Store) (u : Option D), (∀ x ∈ items, x.isx = false ∧ Rn k (26 : Nat) [x] S = .ok .non S) →
    ∃ u', forL [] f items [v0, v1, v2, v3, u, v5, v6, v7] S = .nx [v0, v1, v2, v3, u', v5, v6, v7] S
  | [], S, u, _ => ⟨u, by simp [forL, stays]⟩
  | x :: items, S, u, h => by
    obtain ⟨hx, e⟩ := h x (by simp)
    have st : forL [] f (x :: items) [v0, v1, v2, v3, u, v5, v6, v7] S =
      match f x [v0, v1, v2, v3, u, v5, v6, v7] S with
      | .nx ρ' S' => forL [] f items ρ' S'
      | .ct ρ' S' => forL [] f items ρ' S'
      | .bk ρ' S' => .nx ρ' S'
      | r => r := by
      rw [forL, if_pos (stays_nil _)] <;> rfl
    have ef : f x [v0, v1, v2, v3, u, v5, v6, v7] S = .nx [v0, v1, v2, v3, some x, v5, v6, v7] S := by
      rw [hf]
      simp only [bodyF]
      simp only [xs_nil, xs_cons, evs, compF, x_asg, x_put, x_xpr, x_ret, x_cond, x_loop_seq, x_loop_enum, x_loop_rng, x_loop_zip, x_whl, x_raise, x_raiseN, x_tryx, x_tryr, x_pass, x_brk, x_cont, loopR_enum, loopR_tup, loopR_lst, ev_var, e_cst, e_bin, e_neg, e_cmp, e_chn, e_and, e_or, e_not, e_ite, e_tup, e_lst, e_new, e_dct, e_ix, e_sl, e_call, e_bi, e_mt, e_app, e_isi, e_comp_seq, e_comp_rng, e_comp_enum, e_comp_zip, e_xfld, bind_ok, bind_exc, to_ok, to_exc, opt_some, then_nx, then_rt, then_exc, d_val, d_new, tru_bl, tru_non, fin_bl, fin_int, fin_str, fin_non, fin_xnon, fin_xint, GK_call, GK_sub, GK_fld, GK_hot, List.map_cons, List.map_nil, List.cons_append, List.nil_append, List.replicate_succ, List.replicate_zero, Nat.sub_self, Nat.reduceSub, List.getElem?_cons_zero, List.getElem?_cons_succ, List.set_cons_zero, List.set_cons_succ, wipe, bindT, bindTs, List.length_cons, List.length_nil, Nat.reduceAdd, Nat.reduceLT, Nat.reduceLeDiff, Nat.zero_le, binW, binD, compL, stays_nil, decide_true, decide_false, LINE, Int.cast_ofNat_Int, Int.reduceLE, Int.reduceLT, Int.natCast_zero, Int.natCast_one, ixL_0, ixL_1, ixL_2, eqD_int, eqD_str, ixD_tup, ixD_lst, biD, boolsOf, lstOf, Option.bind_some, List.all_cons, List.all_nil, id, isx_non, isx_bl, isx_int, isx_str, isx_tup, isx_lst, isx_frz, isx_ref, isx_exn, String.reduceBEq, Bool.or_false, Bool.or_true, Bool.true_or, Bool.false_or, Bool.and_true, Bool.true_and, Bool.and_false, Bool.false_and, reduceIte, Bool.false_eq_true, Option.map_some, Option.map_none, Bool.not_true, Bool.not_false, hx, e, cmpD]
    obtain ⟨u', e'⟩ := told_loop k f v0 v1 v2 v3 v5 v6 v7 hf items S (some x) (fun y hy => h y (by simp [hy]))
    exact ⟨u', by rw [st, ef]; exact e'⟩
theorem pieces_loop (k : Nat) (f : D → Env → Store → RS) (r a n0 : Nat) (v0 : D) (hv : v0.isx = false) (hn0 : n0 ≤ 1000000)
    (hf : f = bodyF (GK (k + 8)) none (.nm 2) (.cons (.cond (.not (.call (27 : Nat) (.cons (.var 1) (.cons (.call (18 : Nat) (.cons (.var 1) (.cons (.call (24 : Nat) (.cons (.var 1) (.cons (.lst (.cons (.cst (.int (1))) (.cons (.cst (.int (4))) (.cons (.cst (.int (16))) .nil)))) .nil))) .nil))) .nil))))
  (.cons (.ret (.cst (.bl false)))
  .nil)
  .nil)
  .nil)) : ∀ (items : List D) (S : Store) (b c : Nat) (u : Option D), items.length + c ≤ 3 → (∀ x ∈ items, x.isx = false) → MSt S r a b (n0 + 231 * c) →
    ∃ S' u' b', forL [] f items [some v0, some (.ref r), u, none, none, none, none, none] S = .nx [some v0, some (.ref r), u', none, none, none, none, none] S' ∧ MSt S' r a b' (n0 + 1000)
  | [], S, b, c, u, hl, _, M => ⟨S, u, b, by simp [forL, stays], M.mono (by simp at hl; omega)⟩
  | x :: items, S, b, c, u, hl, hix, M => by
    have hx := hix x (by simp)
    simp only [List.length_cons] at hl
    obtain ⟨y, S1, b1, hy, e1, M1, _⟩ := r_of_lst (k + 6) S r a b _ [.int 1, .int 4, .int 16] M (by omega) (by simp) (by simp) (by intro z hz; simp only [List.mem_cons, List.not_mem_nil, or_false] at hz; rcases hz with rfl | rfl | rfl <;> rfl)
    have hy' : ∃ i : Int, y = .int i ∧ 1 ≤ i ∧ i ≤ 16 := by
      simp only [List.mem_cons, List.not_mem_nil, or_false] at hy
      rcases hy with rfl | rfl | rfl <;> exact ⟨_, rfl, by omega, by omega⟩
    obtain ⟨most, rfl, q1, q2⟩ := hy'
    obtain ⟨n, rs, ins, outs, S2, b2, e2, P, M2⟩ := r_law_drawn_piece (k + 6) S1 r a b1 _ most M1 (by omega) q1 q2
    obtain ⟨S3, b3, e3, M3⟩ := r_law_right k S2 r a b2 _ n rs ins outs M2 (by omega) P
    have st : forL [] f (x :: items) [some v0, some (.ref r), u, none, none, none, none, none] S =
      match f x [some v0, some (.ref r), u, none, none, none, none, none] S with
      | .nx ρ' S' => forL [] f items ρ' S'
      | .ct ρ' S' => forL [] f items ρ' S'
      | .bk ρ' S' => .nx ρ' S'
      | r => r := by
      rw [forL, if_pos (stays_nil _)] <;> rfl
    have ef : f x [some v0, some (.ref r), u, none, none, none, none, none] S = .nx [some v0, some (.ref r), some x, none, none, none, none, none] S3 := by
      rw [hf]
      simp only [bodyF]
      simp only [xs_nil, xs_cons, evs, compF, x_asg, x_put, x_xpr, x_ret, x_cond, x_loop_seq, x_loop_enum, x_loop_rng, x_loop_zip, x_whl, x_raise, x_raiseN, x_tryx, x_tryr, x_pass, x_brk, x_cont, loopR_enum, loopR_tup, loopR_lst, ev_var, e_cst, e_bin, e_neg, e_cmp, e_chn, e_and, e_or, e_not, e_ite, e_tup, e_lst, e_new, e_dct, e_ix, e_sl, e_call, e_bi, e_mt, e_app, e_isi, e_comp_seq, e_comp_rng, e_comp_enum, e_comp_zip, e_xfld, bind_ok, bind_exc, to_ok, to_exc, opt_some, then_nx, then_rt, then_exc, d_val, d_new, tru_bl, tru_non, fin_bl, fin_int, fin_str, fin_non, fin_xnon, fin_xint, GK_call, GK_sub, GK_fld, GK_hot, List.map_cons, List.map_nil, List.cons_append, List.nil_append, List.replicate_succ, List.replicate_zero, Nat.sub_self, Nat.reduceSub, List.getElem?_cons_zero, List.getElem?_cons_succ, List.set_cons_zero, List.set_cons_succ, wipe, bindT, bindTs, List.length_cons, List.length_nil, Nat.reduceAdd, Nat.reduceLT, Nat.reduceLeDiff, Nat.zero_le, binW, binD, compL, stays_nil, decide_true, decide_false, LINE, Int.cast_ofNat_Int, Int.reduceLE, Int.reduceLT, Int.natCast_zero, Int.natCast_one, ixL_0, ixL_1, ixL_2, eqD_int, eqD_str, ixD_tup, ixD_lst, biD, boolsOf, lstOf, Option.bind_some, List.all_cons, List.all_nil, id, isx_non, isx_bl, isx_int, isx_str, isx_tup, isx_lst, isx_frz, isx_ref, isx_exn, String.reduceBEq, Bool.or_false, Bool.or_true, Bool.true_or, Bool.false_or, Bool.and_true, Bool.true_and, Bool.and_false, Bool.false_and, reduceIte, Bool.false_eq_true, Option.map_some, Option.map_none, Bool.not_true, Bool.not_false, hx, e1, e2, e3]
    obtain ⟨S', u', b', e', M'⟩ := pieces_loop k f r a n0 v0 hv hn0 hf items S3 b3 (c + 1) (some x) (by omega) (fun y hy => hix y (by simp [hy])) (M3.mono (by omega))
    exact ⟨S', u', b', by rw [st, ef]; exact e', M'⟩
end K82
end

section
set_option Elab.async false
set_option linter.all false
set_option maxRecDepth 100000
set_option maxHeartbeats 0
namespace K82
open DW
open PySem (Str)
theorem pc_1 : Pc 1 [] [] [] := by
  refine ⟨by decide, by decide, by decide, by simp, by decide, by simp, by decide, by simp, ?_, ?_⟩ <;> decide +kernel
theorem text_1 : textP 1 [] [] [] = ("1 in out" : Str) := by decide +kernel
def P3 : D := .tup [.tup [.int 3, .tup [.tup [.int 0, .int 1], .tup [.int 1, .int 2]]], .tup [.int 0, .int 1], .tup [.int 2]]
theorem read_3 : readP (TL.spl [32] 0 [] ("3 0>1 1>2 in 0 1 out 2" : Str).cps.toList) = some P3 := by decide +kernel
theorem len_3 : ("3 0>1 1>2 in 0 1 out 2" : Str).cps.toList.length = 22 := by decide +kernel
theorem eqD_pr (S : Store) (x : Str) (hx : PySem.PyData.strOk x = true) : eqD S (.tup [.str x, .non]) (.tup [.str x, .non]) = some true := by
  have r : res S DEPTH (.tup [.str x, .non]) = some (.tup [.str x, .non]) := by
    refine res_tup (n := 59) ?_
    intro y hy
    simp only [List.mem_cons, List.not_mem_nil, or_false] at hy
    rcases hy with rfl | rfl
    · show res S (58 + 1) (.str x) = _
      simp only [res, hx, if_true]
    · rfl
  simp only [eqD, flatD, Bool.false_and, Bool.false_eq_true, if_false, r, deq, deqs]; simp
theorem eqD_pr0 (S : Store) (x : Str) (hx : PySem.PyData.strOk x = true) : eqD S (.tup [.str x, .int 0]) (.tup [.str x, .int 0]) = some true := by
  have r : res S DEPTH (.tup [.str x, .int 0]) = some (.tup [.str x, .int 0]) := by
    refine res_tup (n := 59) ?_
    intro y hy
    simp only [List.mem_cons, List.not_mem_nil, or_false] at hy
    rcases hy with rfl | rfl
    · show res S (58 + 1) (.str x) = _
      simp only [res, hx, if_true]
    · rfl
  simp only [eqD, flatD, Bool.false_and, Bool.false_eq_true, if_false, r, deq, deqs]; simp
theorem eqD_pr1 (S : Store) (x : Str) (hx : PySem.PyData.strOk x = true) : eqD S (.tup [.str x, .tup [.int 1, .int 1]]) (.tup [.str x, .tup [.int 1, .int 1]]) = some true := by
  have r : res S DEPTH (.tup [.str x, .tup [.int 1, .int 1]]) = some (.tup [.str x, .tup [.int 1, .int 1]]) := by
    refine res_tup (n := 59) ?_
    intro y hy
    simp only [List.mem_cons, List.not_mem_nil, or_false] at hy
    rcases hy with rfl | rfl
    · show res S (58 + 1) (.str x) = _
      simp only [res, hx, if_true]
    · refine res_tup (n := 58) ?_
      intro y hy
      simp only [List.mem_cons, List.not_mem_nil, or_false] at hy
      rcases hy with rfl | rfl <;> rfl
  simp only [eqD, flatD, Bool.false_and, Bool.false_eq_true, if_false, r, deq, deqs]; simp
theorem T1 (S : Store) : Rn 29 (26 : Nat) [.non] S = .ok .non S := r_law_told_no 22 .non S rfl rfl
theorem T2 (S : Store) : Rn 29 (26 : Nat) [.int 1] S = .ok .non S := r_law_told_no 22 (.int 1) S rfl rfl
theorem T3 (S : Store) : Rn 29 (26 : Nat) [.tup [.int 1]] S = .ok .non S := r_law_told_no 22 (.tup [.int 1]) S rfl rfl
theorem T4 (S : Store) : Rn 29 (26 : Nat) [.lst []] S = .ok .non S := r_law_told_no 22 (.lst []) S rfl rfl
theorem T5 (S : Store) : Rn 29 (26 : Nat) [.ref S.length] (S ++ [.dct false []]) = .ok .non (S ++ [.dct false []]) := r_law_told_no 22 (.ref S.length) _ rfl (by simp only [isiD, get_app]; rfl)
theorem T6 (S : Store) (z : Str) (q1 : (readP (TL.spl [32] 0 [] z.cps.toList)).isNone = true) (q2 : z.cps.toList.length ≤ 10000) : Rn 29 (26 : Nat) [.str z] S = .ok .non S := told_none 22 S z q1 q2
theorem T7 (S : Store) (z : Str) (h : z.cps.toList = List.replicate 5000 57 ++ [32, 105, 110, 32, 111, 117, 116]) : Rn 29 (26 : Nat) [.str z] S = .ok .non S :=
  T6 S z (big_none z h) (by rw [h, List.length_append, List.length_replicate]; decide)
theorem rep9 (x : Str) (n : Nat) (h : x.cps.toList = [57]) : (⟨(List.replicate n x.cps).foldl (fun x1 x2 => x1 ++ x2) #[]⟩ : Str).cps.toList = List.replicate n 57 := by
  show ((List.replicate n x.cps).foldl (fun x1 x2 => x1 ++ x2) #[]).toList = _
  rw [fold_rep, h, flat_rep]; rfl
theorem law_run (ns : List Int) (hn : ns.length ≤ 63) : ∃ S, Rn 30 (28 : Nat) [.frz (ns.map D.int)] [] = .ok (.bl true) S := by
  obtain ⟨S0, e0, M0⟩ := r_law_begun 28 ns hn
  have e0 : Rn 29 (22 : Nat) [.frz (ns.map D.int)] [] = .ok (.ref 2) S0 := e0
  obtain ⟨S1, u1, b1, e1, M1⟩ := pieces_loop 21 _ 2 0 0 (.frz (ns.map D.int)) rfl (by omega) rfl ((List.range 3).map (fun i => D.int ((i : Nat) : Int))) S0 1 0 none (by simp) (rng_isx _) M0
  have hw : ∀ (f : D → Env → Store → RS) (ρ : Env) (S : Store), loopX .rng [.int 3] f ρ S = forL [] f ((List.range 3).map (fun i => D.int ((i : Nat) : Int))) ρ S := fun f ρ S => loopX_rng (n := 3) (by omega)
  generalize (List.range 3).map (fun i => D.int ((i : Nat) : Int)) = I3 at *
  have l9 : ("9" : Str).length = 1 := by decide +kernel
  have l10 : (" in out" : Str).length = 7 := by decide +kernel
  obtain ⟨W, hW⟩ : ∃ W : Str, (if (1 : Nat) = 0 then ("9" : Str) else ⟨(List.replicate (Int.toNat 5000) ("9" : Str).cps).foldl (fun x1 x2 => x1 ++ x2) #[]⟩) = W := ⟨_, rfl⟩
  have tW : W.cps.toList = List.replicate (Int.toNat 5000) 57 := by
    rw [← hW, if_neg (by decide)]
    exact rep9 _ _ (by decide +kernel)
  rw [show Int.toNat 5000 = 5000 from rfl] at tW
  have lW : W.length = 5000 := by rw [TL.len_tl]; show W.cps.toList.length = 5000; rw [tW, List.length_replicate]
  have tZ : (W ++ (" in out" : Str)).cps.toList = List.replicate 5000 57 ++ [32, 105, 110, 32, 111, 117, 116] := by
    have := TL.tl_append W (" in out" : Str)
    have e9 : (" in out" : Str).cps.toList = [32, 105, 110, 32, 111, 117, 116] := by decide +kernel
    show TL.tl (W ++ (" in out" : Str)) = _
    rw [this]; show W.cps.toList ++ (" in out" : Str).cps.toList = _
    rw [tW, e9]
  have c1 : ((1 : Nat) * Int.toNat 5000 ≤ 16777216) = True := by simp
  have c2 : ((5000 : Nat) + 7 ≤ 16777216) = True := by simp
  have h25 : (wl.map D.str).length = 25 := by decide +kernel
  have k1 : ∀ S, catL S (.lst [.str ("" : Str), .str ("in out" : Str), .str ("1" : Str), .str ("1 in" : Str), .str ("1 out in" : Str), .str ("1 in in out" : Str), .str ("1 in out out" : Str), .str (" 1 in out" : Str), .str ("1  in out" : Str), .str ("1 in out " : Str), .str ("01 in out" : Str), .str ("17 in out" : Str), .str ("0 in out" : Str), .str ("2 0>1 in 0 0 out" : Str)])
      (.lst [.str ("2 0>0 in out" : Str), .str ("2 0>1 0>1 in out" : Str), .str ("2 0>2 in out" : Str), .str ("2 0>1>0 in out" : Str), .str ("2 01>1 in out" : Str), .str ("2 in 2 out" : Str), .str ("2 in out 00" : Str), .str ("6 in 0 1 2 3 4 5 out" : Str), .str ("1 in out\n" : Str), .str ("1\tin out" : Str), .str ("1 IN OUT" : Str)]) = some (wl.map D.str) := by
    intro S; exact cat_ok S (by simp)
  obtain ⟨L6, hL6⟩ : ∃ L6, L6 = wl.map D.str ++ [.str (W ++ (" in out" : Str)), .non, .int 1, .tup [.int 1], .lst [], .ref S1.length] := ⟨_, rfl⟩
  have k2 : ∀ S, catL S (.lst (wl.map D.str)) (.lst [.str (W ++ (" in out" : Str)), .non, .int 1, .tup [.int 1], .lst [], .ref S1.length]) = some L6 := by
    intro S; rw [hL6]; exact cat_ok S (by rw [h25]; simp)
  obtain ⟨S2, hS2⟩ : ∃ S2 : Store, S1 ++ [Ob.dct false []] = S2 := ⟨_, rfl⟩
  have hall : ∀ x ∈ L6, x.isx = false ∧ Rn 29 (26 : Nat) [x] S2 = .ok .non S2 := by
    intro x hx
    rw [hL6, List.mem_append] at hx
    rcases hx with hx | hx
    · rw [List.mem_map] at hx
      obtain ⟨z, hz, rfl⟩ := hx
      obtain ⟨q1, q2⟩ := wl_none z hz
      exact ⟨rfl, T6 _ z q1 (by omega)⟩
    · simp only [List.mem_cons, List.not_mem_nil, or_false] at hx
      rcases hx with rfl | rfl | rfl | rfl | rfl | rfl
      · exact ⟨rfl, T7 _ _ tZ⟩
      · exact ⟨rfl, T1 _⟩
      · exact ⟨rfl, T2 _⟩
      · exact ⟨rfl, T3 _⟩
      · exact ⟨rfl, T4 _⟩
      · exact ⟨rfl, hS2 ▸ T5 S1⟩
  obtain ⟨u4, e4⟩ := told_loop 29 _ (some (.frz (ns.map D.int))) (some (.ref 2)) u1 (some (.lst (wl.map D.str))) none none none rfl L6 S2 none hall
  have t1 : Rn 29 (12 : Nat) [.non] S2 = .exc 1 .non S2 := r_piece_text_bad 23 .non S2 rfl 1 .non rfl rfl
  have t2 : Rn 29 (12 : Nat) [.tup [.tup [.int 0, .tup []], .tup [], .tup []]] S2 = .exc 0 (.int 0) S2 := r_piece_text_bad 23 _ S2 rfl 0 (.int 0) (by decide +kernel) rfl
  have t3 : Rn 29 (12 : Nat) [.tup [.tup [.int 1, .tup []], .tup [.int 0, .int 0], .tup []]] S2 = .exc 1 (.tup [.int 1, .int 1]) S2 := r_piece_text_bad 23 _ S2 rfl 1 _ (by decide +kernel) rfl
  have f0 : Y.fld 0 = ("place" : Str) := by decide +kernel
  have f1 : Y.fld 1 = ("place" : Str) := by decide +kernel
  have sP : PySem.PyData.strOk ("piece" : Str) = true := by decide +kernel
  have sN : PySem.PyData.strOk ("net" : Str) = true := by decide +kernel
  have t4 : Rn 29 (12 : Nat) [.tup [.tup [.int 1, .tup []], .tup [], .tup []]] S2 = .ok (.str ("1 in out" : Str)) S2 := by
    have := r_piece_text 23 1 [] [] [] S2 pc_1
    rw [text_1] at this; exact this
  have t5 : Rn 29 (14 : Nat) [.str ("3 0>1 1>2 in 0 1 out 2" : Str)] S2 = .ok P3 S2 := by
    have hL : LINE = 16777216 := rfl
    have a := r_read_piece 23 ("3 0>1 1>2 in 0 1 out 2" : Str).cps.toList S2 (by rw [len_3]; omega)
    rw [SX.S_tl, read_3] at a; exact a
  have t6 : Rn 29 (25 : Nat) [.tup [.str ("1 in out" : Str), P3], .tup [.str ("1 in out" : Str), P3]] S2 = .ok (.bl true) S2 := r_like_self 28 _ S2 rfl
  have hf2 : ∃ S', fin [] (.rt (.bl true) S2) = .ok (.bl true) S' := ⟨_, fin_gc (by simp [D.pln])⟩
  obtain ⟨S', ef⟩ := hf2
  refine ⟨S', ?_⟩
  rw [Rn_at t_law rfl, b_law]
  simp only [P3] at t5 t6
  simp only [xs_nil, xs_cons, evs, compF, x_asg, x_put, x_xpr, x_ret, x_cond, x_loop_seq, x_loop_enum, x_loop_rng, x_loop_zip, x_whl, x_raise, x_raiseN, x_tryx, x_tryr, x_pass, x_brk, x_cont, loopR_enum, loopR_tup, loopR_lst, ev_var, e_cst, e_bin, e_neg, e_cmp, e_chn, e_and, e_or, e_not, e_ite, e_tup, e_lst, e_new, e_dct, e_ix, e_sl, e_call, e_bi, e_mt, e_app, e_isi, e_comp_seq, e_comp_rng, e_comp_enum, e_comp_zip, e_xfld, bind_ok, bind_exc, to_ok, to_exc, opt_some, then_nx, then_rt, then_exc, d_val, d_new, tru_bl, tru_non, fin_bl, fin_int, fin_str, fin_non, fin_xnon, fin_xint, GK_call, GK_sub, GK_fld, GK_hot, List.map_cons, List.map_nil, List.cons_append, List.nil_append, List.replicate_succ, List.replicate_zero, Nat.sub_self, Nat.reduceSub, List.getElem?_cons_zero, List.getElem?_cons_succ, List.set_cons_zero, List.set_cons_succ, wipe, bindT, bindTs, List.length_cons, List.length_nil, Nat.reduceAdd, Nat.reduceLT, Nat.reduceLeDiff, Nat.zero_le, binW, binD, compL, stays_nil, decide_true, decide_false, LINE, Int.cast_ofNat_Int, Int.reduceLE, Int.reduceLT, Int.natCast_zero, Int.natCast_one, ixL_0, ixL_1, ixL_2, eqD_int, eqD_str, ixD_tup, ixD_lst, biD, boolsOf, lstOf, Option.bind_some, List.all_cons, List.all_nil, id, isx_non, isx_bl, isx_int, isx_str, isx_tup, isx_lst, isx_frz, isx_ref, isx_exn, String.reduceBEq, Bool.or_false, Bool.or_true, Bool.true_or, Bool.false_or, Bool.and_true, Bool.true_and, Bool.and_false, Bool.false_and, reduceIte, Bool.false_eq_true, Option.map_some, Option.map_none, Bool.not_true, Bool.not_false, e0, hw, e1, k1, l9, c1, hW, lW, l10, c2, k2, and_self, List.zip_nil_left, List.foldl_nil, hS2, e4]
  simp only [xs_nil, xs_cons, evs, compF, x_asg, x_put, x_xpr, x_ret, x_cond, x_loop_seq, x_loop_enum, x_loop_rng, x_loop_zip, x_whl, x_raise, x_raiseN, x_tryx, x_tryr, x_pass, x_brk, x_cont, loopR_enum, loopR_tup, loopR_lst, ev_var, e_cst, e_bin, e_neg, e_cmp, e_chn, e_and, e_or, e_not, e_ite, e_tup, e_lst, e_new, e_dct, e_ix, e_sl, e_call, e_bi, e_mt, e_app, e_isi, e_comp_seq, e_comp_rng, e_comp_enum, e_comp_zip, e_xfld, bind_ok, bind_exc, to_ok, to_exc, opt_some, then_nx, then_rt, then_exc, d_val, d_new, tru_bl, tru_non, fin_bl, fin_int, fin_str, fin_non, fin_xnon, fin_xint, GK_call, GK_sub, GK_fld, GK_hot, List.map_cons, List.map_nil, List.cons_append, List.nil_append, List.replicate_succ, List.replicate_zero, Nat.sub_self, Nat.reduceSub, List.getElem?_cons_zero, List.getElem?_cons_succ, List.set_cons_zero, List.set_cons_succ, wipe, bindT, bindTs, List.length_cons, List.length_nil, Nat.reduceAdd, Nat.reduceLT, Nat.reduceLeDiff, Nat.zero_le, binW, binD, compL, stays_nil, decide_true, decide_false, LINE, Int.cast_ofNat_Int, Int.reduceLE, Int.reduceLT, Int.natCast_zero, Int.natCast_one, ixL_0, ixL_1, ixL_2, eqD_int, eqD_str, ixD_tup, ixD_lst, biD, boolsOf, lstOf, Option.bind_some, List.all_cons, List.all_nil, id, isx_non, isx_bl, isx_int, isx_str, isx_tup, isx_lst, isx_frz, isx_ref, isx_exn, String.reduceBEq, Bool.or_false, Bool.or_true, Bool.true_or, Bool.false_or, Bool.and_true, Bool.true_and, Bool.and_false, Bool.false_and, reduceIte, Bool.false_eq_true, Option.map_some, Option.map_none, Bool.not_true, Bool.not_false, forL, bodyF, t1, t2, t3, exh, sub_11, sub_01, sub_00, f0, f1, cmpD, eqD_pr _ _ sP, eqD_pr0 _ _ sN, eqD_pr1 _ _ sP, t4, t5, t6]
  exact ef
end K82
end

section
set_option Elab.async false
set_option linter.all false
set_option maxRecDepth 100000
set_option maxHeartbeats 0
namespace K82
open PySem PySem.Spec PyProof.Rows L2 DW
abbrev R : PySem.W.OpenRow := PySem.W.OpenLaw.row PySem.Challenge.rw_doorways_k82_whole_piece_texts
abbrev hk : PySem.W.Hook := Y.hk "/claim/cut.py"
def ob (s : PySem.W.SharedT) : AlM := obsMG "/claim/cut.py" 4 Y.fa Y.fn Y.xs (HandSHeadRun.getT s)
theorem ob_eq (s : PySem.W.SharedT) : ob s = hk.obs s.abs := obsMG_eq (HandSHeadRun.getT_eq s)
theorem run (w : World) : HandSHeadRun.RunEq R (PySem.W.view R.prog [44]) hk ob 4000 loose w := by
  intro os
  kernel_rfl
theorem chk : (L.fs.all (frB L)) = true := by kernel_rfl
theorem xt : ∀ d ∈ Y.xs, XT d := by
  intro d hd
  have hd' : d ∈ xs := hd
  simp only [xs, List.mem_cons, List.not_mem_nil, or_false] at hd'
  rcases hd' with rfl | rfl | rfl <;> exact ⟨rfl, rfl, rfl, rfl, by decide, by decide, by decide, by decide, fun _ _ _ _ _ _ _ _ _ => by first | rfl | with_unfolding_all rfl⟩
end K82
end

section
set_option Elab.async false
set_option linter.all false
set_option maxRecDepth 100000
set_option maxHeartbeats 0
namespace K82
open PySem PySem.Spec PyProof.Rows L2 DW He
theorem bnd : ∀ r ∈ Y.L.fs, BindOk r := by
  intro r hr
  have hr' : r ∈ fs := hr
  simp only [fs, List.mem_cons, List.not_mem_nil, or_false] at hr'
  rcases hr' with rfl | rfl | rfl | rfl | rfl | rfl | rfl | rfl | rfl | rfl | rfl | rfl | rfl | rfl | rfl | rfl | rfl | rfl | rfl | rfl | rfl | rfl | rfl | rfl | rfl | rfl | rfl | rfl | rfl <;> (
      intro kV doc pm an cdv ct us hl
      rcases us with _ | ⟨a, _ | ⟨b, _ | ⟨c, _ | ⟨d, us⟩⟩⟩⟩ <;> first
        | (exact ⟨by first | rfl | with_unfolding_all rfl, by first | rfl | with_unfolding_all rfl⟩)
        | (exfalso; revert hl; decide)
        | (exfalso; simp at hl))
theorem lxok : LXOk Y where
  chk := chk
  bnd := bnd
  xt := xt
  cons := rfl
  nm := fun k => match k with
    | 0 => ⟨_, List.mem_cons_self, rfl, rfl⟩
    | 1 => ⟨_, List.mem_cons_of_mem _ List.mem_cons_self, rfl, rfl⟩
    | 2 => ⟨_, List.mem_cons_of_mem _ (List.mem_cons_of_mem _ List.mem_cons_self), rfl, rfl⟩
    | k + 3 => ⟨_, List.mem_cons_self, rfl, rfl⟩
  exc := fun x k h => by
    have hm := PySem.mem_of_lookup h
    have hm' : (x, k) ∈ exc := hm
    simp only [exc, List.mem_cons, List.not_mem_nil, or_false, Prod.mk.injEq] at hm'
    rcases hm' with ⟨rfl, rfl⟩ | ⟨rfl, rfl⟩ | ⟨rfl, rfl⟩ <;> rfl
  hnd := fun x k h => by
    have hm := PySem.mem_of_lookup h
    have hm' : (x, k) ∈ exc := hm
    simp only [exc, List.mem_cons, List.not_mem_nil, or_false, Prod.mk.injEq] at hm'
    rcases hm' with ⟨rfl, rfl⟩ | ⟨rfl, rfl⟩ | ⟨rfl, rfl⟩ <;> rfl
abbrev DEP : Nat := 30

theorem holds_of (hrun : ∀ ns : List Int, ns.length ≤ 63 → ∃ S, DW.run Y.L.T Y.sub Y.fld Y.hot DEP 28 [.frz (ns.map D.int)] [] = .ok (.bl true) S) : PySem.Challenge.rw_doorways_k82_whole_piece_texts.Holds := by
  w_on; o_law
  refine HandSHeadRun.head_any (r := R) (q := PySem.W.view R.prog [44]) (H := hk) (ob := ob) (M := 4000) (loose := loose) (d := HandSHeadRun.topDef R.prog 44) (kwd := []) ob_eq
    (by kernel_rfl) (fun s => by kernel_rfl) run (by kernel_rfl) (by kernel_rfl) (by kernel_rfl) (by rfl) (by first | assumption | decide +kernel) (by decide +kernel) ⟨rfl, rfl, rfl, rfl, rfl, by decide +kernel⟩ ?hw ?hc
  case hw => w_witness2
  case hc =>
    refine L2.walk_ofE (l := PySem.Challenge.rw_doorways_k82_whole_piece_texts) (n := 63) (k := DEP) (x := "script") (CX := CXa) rfl (by decide) (by kernel_rfl) ⟨rfl, by decide, by decide⟩ ?F (fun _ _ _ _ z => CXa_no z)
    intro w mg fa h Z G hmg0
    obtain ⟨K, KX, c⟩ := Z
    have hmg : mg ("law" : PySem.Str) = some (.ref fa) := by
      have e : (HandSHeadRun.topDef R.prog 44).name = ("law" : PySem.Str) := by kernel_rfl
      rw [← e]
      exact hmg0
    obtain ⟨fdt, W⟩ := lw_of (prog := PySem.Challenge.pw_doorways_k82_whole_piece_texts) (w := w) lxok KX G c (by kernel_rfl)
    have hr : Y.L.fs[28]? = some ⟨"law", top 44, ["script"], ["script", "m", "turn", "words", "text", "bad", "due", "e"], []⟩ := rfl
    obtain ⟨hd, hb, hkw⟩ := W.defs 28 _ hr
    have e : fa = Y.faN K 28 := by
      have := hmg.symm.trans hd.mgf
      exact Value.ref.inj (Option.some.inj this)
    subst e
    refine ⟨K, fdt 28, spOf K Y.fld (Y.cls K) (DW.run Y.L.T Y.sub Y.fld Y.hot DEP 28), KX, fun s v => ?_, fun H a ns hl hO hS => law_end hO hS (hrun ns hl) (fun _ => rfl), fun base Kb Gb => ?_⟩
    · exact .of_eq (hkw [v] rfl).2
    · exact FnOk.cx (law_fns W DEP 28 _ hr) fun o H s E u s' z => ⟨_, _, _, _, z⟩
end K82
end
theorem PySem.Challenge.cw_doorways_k82_whole_piece_texts_holds : PySem.Challenge.rw_doorways_k82_whole_piece_texts.Holds := by
  exact K82.holds_of fun ns hn => K82.law_run ns hn
