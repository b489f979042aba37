import PyProof.Rows.All
import Wide.All
import OpenK.AllK
import Wide.FinOn
import HandS.ForMost
import HandS.Flow
import HandS.TupAny
import HandS.Wide
import HandS.TryOnly
import HandS.ExcOwn
import HandS.Deep
import HandS.WordsExc
import HandS.More
import HandS.IsInst
import HandS.Iter
import HandS.Dict
import HandS.TupSets
import HandS.SortOrd
import KE.SortCalls
import PyProof.EqLayable
import KE.LtData
import PySem.Challenge.RW_samesmith_k32_opened_and_shut
set_option Elab.async false
set_option linter.all false
set_option autoImplicit false
set_option maxRecDepth 100000
set_option maxHeartbeats 2000000
/-! PI1: a small language of our own (values, memory, expressions, statements) and what its programs come to.
    PI2 shows that a def of the linked text, held against a text of this language by a check, does what that text does. -/
set_option linter.all false
set_option autoImplicit false
namespace PI
open PySem

/-- a dict of flat keys: open, or walked just now (nobody may change it) -/
inductive DK where | k | t
  deriving DecidableEq

/-- values: tuples and lists that stand still are written out; what may be changed is a place in the memory -/
inductive D where
  | non | bl (b : Bool) | int (i : Int) | str (s : Str)
  | tup (xs : List D)
  | fl (xs : List D)                       -- a list that nobody changes any more
  | sl (xs : List D)                       -- a list of the asker's (the script)
  | fd (k : DK) (kvs : List (D × D))       -- a dict that nobody changes any more
  | fi (c : Nat) (fs : List (Str × D))     -- an instance likewise
  | loc (n : Nat)
  deriving Inhabited

inductive Ob where
  | lst (xs : List D)
  | dct (k : DK) (kvs : List (D × D))
  | ins (c : Nat) (fs : List (Str × D))
abbrev Mem := List Ob

/-- an end: a value and the memory; an exception of a class, with what it carries; or nothing is known -/
inductive R (α : Type) where
  | ok (a : α) (μ : Mem)
  | err (c : Nat) (xs : List D) (μ : Mem)
  | bad
@[inline] def R.bind {α β : Type} : R α → (α → Mem → R β) → R β
  | .ok a μ, f => f a μ
  | .err c xs μ, _ => .err c xs μ
  | .bad, _ => .bad

/-! ### reading through the memory -/
mutual
def closed (n : Nat) : D → Bool
  | .loc m => decide (m < n)
  | .tup xs => closedL n xs
  | .fl xs => closedL n xs
  | .sl xs => closedL n xs
  | .fd _ kvs => closedP n kvs
  | .fi _ fs => closedF n fs
  | _ => true
def closedL (n : Nat) : List D → Bool
  | [] => true
  | x :: xs => closed n x && closedL n xs
def closedP (n : Nat) : List (D × D) → Bool
  | [] => true
  | x :: xs => closed n x.1 && closed n x.2 && closedP n xs
def closedF (n : Nat) : List (Str × D) → Bool
  | [] => true
  | x :: xs => closed n x.2 && closedF n xs
end
def closedO (n : Nat) : Ob → Bool
  | .lst xs => closedL n xs
  | .dct _ kvs => closedP n kvs
  | .ins _ fs => closedF n fs

/-! freezing: places from n on are written out -/
mutual
def frzW (g : Nat → Option D) : D → Option D
  | .loc m => g m
  | .tup xs => (frzL g xs).map .tup
  | .fl xs => (frzL g xs).map .fl
  | .sl xs => (frzL g xs).map .sl
  | .fd k kvs => (frzP g kvs).map (.fd k)
  | .fi c fs => (frzF g fs).map (.fi c)
  | .non => some .non
  | .bl b => some (.bl b)
  | .int i => some (.int i)
  | .str s => some (.str s)
def frzL (g : Nat → Option D) : List D → Option (List D)
  | [] => some []
  | x :: xs => match frzW g x, frzL g xs with
    | some y, some ys => some (y :: ys)
    | _, _ => none
def frzP (g : Nat → Option D) : List (D × D) → Option (List (D × D))
  | [] => some []
  | x :: xs => match frzW g x.1, frzW g x.2, frzP g xs with
    | some y, some z, some ys => some ((y, z) :: ys)
    | _, _, _ => none
def frzF (g : Nat → Option D) : List (Str × D) → Option (List (Str × D))
  | [] => some []
  | x :: xs => match frzW g x.2, frzF g xs with
    | some y, some ys => some ((x.1, y) :: ys)
    | _, _ => none
end
def frzO (g : Nat → Option D) : Ob → Option D
  | .lst xs => (frzL g xs).map .fl
  | .dct _ kvs => (frzP g kvs).map (.fd .k)
  | .ins c fs => (frzF g fs).map (.fi c)
/-- ex: a place that must not be met -/
def frzN (μ : Mem) (n : Nat) (ex : Option Nat) : Nat → Nat → Option D
  | 0, m => if m < n then some (.loc m) else none
  | f + 1, m => if m < n then some (.loc m) else if ex = some m then none else match μ[m]? with
    | some ob => frzO (frzN μ n ex f) ob
    | none => none
abbrev frzFuel : Nat := 8
def frz (μ : Mem) (n : Nat) (d : D) : Option D := frzW (frzN μ n none frzFuel) d
def frzTop (μ : Mem) (n m : Nat) : Ob → Option Ob
  | .lst xs => (frzL (frzN μ n (some m) frzFuel) xs).map .lst
  | .dct k kvs => (frzP (frzN μ n (some m) frzFuel) kvs).map (.dct k)
  | .ins c fs => (frzF (frzN μ n (some m) frzFuel) fs).map (.ins c)

/-- what a call leaves of the memory: all; nothing of its own (what it made is frozen); its own top alone -/
inductive Nm where | any | val | own
  deriving DecidableEq
/-- the older places are as they were, or lean on older ones alone -/
def Trim (μ μ' : Mem) : Prop := μ.length ≤ μ'.length ∧ ∀ i, i < μ.length → μ'[i]? = μ[i]? ∨ ∃ ob, μ'[i]? = some ob ∧ closedO μ.length ob = true
open Classical in
noncomputable def nrm (nm : Nm) (μ : Mem) : R D → R D
  | .ok d μ' => match nm with
    | .any => .ok d μ'
    | .val => if Trim μ μ' then (match frz μ' μ.length d with
      | some d' => .ok d' (μ'.take μ.length)
      | none => .bad) else .bad
    | .own => if Trim μ μ' then (match d with
      | .loc m => if m < μ.length then .ok d (μ'.take μ.length) else (match μ'[m]? with
        | some ob => (match frzTop μ' μ.length m ob with
          | some ob' => .ok (.loc μ.length) (μ'.take μ.length ++ [ob'])
          | none => .bad)
        | none => .bad)
      | _ => .bad) else .bad
  | .err c xs μ' => match nm with
    | .any => .err c xs μ'
    | _ => if Trim μ μ' then (match frzL (frzN μ' μ.length none frzFuel) xs with
      | some ys => .err c ys (μ'.take μ.length)
      | none => .bad) else .bad
  | .bad => .bad

/-! ### the library's data, for == -/
mutual
def pyW (g : Nat → Option PyData) : D → Option PyData
  | .non => some .none
  | .bl b => some (.bool b)
  | .int i => some (.int i)
  | .str s => some (.str s)
  | .tup xs => (pyL g xs).map .tuple
  | .fl xs => (pyL g xs).map .list
  | .sl xs => (pyL g xs).map .list
  | .loc m => g m
  | .fd _ _ => none
  | .fi _ _ => none
def pyL (g : Nat → Option PyData) : List D → Option (List PyData)
  | [] => some []
  | x :: xs => match pyW g x, pyL g xs with
    | some y, some ys => some (y :: ys)
    | _, _ => none
end
def pyN (μ : Mem) : Nat → Nat → Option PyData
  | 0, _ => none
  | f + 1, m => match μ[m]? with
    | some (.lst xs) => (pyL (pyN μ f) xs).map .list
    | _ => none
def py (μ : Mem) (d : D) : Option PyData := pyW (pyN μ 8) d
abbrev eqDeep : Nat := 150
def eqM (μ : Mem) (a b : D) : Option Bool :=
  match py μ a, py μ b with
  | some x, some y => if min x.depth y.depth ≤ eqDeep then some (x.eqv y) else none
  | _, _ => none

/-! ### operations by values -/
def seqOf (μ : Mem) : D → Option (List D)
  | .tup xs => some xs
  | .fl xs => some xs
  | .sl xs => some xs
  | .loc m => match μ[m]? with
    | some (.lst xs) => some xs
    | _ => none
  | _ => none
/-- a list of ours -/
def lstOf (μ : Mem) : D → Option (List D)
  | .fl xs => some xs
  | .loc m => match μ[m]? with
    | some (.lst xs) => some xs
    | _ => none
  | _ => none
def dctOf (μ : Mem) : D → Option (DK × List (D × D))
  | .fd k kvs => some (k, kvs)
  | .loc m => match μ[m]? with
    | some (.dct k kvs) => some (k, kvs)
    | _ => none
  | _ => none
def insOf (μ : Mem) : D → Option (Nat × List (Str × D))
  | .fi c fs => some (c, fs)
  | .loc m => match μ[m]? with
    | some (.ins c fs) => some (c, fs)
    | _ => none
  | _ => none
abbrev lim : Nat := 16777216
def truth (μ : Mem) : D → Option Bool
  | .non => some false
  | .bl b => some b
  | .int i => some (i != 0)
  | .str s => if s.length ≤ lim then some ((s.length : Int) != 0) else none
  | .tup xs => some (!xs.isEmpty)
  | .fl xs => some (!xs.isEmpty)
  | .sl xs => some (!xs.isEmpty)
  | .loc m => match μ[m]? with
    | some (.lst xs) => some (!xs.isEmpty)
    | _ => none
  | _ => none
/-- a new list -/
def newL (μ : Mem) (xs : List D) : R D := .ok (.loc μ.length) (μ ++ [.lst xs])
def flat : D → Bool
  | .non => true
  | .bl _ => true
  | .int _ => true
  | .str _ => true
  | _ => false
/-- == of flat ones -/
def eqF : D → D → Bool
  | .non, .non => true
  | .bl a, .bl b => a == b
  | .bl a, .int b => (if a then 1 else 0) == b
  | .int a, .bl b => a == (if b then 1 else 0)
  | .int a, .int b => a == b
  | .str a, .str b => a == b
  | _, _ => false
/-- the place of an index of any sign -/
def ixOf (n : Nat) (i : Int) : Option Nat := if 0 ≤ i then (if i < n then some i.toNat else none) else if -(n : Int) ≤ i then some (i + n).toNat else none
def cutN (n d : Nat) : Option Int → Nat
  | none => d
  | some v => if v < 0 then (v + (n : Int)).toNat else min v.toNat n
def cut {α : Type} (xs : List α) (lo hi : Option Int) : List α := (xs.drop (cutN xs.length 0 lo)).take (cutN xs.length xs.length hi - cutN xs.length 0 lo)
inductive Bin where | add | sub | mul | div | mod | pow
  deriving DecidableEq
inductive Cmp where | eq | ne | lt | le | gt | ge | in_ | nin
  deriving DecidableEq
def B64 (i : Int) : Bool := decide (-(2 ^ 64) < i) && decide (i < 2 ^ 64)
def evBin (o : Bin) (a b : D) (μ : Mem) : R D :=
  match o, a, b with
  | .add, .int i, .int j => .ok (.int (i + j)) μ
  | .sub, .int i, .int j => .ok (.int (i - j)) μ
  | .mul, .int i, .int j => if B64 i || B64 j then .ok (.int (i * j)) μ else .bad
  | .div, .int i, .int j => if 0 < j ∧ j < 1073741824 then .ok (.int (i / j)) μ else .bad
  | .mod, .int i, .int j => if 0 < j then .ok (.int (i % j)) μ else .bad
  | .pow, .int i, .int j => if 0 ≤ j ∧ j ≤ 1000000 ∧ i.natAbs < 2 ^ 64 then .ok (.int (i ^ j.toNat)) μ else .bad
  | .add, .str s, .str t => if s.length + t.length ≤ lim then .ok (.str (s ++ t)) μ else .bad
  | .add, .tup xs, .tup ys => if xs.length + ys.length ≤ lim then .ok (.tup (xs ++ ys)) μ else .bad
  | .add, a, b => (match lstOf μ a, lstOf μ b with
    | some xs, some ys => if xs.length + ys.length ≤ lim then newL μ (xs ++ ys) else .bad
    | _, _ => .bad)
  | .mul, a, .int k => (match lstOf μ a with
    | some xs => if 0 ≤ k ∧ k < 2 ^ 62 ∧ xs.length * k.toNat ≤ lim then newL μ (List.replicate k.toNat xs).flatten else .bad
    | _ => .bad)
  | _, _, _ => .bad
def ltS (s t : Str) : Bool := decide (s.cps.toList < t.cps.toList)
def keyD : D → Bool
  | .int _ => true
  | .str _ => true
  | _ => false
def inSeq (μ : Mem) (a : D) (xs : List D) : Option Bool :=
  if flat a && xs.all flat then some (xs.any fun x => eqF x a) else (match py μ a, pyL (pyN μ 8) xs with
    | some p, some ys => if min (PyData.depthAll ys) p.depth ≤ eqDeep then some (ys.any fun y => y.eqv p) else none
    | _, _ => none)
def evIn (a b : D) (μ : Mem) : Option Bool :=
  match b with
  | .str z => (match a with
    | .str s => (match s.cps.toList with
      | [c] => some (decide (c ∈ z.cps.toList))
      | _ => none)
    | _ => none)
  | b => match dctOf μ b with
    | some (_, kvs) => if keyD a then some (kvs.any fun p => eqF p.1 a) else none
    | none => match seqOf μ b with
      | some xs => inSeq μ a xs
      | none => none
def evCmp (o : Cmp) (a b : D) (μ : Mem) : R D :=
  match o with
  | .eq => if flat a && flat b then .ok (.bl (eqF a b)) μ else (match eqM μ a b with
    | some c => .ok (.bl c) μ
    | none => .bad)
  | .ne => if flat a && flat b then .ok (.bl (!eqF a b)) μ else (match eqM μ a b with
    | some c => .ok (.bl (!c)) μ
    | none => .bad)
  | .in_ => (match evIn a b μ with
    | some c => .ok (.bl c) μ
    | none => .bad)
  | .nin => (match evIn a b μ with
    | some c => .ok (.bl (!c)) μ
    | none => .bad)
  | .lt => (match a, b with
    | .int i, .int j => .ok (.bl (decide (i < j))) μ
    | .str s, .str t => .ok (.bl (ltS s t)) μ
    | _, _ => .bad)
  | .gt => (match a, b with
    | .int i, .int j => .ok (.bl (decide (j < i))) μ
    | _, _ => .bad)
  | .le => (match a, b with
    | .int i, .int j => .ok (.bl (decide (i ≤ j))) μ
    | _, _ => .bad)
  | .ge => (match a, b with
    | .int i, .int j => .ok (.bl (decide (j ≤ i))) μ
    | _, _ => .bad)
def look (kvs : List (D × D)) (k : D) : Option D := (kvs.find? fun p => eqF p.1 k).map (·.2)
def evIdx (a b : D) (μ : Mem) : R D :=
  match a, b with
  | .str s, .int i => if s.length ≤ lim then (match (ixOf s.cps.toList.length i).bind (s.cps.toList[·]?) with
    | some c => .ok (.str ⟨#[c]⟩) μ
    | none => .bad) else .bad
  | a, b => match dctOf μ a with
    | some (_, kvs) => if keyD b then (match look kvs b with
      | some v => .ok v μ
      | none => .bad) else .bad
    | none => match seqOf μ a, b with
      | some xs, .int i => (match (ixOf xs.length i).bind (xs[·]?) with
        | some v => .ok v μ
        | none => .bad)
      | _, _ => .bad
def evSlc (a : D) (lo hi : Option Int) (μ : Mem) : R D :=
  match a with
  | .str s => if s.length ≤ lim then .ok (.str ⟨(cut s.cps.toList lo hi).toArray⟩) μ else .bad
  | .tup xs => .ok (.tup (cut xs lo hi)) μ
  | .fl xs => newL μ (cut xs lo hi)
  | .sl xs => newL μ (cut xs lo hi)
  | .loc m => (match μ[m]? with
    | some (.lst xs) => newL μ (cut xs lo hi)
    | _ => .bad)
  | _ => .bad
end PI

namespace PI
open PySem
/-- what isinstance is asked of -/
inductive Ty where | str | tuple | list | int | bool | dict | cls (c : Nat)
  deriving DecidableEq
inductive BI where | len | list | listD | tuple | all | any | sum | int | max2 | min2 | abs | sortedSet
  deriving DecidableEq
inductive BM where | append | extend | pop | popAt | index | reverse | clear
  deriving DecidableEq
/-- targets -/
inductive G where
  | nm (i : Nat)
  | tup (gs : List G)
mutual
inductive E where
  | var (i : Nat)
  | ci (i : Int)
  | cs (s : Str)
  | cb (b : Bool)
  | cn
  | gl (i : Nat)
  | and_ (es : List E)
  | or_ (es : List E)
  | not_ (e : E)
  | isN (e : E)
  | notN (e : E)
  | bin (o : Bin) (a b : E)
  | cmp (o : Cmp) (a b : E)
  | chain (o o' : Cmp) (a b c : E)
  | ifx (c a b : E)
  | tup (es : List E)
  | lst (es : List E)
  | dnew (k : DK)
  | idx (a b : E)
  | slc (a : E) (lo hi : Option E)
  | call (f : Nat) (es : List E) (nm : Nm)
  | fld (e : E) (f : Str)
  | meth (e : E) (m : Str) (es : List E) (nm : Nm)
  | make (c : Nat) (es : List E) (nm : Nm)
  | bi (b : BI) (es : List E)
  | isi (e : E) (t : Ty)
  | bm (b : BM) (e : E) (es : List E)
  | lc (elt : E) (g : G) (it : It) (ifs : List E) (own : List Nat)
  | val (e : E)
inductive It where
  | seq (e : E)
  | rng (es : List E)
  | zip (a b : E)
  | enum (e : E)
  | rev (e : E)
  | str (e : E)
  | keys (e : E)
  | items (e : E)
end
/-- targets of an assignment -/
inductive Tg where
  | g (g : G)
  | sub (o i : E)
  | fld (o : E) (f : Str)
inductive S where
  | asg (t : Tg) (e : E)
  | aug (i : Nat) (o : Bin) (e : E)
  | exp (e : E)
  | ret (e : E)
  | retN
  | ifs (c : E) (a b : List S)
  | for_ (g : G) (it : It) (b : List S)
  | whl (c : E) (b : List S)
  | pas
  | brk
  | cnt
  | rai (c : Nat)
  | try_ (b : List S) (cs : List Nat) (h : List S)
abbrev Env := List (Option D)
inductive RS where
  | nx (σ : Env) (μ : Mem)
  | rt (d : D) (μ : Mem)
  | bk (σ : Env) (μ : Mem)
  | ct (σ : Env) (μ : Mem)
  | err (c : Nat) (xs : List D) (σ : Env) (μ : Mem)
  | bad
structure Fn where
  ar : Nat
  ns : Nat
  body : List S
structure Pr where
  fns : List Fn
  cls : List (List (Str × Nat))
  gcs : List D                -- the module's constants
  cons : List (List Nat)      -- of each exception's class: itself and those above it

abbrev Calls := Nat → List D → Mem → R D
/-- the built-in type of a value -/
inductive TN where | non | bool | int | str | tuple | list | dict
  deriving DecidableEq
def tyD (μ : Mem) : D → Option TN
  | .non => some .non
  | .bl _ => some .bool
  | .int _ => some .int
  | .str _ => some .str
  | .tup _ => some .tuple
  | .fl _ => some .list
  | .sl _ => some .list
  | .fd _ _ => some .dict
  | .fi _ _ => none
  | .loc m => match μ[m]? with
    | some (.lst _) => some .list
    | some (.dct _ _) => some .dict
    | _ => none
def subT : TN → Ty → Option Bool
  | _, .cls _ => none
  | .non, _ => some false
  | .bool, t => some (t == .bool || t == .int)
  | .int, t => some (t == .int)
  | .str, t => some (t == .str)
  | .tuple, t => some (t == .tuple)
  | .list, t => some (t == .list)
  | .dict, t => some (t == .dict)
def isTy (μ : Mem) (t : Ty) (d : D) : Option Bool := (tyD μ d).bind fun T => subT T t
def intsOf : List D → Option (List Int)
  | [] => some []
  | .int i :: xs => (intsOf xs).map (i :: ·)
  | _ :: _ => none
def blsOf : List D → Option (List Bool)
  | [] => some []
  | .bl b :: xs => (blsOf xs).map (b :: ·)
  | _ :: _ => none
def strsOf : List D → Option (List Str)
  | [] => some []
  | .str a :: xs => (strsOf xs).map (a :: ·)
  | _ :: _ => none
/-- tuples of one text at least -/
def tupsOf : List D → Option (List (List Str))
  | [] => some []
  | .tup (x :: r) :: xs => match strsOf (x :: r), tupsOf xs with
    | some k, some ks => some (k :: ks)
    | _, _ => none
  | _ :: _ => none
/-- each once -/
def dd {α : Type} [DecidableEq α] : List α → List α
  | [] => []
  | x :: xs => if x ∈ xs then dd xs else x :: dd xs
theorem dd_mem {α : Type} [DecidableEq α] {y : α} : ∀ {xs : List α}, y ∈ dd xs ↔ y ∈ xs
  | [] => Iff.rfl
  | x :: xs => by
    unfold dd
    split
    · rename_i h
      rw [dd_mem, List.mem_cons]
      exact ⟨.inr, fun z => z.elim (fun e => by rw [e]; exact h) id⟩
    · rw [List.mem_cons, List.mem_cons, dd_mem]
theorem dd_nodup {α : Type} [DecidableEq α] : ∀ xs : List α, (dd xs).Nodup
  | [] => List.nodup_nil
  | x :: xs => by
    unfold dd
    split
    · exact dd_nodup xs
    · rename_i h
      exact List.nodup_cons.mpr ⟨fun m => h (dd_mem.mp m), dd_nodup xs⟩
def tupS (k : List Str) : PyData := .tuple (k.map .str)
/-- the order of tuples of texts -/
def leK (x y : List Str) : Bool := !PySem.W.dataLt (tupS y) (tupS x)
def sortK (ks : List (List Str)) : List (List Str) := (dd ks).mergeSort leK
def sumI (xs : List Int) : Int := xs.sum
def one (f : D → Mem → R D) : List D → Mem → R D
  | [d], μ => f d μ
  | _, _ => .bad
def two (f : D → D → Mem → R D) : List D → Mem → R D
  | [d, e], μ => f d e μ
  | _, _ => .bad
def biLen (d : D) (μ : Mem) : R D := match d with
  | .str s => if s.length ≤ lim then .ok (.int s.length) μ else .bad
  | d => match seqOf μ d with
    | some xs => .ok (.int xs.length) μ
    | none => .bad
def biList (d : D) (μ : Mem) : R D := match seqOf μ d with
  | some xs => newL μ xs
  | none => .bad
def biTuple (d : D) (μ : Mem) : R D := match seqOf μ d with
  | some xs => .ok (.tup xs) μ
  | none => .bad
def biAll (d : D) (μ : Mem) : R D := match (lstOf μ d).bind blsOf with
  | some bs => .ok (.bl (bs.all id)) μ
  | none => .bad
def biAny (d : D) (μ : Mem) : R D := match (lstOf μ d).bind blsOf with
  | some bs => .ok (.bl (bs.any id)) μ
  | none => .bad
def lstS (μ : Mem) : D → Option (List D)
  | .sl xs => some xs
  | d => lstOf μ d
def biSum (d : D) (μ : Mem) : R D := match (lstS μ d).bind intsOf with
  | some is => .ok (.int is.sum) μ
  | none => .bad
def biInt (d : D) (μ : Mem) : R D := match d with
  | .bl b => .ok (.int (if b then 1 else 0)) μ
  | .int i => .ok (.int i) μ
  | _ => .bad
def biMax2 (d e : D) (μ : Mem) : R D := match d, e with
  | .int i, .int j => .ok (.int (if j > i then j else i)) μ
  | _, _ => .bad
def biMin2 (d e : D) (μ : Mem) : R D := match d, e with
  | .int i, .int j => .ok (.int (if j < i then j else i)) μ
  | _, _ => .bad
def biAbs (d : D) (μ : Mem) : R D := match d with
  | .int i => .ok (.int (if i < 0 then -i else i)) μ
  | _ => .bad
/-- sorted(set(e)) -/
def biSortedSet (d : D) (μ : Mem) : R D := match (lstOf μ d).bind tupsOf with
  | some ks => if (dd ks).length < 64 then newL μ ((sortK ks).map fun k => .tup (k.map .str)) else .bad
  | none => .bad
/-- list(e), e a dict -/
def biListD (d : D) (μ : Mem) : R D := match d with
  | .fd .k kvs => newL μ (kvs.map (·.1))
  | _ => .bad
def evBI (b : BI) : List D → Mem → R D :=
  match b with
  | .len => one biLen
  | .list => one biList
  | .listD => one biListD
  | .tuple => one biTuple
  | .all => one biAll
  | .any => one biAny
  | .sum => one biSum
  | .int => one biInt
  | .max2 => two biMax2
  | .min2 => two biMin2
  | .abs => one biAbs
  | .sortedSet => one biSortedSet
def indexOf (a : D) : List D → Nat → Option Nat
  | [], _ => none
  | x :: xs, k => if eqF x a then some k else indexOf a xs (k + 1)
def bmAppend (o d : D) (μ : Mem) : R D := match o with
  | .loc m => (match μ[m]? with
    | some (.lst xs) => if xs.length < lim then .ok .non (μ.set m (.lst (xs ++ [d]))) else .bad
    | _ => .bad)
  | _ => .bad
def bmExtend (o d : D) (μ : Mem) : R D := match o with
  | .loc m => (match μ[m]?, lstOf μ d with
    | some (.lst xs), some ys => if xs.length + ys.length ≤ lim then .ok .non (μ.set m (.lst (xs ++ ys))) else .bad
    | _, _ => .bad)
  | _ => .bad
def bmPop (o : D) (μ : Mem) : R D := match o with
  | .loc m => (match μ[m]? with
    | some (.lst xs) => (match xs[xs.length - 1]? with
      | some y => .ok y (μ.set m (.lst xs.dropLast))
      | none => .bad)
    | _ => .bad)
  | _ => .bad
def bmPopAt (o d : D) (μ : Mem) : R D := match o, d with
  | .loc m, .int i => (match μ[m]? with
    | some (.lst xs) => if 0 ≤ i ∧ i < 2 ^ 62 then (match xs[i.toNat]? with
      | some y => .ok y (μ.set m (.lst (xs.eraseIdx i.toNat)))
      | none => .bad) else .bad
    | _ => .bad)
  | _, _ => .bad
def bmIndex (o d : D) (μ : Mem) : R D := match lstS μ o with
  | some xs => if flat d && xs.all flat then (match indexOf d xs 0 with
    | some k => .ok (.int (k : Nat)) μ
    | none => .bad) else .bad
  | none => .bad
def bmClear (o : D) (μ : Mem) : R D := match o with
  | .loc m => (match μ[m]? with
    | some (.lst xs) => .ok .non (μ.set m (.lst []))
    | _ => .bad)
  | _ => .bad
def bmReverse (o : D) (μ : Mem) : R D := match o with
  | .loc m => (match μ[m]? with
    | some (.lst xs) => .ok .non (μ.set m (.lst xs.reverse))
    | _ => .bad)
  | _ => .bad
def non1 (f : D → Mem → R D) (o : D) : List D → Mem → R D
  | [], μ => f o μ
  | _, _ => .bad
def one1 (f : D → D → Mem → R D) (o : D) : List D → Mem → R D
  | [d], μ => f o d μ
  | _, _ => .bad
def evBM (b : BM) (o : D) : List D → Mem → R D :=
  match b with
  | .append => one1 bmAppend o
  | .extend => one1 bmExtend o
  | .pop => non1 bmPop o
  | .popAt => one1 bmPopAt o
  | .index => one1 bmIndex o
  | .clear => non1 bmClear o
  | .reverse => non1 bmReverse o

/-! ### targets of loops -/
mutual
def asgG : G → D → Env → Option Env
  | .nm i, d, σ => if i < σ.length then some (σ.set i (some d)) else none
  | .tup gs, d, σ => match d with
    | .tup xs => asgL gs xs σ
    | _ => none
def asgL : List G → List D → Env → Option Env
  | [], [], σ => some σ
  | g :: gs, x :: xs, σ => match asgG g x σ with
    | some σ' => asgL gs xs σ'
    | none => none
  | _, _, _ => none
end
def wipeE (σ : Env) : List Nat → Env
  | [] => σ
  | v :: vs => (wipeE σ vs).set v none
/-- the lists and dicts that are walked stand still -/
def Still (src : List (Nat × Ob)) (μ : Mem) : Prop := ∀ p ∈ src, μ[p.1]? = some p.2
/-- behind a walk: the dict that was walked is open again -/
def unlO (src : List (Nat × Ob)) (μ : Mem) : Option Mem :=
  match src with
  | [(m, .dct .t _)] => (match μ[m]? with
    | some (.dct .t kvs) => some (μ.set m (.dct .k kvs))
    | _ => none)
  | _ => some μ
open Classical in
/-- the list grows at the place n -/
noncomputable def lcGo (src : List (Nat × Ob)) (step : D → Mem → R (Option D)) (n : Nat) : List D → Mem → R D
  | [], μ => if Still src μ then (match unlO src μ with
    | some μ' => .ok (.loc n) μ'
    | none => .bad) else .bad
  | x :: xs, μ => if Still src μ then (match step x μ with
    | .ok (some y) μ' => (match μ'[n]? with
      | some (.lst acc) => if acc.length < lim then lcGo src step n xs (μ'.set n (.lst (acc ++ [y]))) else .bad
      | _ => .bad)
    | .ok none μ' => lcGo src step n xs μ'
    | _ => .bad) else .bad
def srcOf (μ : Mem) : D → List (Nat × Ob)
  | .loc m => match μ[m]? with
    | some ob => [(m, ob)]
    | none => []
  | _ => []
def zipD : List D → List D → List D
  | x :: xs, y :: ys => .tup [x, y] :: zipD xs ys
  | _, _ => []
def enumD : Nat → List D → List D
  | _, [] => []
  | k, x :: xs => .tup [.int (k : Nat), x] :: enumD (k + 1) xs
def rngD (lo : Int) (n : Nat) : List D := (List.range n).map fun i => .int (lo + (i : Nat))
def B62 (i : Int) : Bool := decide (-(2 ^ 62) ≤ i) && decide (i < 2 ^ 62)
abbrev Items := List D × List (Nat × Ob)
def itSeq (μ : Mem) (d : D) : R Items := match seqOf μ d with
  | some xs => .ok (xs, srcOf μ d) μ
  | none => .bad
def itZip (μ : Mem) (a b : D) : R Items := match a, b with
  | .tup _, _ => .bad
  | _, .tup _ => .bad
  | a, b => match seqOf μ a, seqOf μ b with
    | some xs, some ys => .ok (zipD xs ys, srcOf μ a ++ srcOf μ b) μ
    | _, _ => .bad
def itStr (μ : Mem) : D → R Items
  | .str s => .ok (s.cps.toList.map fun c => .str ⟨#[c]⟩, []) μ
  | _ => .bad
def itRng (μ : Mem) : List D → R Items
  | [.int j] => if B62 j then .ok (rngD 0 j.toNat, []) μ else .bad
  | [.int i, .int j] => if B62 i && B62 j then .ok (rngD i (j - i).toNat, []) μ else .bad
  | _ => .bad
/-- a dict to be walked: one that stands still; one of ours, which is locked -/
def itDct (g : D × D → D) (μ : Mem) (d : D) : R Items := match d with
  | .fd .k kvs => .ok (kvs.map g, []) μ
  | .loc m => (match μ[m]? with
    | some (.dct .k kvs) => .ok (kvs.map g, [(m, .dct .t kvs)]) (μ.set m (.dct .t kvs))
    | _ => .bad)
  | _ => .bad
def initS : Str := "__init__"
def methOf (pr : Pr) (c : Nat) (m : Str) : Option Nat := (pr.cls[c]?).bind fun t => t.lookup m

def isNon : D → Bool
  | .non => true
  | _ => false
section
variable (pr : Pr) (cl : Calls)
mutual
noncomputable def evE : E → Env → Mem → R D
  | .var i, σ, μ => match σ[i]? with
    | some (some d) => .ok d μ
    | _ => .bad
  | .ci i, _, μ => .ok (.int i) μ
  | .cs s, _, μ => .ok (.str s) μ
  | .cb b, _, μ => .ok (.bl b) μ
  | .cn, _, μ => .ok .non μ
  | .gl i, _, μ => match pr.gcs[i]? with
    | some d => .ok d μ
    | none => .bad
  | .and_ es, σ, μ => evAnd es σ μ
  | .or_ es, σ, μ => evOr es σ μ
  | .not_ e, σ, μ => (evE e σ μ).bind fun d μ => match truth μ d with
    | some b => .ok (.bl (!b)) μ
    | none => .bad
  | .isN e, σ, μ => (evE e σ μ).bind fun d μ => .ok (.bl (isNon d)) μ
  | .notN e, σ, μ => (evE e σ μ).bind fun d μ => .ok (.bl (!isNon d)) μ
  | .bin o a b, σ, μ => (evE a σ μ).bind fun x μ => (evE b σ μ).bind fun y μ => evBin o x y μ
  | .cmp o a b, σ, μ => (evE a σ μ).bind fun x μ => (evE b σ μ).bind fun y μ => evCmp o x y μ
  | .chain o o' a b c, σ, μ => (evE a σ μ).bind fun x μ => (evE b σ μ).bind fun y μ => (evCmp o x y μ).bind fun k μ => match k with
    | .bl true => (evE c σ μ).bind fun z μ => evCmp o' y z μ
    | .bl false => .ok (.bl false) μ
    | _ => .bad
  | .ifx c a b, σ, μ => (evE c σ μ).bind fun d μ => match truth μ d with
    | some true => evE a σ μ
    | some false => evE b σ μ
    | none => .bad
  | .tup es, σ, μ => (evL es σ μ).bind fun ds μ => if ds.length ≤ lim then .ok (.tup ds) μ else .bad
  | .lst es, σ, μ => (evL es σ μ).bind fun ds μ => if ds.length ≤ lim then newL μ ds else .bad
  | .dnew k, _, μ => .ok (.loc μ.length) (μ ++ [.dct k []])
  | .idx a b, σ, μ => (evE a σ μ).bind fun x μ => (evE b σ μ).bind fun y μ => evIdx x y μ
  | .slc a lo hi, σ, μ => (evE a σ μ).bind fun x μ => (evO lo σ μ).bind fun l μ => (evO hi σ μ).bind fun h μ => evSlc x l h μ
  | .call f es nm, σ, μ => (evL es σ μ).bind fun ds μ => nrm nm μ (cl f ds μ)
  | .fld e f, σ, μ => (evE e σ μ).bind fun d μ => match (insOf μ d).bind fun p => p.2.lookup f with
    | some v => .ok v μ
    | none => .bad
  | .meth e m es nm, σ, μ => (evE e σ μ).bind fun d μ => match insOf μ d with
    | some (c, fs) => if fs.lookup m = none then (match methOf pr c m with
      | some f => (evL es σ μ).bind fun ds μ => nrm nm μ (cl f (d :: ds) μ)
      | none => .bad) else .bad
    | none => .bad
  | .make c es nm, σ, μ => (evL es σ μ).bind fun ds μ => match methOf pr c initS with
    | some f => nrm nm μ ((cl f (.loc μ.length :: ds) (μ ++ [.ins c []])).bind fun v μ' => match v with
      | .non => .ok (.loc μ.length) μ'
      | _ => .bad)
    | none => .bad
  | .bi b es, σ, μ => (evL es σ μ).bind fun ds μ => evBI b ds μ
  | .isi e t, σ, μ => (evE e σ μ).bind fun d μ => match isTy μ t d with
    | some b => .ok (.bl b) μ
    | none => .bad
  | .bm b e es, σ, μ => (evE e σ μ).bind fun o μ => match lstS μ o with
    | some _ => (evL es σ μ).bind fun ds μ => evBM b o ds μ
    | none => .bad
  | .lc elt g it ifs own, σ, μ => (evI it σ μ).bind fun p μ => lcGo p.2 (fun x μ => match asgG g x (wipeE σ own) with
    | some σ' => (evAll ifs σ' μ).bind fun b μ => if b = true then (evE elt σ' μ).bind fun y μ => .ok (some y) μ else .ok none μ
    | none => .bad) μ.length p.1 (μ ++ [.lst []])
  | .val e, σ, μ => nrm .val μ (evE e σ μ)
noncomputable def evL : List E → Env → Mem → R (List D)
  | [], _, μ => .ok [] μ
  | e :: es, σ, μ => (evE e σ μ).bind fun d μ => (evL es σ μ).bind fun ds μ => .ok (d :: ds) μ
noncomputable def evO : Option E → Env → Mem → R (Option Int)
  | none, _, μ => .ok none μ
  | some e, σ, μ => (evE e σ μ).bind fun d μ => match d with
    | .int i => .ok (some i) μ
    | _ => .bad
noncomputable def evAnd : List E → Env → Mem → R D
  | [], _, _ => .bad
  | e :: es, σ, μ => (evE e σ μ).bind fun d μ => if es.isEmpty then .ok d μ else match truth μ d with
    | some true => evAnd es σ μ
    | some false => .ok d μ
    | none => .bad
noncomputable def evOr : List E → Env → Mem → R D
  | [], _, _ => .bad
  | e :: es, σ, μ => (evE e σ μ).bind fun d μ => if es.isEmpty then .ok d μ else match truth μ d with
    | some false => evOr es σ μ
    | some true => .ok d μ
    | none => .bad
/-- the tests of a comprehension -/
noncomputable def evAll : List E → Env → Mem → R Bool
  | [], _, μ => .ok true μ
  | e :: es, σ, μ => (evE e σ μ).bind fun d μ => match truth μ d with
    | some true => evAll es σ μ
    | some false => .ok false μ
    | none => .bad
noncomputable def evI : It → Env → Mem → R Items
  | .seq e, σ, μ => (evE e σ μ).bind fun d μ => itSeq μ d
  | .rng es, σ, μ => (evL es σ μ).bind fun ds μ => itRng μ ds
  | .zip a b, σ, μ => (evE a σ μ).bind fun x μ => (evE b σ μ).bind fun y μ => itZip μ x y
  | .enum e, σ, μ => (evE e σ μ).bind fun d μ => match d with
    | .tup _ => .bad
    | d => match seqOf μ d with
      | some xs => .ok (enumD 0 xs, srcOf μ d) μ
      | none => .bad
  | .rev e, σ, μ => (evE e σ μ).bind fun d μ => match seqOf μ d with
    | some xs => .ok (xs.reverse, srcOf μ d) μ
    | none => .bad
  | .str e, σ, μ => (evE e σ μ).bind fun d μ => itStr μ d
  | .keys e, σ, μ => (evE e σ μ).bind fun d μ => itDct (·.1) μ d
  | .items e, σ, μ => (evE e σ μ).bind fun d μ => itDct (fun p => .tup [p.1, p.2]) μ d
end
end
end PI

namespace PI
open PySem
/-! ### statements -/
def putF (f : Str) (v : D) : List (Str × D) → List (Str × D)
  | [] => [(f, v)]
  | p :: ps => if p.1 = f then (f, v) :: ps else p :: putF f v ps
def putD (k v : D) (kvs : List (D × D)) : List (D × D) :=
  if (kvs.any fun p => eqF p.1 k) = true then kvs.map (fun p => if eqF p.1 k = true then (p.1, v) else p) else kvs ++ [(k, v)]
/-- o[i] = v -/
def setSub (o i v : D) (μ : Mem) : Option Mem :=
  match o with
  | .loc m => (match μ[m]?, i with
    | some (.lst xs), .int k => (match ixOf xs.length k with
      | some j => some (μ.set m (.lst (xs.set j v)))
      | none => none)
    | some (.dct .k kvs), i => if keyD i && decide (kvs.length < lim) then some (μ.set m (.dct .k (putD i v kvs))) else none
    | _, _ => none)
  | _ => none
def setFld (o : D) (f : Str) (v : D) (μ : Mem) : Option Mem :=
  match o with
  | .loc m => (match μ[m]? with
    | some (.ins c fs) => if fs.length < 1000 then some (μ.set m (.ins c (putF f v fs))) else none
    | _ => none)
  | _ => none
def RS.seq : RS → (Env → Mem → RS) → RS
  | .nx σ μ, f => f σ μ
  | r, _ => r
/-- an expression ahead of a statement's rest -/
def R.into {α : Type} (σ : Env) : R α → (α → Mem → RS) → RS
  | .ok a μ, f => f a μ
  | .err c xs μ, _ => .err c xs σ μ
  | .bad, _ => .bad
/-- behind a loop's turn: on, or out -/
def RS.turn : RS → (Env → Mem → RS) → RS
  | .nx σ μ, f => f σ μ
  | .ct σ μ, f => f σ μ
  | .bk σ μ, _ => .nx σ μ
  | r, _ => r
/-- behind the last turn -/
def endF (src : List (Nat × Ob)) (σ : Env) (μ : Mem) : RS := match unlO src μ with
  | some μ' => .nx σ μ'
  | none => .bad
def RS.turnF (src : List (Nat × Ob)) : RS → (Env → Mem → RS) → RS
  | .nx σ μ, f => f σ μ
  | .ct σ μ, f => f σ μ
  | .bk σ μ, _ => endF src σ μ
  | .rt d μ, _ => (match unlO src μ with
    | some μ' => .rt d μ'
    | none => .bad)
  | r, _ => r
open Classical in
noncomputable def forGo (src : List (Nat × Ob)) (step : D → Env → Mem → RS) : List D → Env → Mem → RS
  | [], σ, μ => if Still src μ then endF src σ μ else .bad
  | x :: xs, σ, μ => if Still src μ then (step x σ μ).turnF src fun σ μ => forGo src step xs σ μ else .bad
/-- n turns of a while at most; none: it has not come to its end -/
noncomputable def whGo (test : Env → Mem → R Bool) (step : Env → Mem → RS) : Nat → Env → Mem → Option RS
  | 0, _, _ => none
  | n + 1, σ, μ => match test σ μ with
    | .ok true μ' => (match step σ μ' with
      | .nx σ μ => whGo test step n σ μ
      | .ct σ μ => whGo test step n σ μ
      | .bk σ μ => some (.nx σ μ)
      | r => some r)
    | .ok false μ' => some (.nx σ μ')
    | .err c xs μ' => some (.err c xs σ μ')
    | .bad => some .bad
open Classical in
noncomputable def whRun (test : Env → Mem → R Bool) (step : Env → Mem → RS) (σ : Env) (μ : Mem) : RS :=
  if h : ∃ n r, whGo test step n σ μ = some r then (whGo test step (Classical.choose h) σ μ).getD .bad else .bad
section
variable (pr : Pr) (cl : Calls)
noncomputable def evT (e : E) (σ : Env) (μ : Mem) : R Bool := (evE pr cl e σ μ).bind fun d μ => match truth μ d with
  | some b => .ok b μ
  | none => .bad
noncomputable def setTg (t : Tg) (v : D) (σ : Env) (μ : Mem) : RS :=
  match t with
  | .g g => (match asgG g v σ with
    | some σ' => .nx σ' μ
    | none => .bad)
  | .sub o i => (evE pr cl o σ μ).into σ fun x μ => (evE pr cl i σ μ).into σ fun k μ => match setSub x k v μ with
    | some μ' => .nx σ μ'
    | none => .bad
  | .fld o f => (evE pr cl o σ μ).into σ fun x μ => match setFld x f v μ with
    | some μ' => .nx σ μ'
    | none => .bad
/-- is the exception's class one of these, or under one of them -/
def caught (c : Nat) (cs : List Nat) : Option Bool := (pr.cons[c]?).map fun up => cs.any fun k => up.contains k
mutual
noncomputable def exS : S → Env → Mem → RS
  | .asg t e, σ, μ => (evE pr cl e σ μ).into σ fun v μ => setTg pr cl t v σ μ
  | .aug i o e, σ, μ => match σ[i]? with
    | some (some x) => (evE pr cl e σ μ).into σ fun y μ => match o, x, y with
      | .add, .int a, .int b => .nx (σ.set i (some (.int (a + b)))) μ
      | .sub, .int a, .int b => .nx (σ.set i (some (.int (a - b)))) μ
      | _, _, _ => .bad
    | _ => .bad
  | .exp e, σ, μ => (evE pr cl e σ μ).into σ fun _ μ => .nx σ μ
  | .ret e, σ, μ => (evE pr cl e σ μ).into σ fun v μ => .rt v μ
  | .retN, _, μ => .rt .non μ
  | .ifs c a b, σ, μ => (evT pr cl c σ μ).into σ fun k μ => if k then exL a σ μ else exL b σ μ
  | .for_ g it b, σ, μ => (evI pr cl it σ μ).into σ fun p μ => forGo p.2 (fun x σ μ => match asgG g x σ with
    | some σ' => exL b σ' μ
    | none => .bad) p.1 σ μ
  | .whl c b, σ, μ => whRun (evT pr cl c) (fun σ μ => exL b σ μ) σ μ
  | .pas, σ, μ => .nx σ μ
  | .brk, σ, μ => .bk σ μ
  | .cnt, σ, μ => .ct σ μ
  | .rai c, σ, μ => .err c [] σ μ
  | .try_ b cs h, σ, μ => match exL b σ μ with
    | .err c xs σ' μ' => (match caught pr c cs with
      | some true => exL h σ' μ'
      | some false => .err c xs σ' μ'
      | none => .bad)
    | r => r
noncomputable def exL : List S → Env → Mem → RS
  | [], σ, μ => .nx σ μ
  | s :: ss, σ, μ => (exS s σ μ).seq fun σ μ => exL ss σ μ
end
end
def startE (f : Fn) (ds : List D) : Env := ds.map some ++ List.replicate (f.ns - ds.length) none
def RS.out : RS → R D
  | .nx _ μ => .ok .non μ
  | .rt d μ => .ok d μ
  | .err c xs _ μ => .err c xs μ
  | _ => .bad
/-- f(ds), the calls one in another at most so many deep -/
noncomputable def run (pr : Pr) : Nat → Calls
  | 0, _, _, _ => .bad
  | n + 1, f, ds, μ => match pr.fns[f]? with
    | some fn => if ds.length = fn.ar then (exL pr (run pr n) fn.body (startE fn ds) μ).out else .bad
    | none => .bad
end PI

/-! PI2: a text of this language and the linked text. First: values and memory over the hand layer's heap. -/
namespace PI
open PySem L2
abbrev sOk (s : Str) : Prop := s.cps.all (· < 0x110000) = true
section
variable (K : PySem.W.Frag) (ca : Nat → Addr)
/-- constants of the written part -/
def KT (a : Addr) (xs : List V) : Prop := ∃ (o : Obj) (its : Array Value) (n : Nat), K.lookup a = some o ∧ o.cls = .type "tuple" ∧ o.data = .seq its n ∧ its.size ≤ sizeLine ∧ Vals xs its.toList
def KL (a : Addr) (xs : List V) : Prop := ∃ (o : Obj) (its : Array Value) (n : Nat), K.lookup a = some o ∧ o.cls = .type "list" ∧ o.dict = none ∧ o.data = .seq its n ∧ its.size ≤ sizeLine ∧ Vals xs its.toList
def keyToD : Key → D
  | .inl i => .int i
  | .inr s => .str s
variable (φ : List Addr) (H : Hp)
def RT (a : Addr) (vs : List V) : Prop := (H a = some (.tup vs) ∧ a ∉ φ) ∨ KT K a vs
def RL (a : Addr) (vs : List V) : Prop := (Rd H a (.lst vs) ∧ a ∉ φ) ∨ KL K a vs
mutual
inductive At : V → D → Prop
  | non : At .non .non
  | bl (b : Bool) : At (.bl b) (.bl b)
  | int (i : Int) : At (.int i) (.int i)
  | str (s : Str) : sOk s → At (.str s) (.str s)
  | tup {a : Addr} {vs : List V} {ds : List D} : RT K φ H a vs → AtL vs ds → At (.ref a) (.tup ds)
  | fl {a : Addr} {vs : List V} {ds : List D} : H a = some (.lst vs) → a ∉ φ → AtL vs ds → At (.ref a) (.fl ds)
  | sl {a : Addr} {vs : List V} {ds : List D} : RL K φ H a vs → AtL vs ds → At (.ref a) (.sl ds)
  | fd {a : Addr} {ks : List (Key × V)} {ds : List (D × D)} : Rd H a (.dK ks) → a ∉ φ → AtP ks ds → At (.ref a) (.fd .k ds)
  | fi {a : Addr} {c : Nat} {dx : Addr} {fs : List (Str × V)} {ds : List (Str × D)} : H a = some (.ins (ca c) dx fs) → a ∉ φ → AtF fs ds → At (.ref a) (.fi c ds)
  | loc {n : Nat} {a : Addr} : φ[n]? = some a → At (.ref a) (.loc n)
inductive AtL : List V → List D → Prop
  | nil : AtL [] []
  | cons {v : V} {vs : List V} {d : D} {ds : List D} : At v d → AtL vs ds → AtL (v :: vs) (d :: ds)
inductive AtP : List (Key × V) → List (D × D) → Prop
  | nil : AtP [] []
  | cons {k : Key} {v : V} {ks : List (Key × V)} {d : D} {ds : List (D × D)} : (∀ s, k = .inr s → sOk s) → At v d → AtP ks ds → AtP ((k, v) :: ks) ((keyToD k, d) :: ds)
inductive AtF : List (Str × V) → List (Str × D) → Prop
  | nil : AtF [] []
  | cons {f : Str} {v : V} {fs : List (Str × V)} {d : D} {ds : List (Str × D)} : At v d → AtF fs ds → AtF ((f, v) :: fs) ((f, d) :: ds)
end
def ObRel (a : Addr) : Ob → Prop
  | .lst xs => ∃ vs, H a = some (.lst vs) ∧ AtL K ca φ H vs xs
  | .dct .k kvs => ∃ ks, H a = some (.dK ks) ∧ AtP K ca φ H ks kvs
  | .dct .t kvs => ∃ od ks, H a = some (.frz od (.dK ks)) ∧ AtP K ca φ H ks kvs
  | .ins c fs => ∃ dx fsV, H a = some (.ins (ca c) dx fsV) ∧ AtF K ca φ H fsV fs
structure Rel (μ : Mem) : Prop where
  len : φ.length = μ.length
  nd : φ.Nodup
  ob : ∀ (i : Nat) (ob : Ob) (a : Addr), μ[i]? = some ob → φ[i]? = some a → ObRel K ca φ H a ob
end
/-- later: more places, what is no place stands as it was -/
structure Ext0 (φ : List Addr) (H : Hp) (φ' : List Addr) (H' : Hp) : Prop where
  pre : ∃ ψ, φ' = φ ++ ψ
  kept : ∀ a o, H a = some o → a ∉ φ → H' a = some o ∨ ∃ od ks, o = .dK ks ∧ H' a = some (.frz od (.dK ks))
  new : ∀ a, a ∈ φ' → a ∈ φ ∨ H a = none
section
variable {K : PySem.W.Frag} {ca : Nat → Addr} {φ φ' φ1 : List Addr} {H H' H1 : Hp} {μ μ' : Mem}
theorem Ext0.refl (φ : List Addr) (H : Hp) : Ext0 φ H φ H := ⟨⟨[], by simp⟩, fun _ _ h _ => .inl h, fun _ h => .inl h⟩
theorem Ext0.keep (e : Ext0 φ H φ' H') {a : Addr} {o : HO} (h : H a = some o) (n : a ∉ φ) (nd : ∀ ks, o ≠ .dK ks) : H' a = some o := (e.kept a o h n).elim id fun ⟨_, ks, q, _⟩ => absurd q (nd ks)
theorem Ext0.keepD (e : Ext0 φ H φ' H') {a : Addr} {ks : List (Key × V)} (h : Rd H a (.dK ks)) (n : a ∉ φ) : Rd H' a (.dK ks) := by
  rcases h with h | ⟨od, h⟩
  · rcases e.kept a _ h n with q | ⟨od, ks', q, q'⟩
    · exact .inl q
    · cases q; exact .inr ⟨od, q'⟩
  · exact .inr ⟨od, e.keep h n (fun _ z => nomatch z)⟩
theorem Ext0.there (e : Ext0 φ H φ' H') {a : Addr} {o : HO} (h : H a = some o) (n : a ∉ φ) : ∃ o', H' a = some o' := (e.kept a o h n).elim (fun q => ⟨_, q⟩) fun ⟨_, _, _, q⟩ => ⟨_, q⟩
theorem Ext0.out (e : Ext0 φ H φ' H') {a : Addr} {o : HO} (h : H a = some o) (n : a ∉ φ) : a ∉ φ' := fun m => by
  rcases e.new a m with z | z
  · exact n z
  · rw [h] at z; cases z
theorem Ext0.trans (e : Ext0 φ H φ1 H1) (f : Ext0 φ1 H1 φ' H') : Ext0 φ H φ' H' := by
  refine ⟨?_, fun a o h n => ?_, fun a m => ?_⟩
  · obtain ⟨ψ, rfl⟩ := e.pre
    obtain ⟨ψ', rfl⟩ := f.pre
    exact ⟨ψ ++ ψ', by rw [List.append_assoc]⟩
  · rcases e.kept a o h n with q | ⟨od, ks, rfl, q⟩
    · exact f.kept a o q (e.out h n)
    · exact .inr ⟨od, ks, rfl, f.keep q (e.out h n) (fun _ z => nomatch z)⟩
  · rcases f.new a m with z | z
    · exact e.new a z
    · by_cases q : a ∈ φ
      · exact .inl q
      · refine .inr ?_
        cases h : H a with
        | none => rfl
        | some o =>
          obtain ⟨o', z'⟩ := e.there h q
          rw [z'] at z; cases z
theorem Ext0.get (e : Ext0 φ H φ' H') {n : Nat} {a : Addr} (h : φ[n]? = some a) : φ'[n]? = some a := by
  obtain ⟨ψ, rfl⟩ := e.pre
  obtain ⟨hl, rfl⟩ := List.getElem?_eq_some_iff.mp h
  rw [List.getElem?_append_left hl, List.getElem?_eq_getElem hl]
theorem Ext0.len (e : Ext0 φ H φ' H') : φ.length ≤ φ'.length := by
  obtain ⟨ψ, rfl⟩ := e.pre
  simp
theorem Ext0.take (e : Ext0 φ H φ' H') : φ'.take φ.length = φ := by
  obtain ⟨ψ, rfl⟩ := e.pre
  simp
theorem RT.ext0 (e : Ext0 φ H φ' H') {a : Addr} {vs : List V} (h : RT K φ H a vs) : RT K φ' H' a vs := by
  rcases h with ⟨h, n⟩ | h
  · exact .inl ⟨e.keep h n (fun _ z => nomatch z), e.out h n⟩
  · exact .inr h
theorem RL.ext0 (e : Ext0 φ H φ' H') {a : Addr} {vs : List V} (h : RL K φ H a vs) : RL K φ' H' a vs := by
  rcases h with ⟨h | ⟨o, h⟩, n⟩ | h
  · exact .inl ⟨.inl (e.keep h n (fun _ z => nomatch z)), e.out h n⟩
  · exact .inl ⟨.inr ⟨o, e.keep h n (fun _ z => nomatch z)⟩, e.out h n⟩
  · exact .inr h
mutual
theorem At.ext0 (e : Ext0 φ H φ' H') : ∀ {v : V} {d : D}, At K ca φ H v d → At K ca φ' H' v d
  | _, _, .non => .non
  | _, _, .bl b => .bl b
  | _, _, .int i => .int i
  | _, _, .str s h => .str s h
  | _, _, .tup r h => .tup (r.ext0 e) (AtL.ext0 e h)
  | _, _, .fl r n h => .fl (e.keep r n (fun _ z => nomatch z)) (e.out r n) (AtL.ext0 e h)
  | _, _, .sl r h => .sl (r.ext0 e) (AtL.ext0 e h)
  | _, _, .fd r n h => .fd (e.keepD r n) (r.elim (fun q => e.out q n) fun ⟨o, q⟩ => e.out q n) (AtP.ext0 e h)
  | _, _, .fi r n h => .fi (e.keep r n (fun _ z => nomatch z)) (e.out r n) (AtF.ext0 e h)
  | _, _, .loc h => .loc (e.get h)
theorem AtL.ext0 (e : Ext0 φ H φ' H') : ∀ {vs : List V} {ds : List D}, AtL K ca φ H vs ds → AtL K ca φ' H' vs ds
  | _, _, .nil => .nil
  | _, _, .cons h t => .cons (At.ext0 e h) (AtL.ext0 e t)
theorem AtP.ext0 (e : Ext0 φ H φ' H') : ∀ {vs : List (Key × V)} {ds : List (D × D)}, AtP K ca φ H vs ds → AtP K ca φ' H' vs ds
  | _, _, .nil => .nil
  | _, _, .cons s h t => .cons s (At.ext0 e h) (AtP.ext0 e t)
theorem AtF.ext0 (e : Ext0 φ H φ' H') : ∀ {vs : List (Str × V)} {ds : List (Str × D)}, AtF K ca φ H vs ds → AtF K ca φ' H' vs ds
  | _, _, .nil => .nil
  | _, _, .cons h t => .cons (At.ext0 e h) (AtF.ext0 e t)
end

/-- .. and what is locked stays so -/
structure Ext (φ : List Addr) (H : Hp) (φ' : List Addr) (H' : Hp) : Prop extends Ext0 φ H φ' H' where
  lk : ∀ a od u, H a = some (.frz od u) → H' a = some (.frz od u)
theorem Ext.refl (φ : List Addr) (H : Hp) : Ext φ H φ H := ⟨Ext0.refl φ H, fun _ _ _ h => h⟩
theorem Ext.trans (e : Ext φ H φ1 H1) (f : Ext φ1 H1 φ' H') : Ext φ H φ' H' := ⟨e.toExt0.trans f.toExt0, fun a od u h => f.lk a od u (e.lk a od u h)⟩
theorem RT.ext (e : Ext φ H φ' H') {a : Addr} {vs : List V} (h : RT K φ H a vs) : RT K φ' H' a vs := h.ext0 e.toExt0
theorem RL.ext (e : Ext φ H φ' H') {a : Addr} {vs : List V} (h : RL K φ H a vs) : RL K φ' H' a vs := h.ext0 e.toExt0
theorem At.ext (e : Ext φ H φ' H') {v : V} {d : D} (h : At K ca φ H v d) : At K ca φ' H' v d := h.ext0 e.toExt0
theorem AtL.ext (e : Ext φ H φ' H') {vs : List V} {ds : List D} (h : AtL K ca φ H vs ds) : AtL K ca φ' H' vs ds := h.ext0 e.toExt0
theorem AtP.ext (e : Ext φ H φ' H') {vs : List (Key × V)} {ds : List (D × D)} (h : AtP K ca φ H vs ds) : AtP K ca φ' H' vs ds := h.ext0 e.toExt0
theorem AtF.ext (e : Ext φ H φ' H') {vs : List (Str × V)} {ds : List (Str × D)} (h : AtF K ca φ H vs ds) : AtF K ca φ' H' vs ds := h.ext0 e.toExt0
/-! ### fewer places -/
/-- ψ: the places below n as they were; those that are let go stand outside -/
structure Cutt (n : Nat) (ex : Option Nat) (φ ψ : List Addr) : Prop where
  low : ∀ i, i < n → ψ[i]? = φ[i]?
  out : ∀ a, a ∉ φ → a ∉ ψ
  gone : ∀ j a, n ≤ j → ex ≠ some j → φ[j]? = some a → a ∉ ψ
variable {n : Nat} {ex : Option Nat} {ψ : List Addr}
mutual
theorem At.cut (c : Cutt n ex φ ψ) : ∀ {v : V} {d : D}, At K ca φ H v d → closed n d = true → At K ca ψ H v d
  | _, _, .non, _ => .non
  | _, _, .bl b, _ => .bl b
  | _, _, .int i, _ => .int i
  | _, _, .str s h, _ => .str s h
  | _, _, .tup r h, q => .tup (r.imp (fun x => ⟨x.1, c.out _ x.2⟩) id) (AtL.cut c h (by unfold closed at q; exact q))
  | _, _, .fl r m h, q => .fl r (c.out _ m) (AtL.cut c h (by unfold closed at q; exact q))
  | _, _, .sl r h, q => .sl (r.imp (fun x => ⟨x.1, c.out _ x.2⟩) id) (AtL.cut c h (by unfold closed at q; exact q))
  | _, _, .fd r m h, q => .fd r (c.out _ m) (AtP.cut c h (by unfold closed at q; exact q))
  | _, _, .fi r m h, q => .fi r (c.out _ m) (AtF.cut c h (by unfold closed at q; exact q))
  | _, _, .loc h, q => .loc ((c.low _ (by unfold closed at q; exact of_decide_eq_true q)).trans h)
theorem AtL.cut (c : Cutt n ex φ ψ) : ∀ {vs : List V} {ds : List D}, AtL K ca φ H vs ds → closedL n ds = true → AtL K ca ψ H vs ds
  | _, _, .nil, _ => .nil
  | _, _, .cons h t, q => by
    unfold closedL at q
    rw [Bool.and_eq_true] at q
    exact .cons (At.cut c h q.1) (AtL.cut c t q.2)
theorem AtP.cut (c : Cutt n ex φ ψ) : ∀ {vs : List (Key × V)} {ds : List (D × D)}, AtP K ca φ H vs ds → closedP n ds = true → AtP K ca ψ H vs ds
  | _, _, .nil, _ => .nil
  | _, _, .cons s h t, q => by
    unfold closedP at q
    rw [Bool.and_eq_true, Bool.and_eq_true] at q
    exact .cons s (At.cut c h q.1.2) (AtP.cut c t q.2)
theorem AtF.cut (c : Cutt n ex φ ψ) : ∀ {vs : List (Str × V)} {ds : List (Str × D)}, AtF K ca φ H vs ds → closedF n ds = true → AtF K ca ψ H vs ds
  | _, _, .nil, _ => .nil
  | _, _, .cons h t, q => by
    unfold closedF at q
    rw [Bool.and_eq_true] at q
    exact .cons (At.cut c h q.1) (AtF.cut c t q.2)
end
theorem ObRel.cut {a : Addr} {ob : Ob} (c : Cutt n ex φ ψ) (h : ObRel K ca φ H a ob) (q : closedO n ob = true) : ObRel K ca ψ H a ob := by
  cases ob with
  | lst xs =>
    obtain ⟨vs, e, h⟩ := h
    exact ⟨vs, e, h.cut c q⟩
  | dct k kvs =>
    cases k with
    | k =>
      obtain ⟨vs, e, h⟩ := h
      exact ⟨vs, e, h.cut c q⟩
    | t => obtain ⟨od, vs, e, h⟩ := h; exact ⟨od, vs, e, h.cut c q⟩
  | ins cc fs =>
    obtain ⟨dx, vs, e, h⟩ := h
    exact ⟨dx, vs, e, h.cut c q⟩

/-! ### freezing -/
mutual
theorem At.frzW (c : Cutt n ex φ ψ) {g : Nat → Option D} (hg : ∀ m a d', φ[m]? = some a → g m = some d' → At K ca ψ H (.ref a) d') : ∀ {v : V} {d d' : D}, At K ca φ H v d → frzW g d = some d' → At K ca ψ H v d'
  | _, _, _, .non, q => by unfold PI.frzW at q; cases q; exact .non
  | _, _, _, .bl b, q => by unfold PI.frzW at q; cases q; exact .bl b
  | _, _, _, .int b, q => by unfold PI.frzW at q; cases q; exact .int b
  | _, _, _, .str b h, q => by unfold PI.frzW at q; cases q; exact .str b h
  | _, _, _, .tup r h, q => by
    unfold PI.frzW at q
    obtain ⟨ys, e, rfl⟩ := Option.map_eq_some_iff.mp q
    exact .tup (r.imp (fun x => ⟨x.1, c.out _ x.2⟩) id) (AtL.frzL c hg h e)
  | _, _, _, .fl r m h, q => by
    unfold PI.frzW at q
    obtain ⟨ys, e, rfl⟩ := Option.map_eq_some_iff.mp q
    exact .fl r (c.out _ m) (AtL.frzL c hg h e)
  | _, _, _, .sl r h, q => by
    unfold PI.frzW at q
    obtain ⟨ys, e, rfl⟩ := Option.map_eq_some_iff.mp q
    exact .sl (r.imp (fun x => ⟨x.1, c.out _ x.2⟩) id) (AtL.frzL c hg h e)
  | _, _, _, .fd r m h, q => by
    unfold PI.frzW at q
    obtain ⟨ys, e, rfl⟩ := Option.map_eq_some_iff.mp q
    exact .fd r (c.out _ m) (AtP.frzP c hg h e)
  | _, _, _, .fi r m h, q => by
    unfold PI.frzW at q
    obtain ⟨ys, e, rfl⟩ := Option.map_eq_some_iff.mp q
    exact .fi r (c.out _ m) (AtF.frzF c hg h e)
  | _, _, _, .loc h, q => by
    unfold PI.frzW at q
    exact hg _ _ _ h q
theorem AtL.frzL (c : Cutt n ex φ ψ) {g : Nat → Option D} (hg : ∀ m a d', φ[m]? = some a → g m = some d' → At K ca ψ H (.ref a) d') : ∀ {vs : List V} {ds ds' : List D}, AtL K ca φ H vs ds → frzL g ds = some ds' → AtL K ca ψ H vs ds'
  | _, _, _, .nil, q => by unfold PI.frzL at q; cases q; exact .nil
  | _, _, _, .cons h t, q => by
    unfold PI.frzL at q
    split at q
    · rename_i y ys e1 e2
      cases q
      exact .cons (At.frzW c hg h e1) (AtL.frzL c hg t e2)
    · cases q
theorem AtP.frzP (c : Cutt n ex φ ψ) {g : Nat → Option D} (hg : ∀ m a d', φ[m]? = some a → g m = some d' → At K ca ψ H (.ref a) d') : ∀ {vs : List (Key × V)} {ds ds' : List (D × D)}, AtP K ca φ H vs ds → frzP g ds = some ds' → AtP K ca ψ H vs ds'
  | _, _, _, .nil, q => by unfold PI.frzP at q; cases q; exact .nil
  | _, _, _, .cons (k := k) s h t, q => by
    unfold PI.frzP at q
    split at q
    · rename_i y z ys e1 e2 e3
      cases q
      have ek : y = keyToD k := by
        cases k with
        | inl i => unfold keyToD PI.frzW at e1; cases e1; rfl
        | inr i => unfold keyToD PI.frzW at e1; cases e1; rfl
      subst ek
      exact .cons s (At.frzW c hg h e2) (AtP.frzP c hg t e3)
    · cases q
theorem AtF.frzF (c : Cutt n ex φ ψ) {g : Nat → Option D} (hg : ∀ m a d', φ[m]? = some a → g m = some d' → At K ca ψ H (.ref a) d') : ∀ {vs : List (Str × V)} {ds ds' : List (Str × D)}, AtF K ca φ H vs ds → frzF g ds = some ds' → AtF K ca ψ H vs ds'
  | _, _, _, .nil, q => by unfold PI.frzF at q; cases q; exact .nil
  | _, _, _, .cons h t, q => by
    unfold PI.frzF at q
    split at q
    · rename_i y ys e1 e2
      cases q
      exact .cons (At.frzW c hg h e1) (AtF.frzF c hg t e2)
    · cases q
end
theorem frzN_at (c : Cutt n ex φ ψ) (r : Rel K ca φ H μ) : ∀ (f m : Nat) (a : Addr) (d' : D), φ[m]? = some a → frzN μ n ex f m = some d' → At K ca ψ H (.ref a) d'
  | 0, m, a, d', h, q => by
    unfold frzN at q
    split at q
    · rename_i hm
      cases q
      exact .loc ((c.low m hm).trans h)
    · cases q
  | f + 1, m, a, d', h, q => by
    unfold frzN at q
    split at q
    · rename_i hm
      cases q
      exact .loc ((c.low m hm).trans h)
    · rename_i hm
      split at q
      · cases q
      · rename_i hx
        split at q
        · rename_i ob e
          have hn : a ∉ ψ := c.gone m a (Nat.le_of_not_lt hm) hx h
          have ho := r.ob m ob a e h
          have ih := frzN_at c r f
          cases ob with
          | lst xs =>
            obtain ⟨vs, e1, h1⟩ := ho
            unfold frzO at q
            obtain ⟨ys, e2, rfl⟩ := Option.map_eq_some_iff.mp q
            exact .fl e1 hn (h1.frzL c ih e2)
          | dct k kvs =>
            cases k with
            | k =>
              obtain ⟨vs, e1, h1⟩ := ho
              unfold frzO at q
              obtain ⟨ys, e2, rfl⟩ := Option.map_eq_some_iff.mp q
              exact .fd (.inl e1) hn (h1.frzP c ih e2)
            | t =>
              obtain ⟨od, vs, e1, h1⟩ := ho
              unfold frzO at q
              obtain ⟨ys, e2, rfl⟩ := Option.map_eq_some_iff.mp q
              exact .fd (.inr ⟨od, e1⟩) hn (h1.frzP c ih e2)
          | ins cc fs =>
            obtain ⟨dx, vs, e1, h1⟩ := ho
            unfold frzO at q
            obtain ⟨ys, e2, rfl⟩ := Option.map_eq_some_iff.mp q
            exact .fi e1 hn (h1.frzF c ih e2)
        · cases q
theorem cutt_take (r : Rel K ca φ H μ) (n : Nat) : Cutt n none φ (φ.take n) := by
  refine ⟨fun i hi => by rw [List.getElem?_take, if_pos hi], fun a h m => h (List.mem_of_mem_take m), fun j a hj _ h m => ?_⟩
  obtain ⟨i, hi⟩ := List.mem_iff_getElem?.mp m
  rw [List.getElem?_take] at hi
  split at hi
  · rename_i hin
    have e := nd_ix r.nd h hi
    omega
  · cases hi
theorem cutt_own (r : Rel K ca φ H μ) {n m : Nat} {b : Addr} (hm : n ≤ m) (hb : φ[m]? = some b) : Cutt n (some m) φ (φ.take n ++ [b]) := by
  have hl : (φ.take n).length = n := by
    have := (List.getElem?_eq_some_iff.mp hb).1
    rw [List.length_take]
    omega
  refine ⟨fun i hi => ?_, fun a h q => ?_, fun j a hj hx h q => ?_⟩
  · rw [List.getElem?_append_left (by omega), List.getElem?_take, if_pos hi]
  · rcases List.mem_append.mp q with q | q
    · exact h (List.mem_of_mem_take q)
    · rw [List.mem_singleton.mp q] at h
      exact h (List.mem_of_getElem? hb)
  · rcases List.mem_append.mp q with q | q
    · obtain ⟨i, hi⟩ := List.mem_iff_getElem?.mp q
      rw [List.getElem?_take] at hi
      split at hi
      · have e := nd_ix r.nd h hi
        omega
      · cases hi
    · rw [List.mem_singleton.mp q] at h
      exact hx (congrArg some (nd_ix r.nd hb h))
theorem frz_at (r : Rel K ca φ H μ) {v : V} {d d' : D} (h : At K ca φ H v d) (q : frz μ n d = some d') : At K ca (φ.take n) H v d' :=
  h.frzW (cutt_take r n) (frzN_at (cutt_take r n) r frzFuel) q

/-! ### what is wanted behind a piece -/
variable {Q : V → Hp → Prop} {E : Nat → List D → List Addr → Hp → Prop}
/-- from (φ, H): the end is a value, a place of the heap's way, or an exception -/
def PostG {α β : Type} (K : PySem.W.Frag) (ca : Nat → Addr) (rel : List Addr → Hp → β → α → Prop) (φ : List Addr) (H : Hp) (r : R α) (Q : β → Hp → Prop) (W : Value → Option Addr → Hp → Prop) : Prop :=
  match r with
  | .ok d μ' => ∀ φ' H' v, Ext φ H φ' H' → Rel K ca φ' H' μ' → rel φ' H' v d → Q v H'
  | .err c [] μ' => ∀ φ' H', Ext φ H φ' H' → Rel K ca φ' H' μ' → W (.ref (ca c)) none H'
  | .err _ (_ :: _) _ => False
  | .bad => False
abbrev Post (K : PySem.W.Frag) (ca : Nat → Addr) (φ : List Addr) (H : Hp) (r : R D) (Q : V → Hp → Prop) (W : Value → Option Addr → Hp → Prop) : Prop := PostG K ca (At K ca) φ H r Q W
section
variable {α β γ δ : Type} {rel : List Addr → Hp → β → α → Prop} {rel' : List Addr → Hp → δ → γ → Prop} {Q : β → Hp → Prop} {Q' : δ → Hp → Prop} {W : Value → Option Addr → Hp → Prop}
theorem PostG.ext {r : R α} (e : Ext φ H φ' H') (h : PostG K ca rel φ H r Q W) : PostG K ca rel φ' H' r Q W := by
  cases r with
  | ok d μ' => exact fun φ1 H1 v x y z => h φ1 H1 v (e.trans x) y z
  | err c xs μ' =>
    cases xs with
    | nil => exact fun φ1 H1 x y => h φ1 H1 (e.trans x) y
    | cons _ _ => exact h
  | bad => exact h
theorem PostG.mono {r : R α} {Q2 : β → Hp → Prop} (h : PostG K ca rel φ H r Q W) (k : ∀ b H1, Q b H1 → Q2 b H1) : PostG K ca rel φ H r Q2 W := by
  cases r with
  | ok d μ' => exact fun φ1 H1 v x y z => k _ _ (h φ1 H1 v x y z)
  | err c xs μ' =>
    cases xs with
    | nil => exact h
    | cons _ _ => exact h
  | bad => exact h
/-- what stands behind a part -/
def Nxt (K : PySem.W.Frag) (ca : Nat → Addr) (rel : List Addr → Hp → β → α → Prop) (rel' : List Addr → Hp → δ → γ → Prop) (φ : List Addr) (H : Hp) (k : α → Mem → R γ) (Q' : δ → Hp → Prop) (W : Value → Option Addr → Hp → Prop) (b : β) (H1 : Hp) : Prop :=
  ∃ φ1 μ1 a, Ext φ H φ1 H1 ∧ Rel K ca φ1 H1 μ1 ∧ rel φ1 H1 b a ∧ PostG K ca rel' φ1 H1 (k a μ1) Q' W
theorem PostG.bindI {r : R α} {k : α → Mem → R γ} (h : PostG K ca rel' φ H (r.bind k) Q' W) : PostG K ca rel φ H r (Nxt K ca rel rel' φ H k Q' W) W := by
  cases r with
  | ok d μ' => exact fun φ1 H1 v x y z => ⟨φ1, μ', d, x, y, z, PostG.ext x h⟩
  | err c xs μ' =>
    cases xs with
    | nil => exact h
    | cons _ _ => exact h
  | bad => exact h
/-- the same, from where it began -/
def Nxt0 (K : PySem.W.Frag) (ca : Nat → Addr) (rel : List Addr → Hp → β → α → Prop) (rel' : List Addr → Hp → δ → γ → Prop) (φ : List Addr) (H : Hp) (k : α → Mem → R γ) (Q' : δ → Hp → Prop) (W : Value → Option Addr → Hp → Prop) (b : β) (H1 : Hp) : Prop :=
  ∃ φ1 μ1 a, Ext φ H φ1 H1 ∧ Rel K ca φ1 H1 μ1 ∧ rel φ1 H1 b a ∧ PostG K ca rel' φ H (k a μ1) Q' W
theorem PostG.bind0 {r : R α} {k : α → Mem → R γ} (h : PostG K ca rel' φ H (r.bind k) Q' W) : PostG K ca rel φ H r (Nxt0 K ca rel rel' φ H k Q' W) W := by
  cases r with
  | ok d μ' => exact fun φ1 H1 v x y z => ⟨φ1, μ', d, x, y, z, h⟩
  | err c xs μ' =>
    cases xs with
    | nil => exact h
    | cons _ _ => exact h
  | bad => exact h
end
mutual
theorem At.closed : ∀ {v : V} {d : D}, At K ca φ H v d → closed φ.length d = true
  | _, _, .non => by unfold PI.closed; rfl
  | _, _, .bl b => by unfold PI.closed; rfl
  | _, _, .int i => by unfold PI.closed; rfl
  | _, _, .str s h => by unfold PI.closed; rfl
  | _, _, .tup r h => by unfold PI.closed; exact AtL.closed h
  | _, _, .fl r n h => by unfold PI.closed; exact AtL.closed h
  | _, _, .sl r h => by unfold PI.closed; exact AtL.closed h
  | _, _, .fd r n h => by unfold PI.closed; exact AtP.closed h
  | _, _, .fi r n h => by unfold PI.closed; exact AtF.closed h
  | _, _, .loc h => by unfold PI.closed; exact decide_eq_true (List.getElem?_eq_some_iff.mp h).1
theorem AtL.closed : ∀ {vs : List V} {ds : List D}, AtL K ca φ H vs ds → closedL φ.length ds = true
  | _, _, .nil => by unfold PI.closedL; rfl
  | _, _, .cons h t => by unfold PI.closedL; rw [At.closed h, AtL.closed t]; rfl
theorem AtP.closed : ∀ {vs : List (Key × V)} {ds : List (D × D)}, AtP K ca φ H vs ds → closedP φ.length ds = true
  | _, _, .nil => by unfold PI.closedP; rfl
  | _, _, .cons (k := k) s h t => by
    have e : PI.closed φ.length (keyToD k) = true := by cases k <;> (unfold keyToD PI.closed; rfl)
    unfold PI.closedP; rw [e, At.closed h, AtP.closed t]; rfl
theorem AtF.closed : ∀ {vs : List (Str × V)} {ds : List (Str × D)}, AtF K ca φ H vs ds → closedF φ.length ds = true
  | _, _, .nil => by unfold PI.closedF; rfl
  | _, _, .cons h t => by unfold PI.closedF; rw [At.closed h, AtF.closed t]; rfl
end
theorem ObRel.closed {a : Addr} {ob : Ob} (h : ObRel K ca φ H a ob) : closedO φ.length ob = true := by
  cases ob with
  | lst xs =>
    obtain ⟨vs, e, h⟩ := h
    exact h.closed
  | dct k kvs =>
    cases k with
    | k =>
      obtain ⟨vs, e, h⟩ := h
      exact h.closed
    | t =>
      obtain ⟨od, vs, e, h⟩ := h
      exact h.closed
  | ins cc fs =>
    obtain ⟨dx, vs, e, h⟩ := h
    exact h.closed
theorem Rel.trimOb (r0 : Rel K ca φ H μ) (t : Trim μ μ') (e : Ext φ H φ' H') (r' : Rel K ca φ' H' μ') (c : Cutt μ.length ex φ' ψ) {i : Nat} {ob : Ob} {a : Addr} (hi : i < μ.length) (h1 : μ'[i]? = some ob) (h2 : φ[i]? = some a) : ObRel K ca ψ H' a ob := by
  have ho := r'.ob i ob a h1 (e.get h2)
  refine ho.cut c ?_
  rcases t.2 i hi with z | ⟨ob', z, q⟩
  · rw [h1] at z
    have q := (r0.ob i ob a z.symm h2).closed
    rw [r0.len] at q
    exact q
  · rw [h1] at z
    cases z
    exact q
theorem Rel.trimmed (r0 : Rel K ca φ H μ) (t : Trim μ μ') (e : Ext φ H φ' H') (r' : Rel K ca φ' H' μ') : Rel K ca φ H' (μ'.take μ.length) := by
  have rl := r0.len
  have ht : φ'.take μ.length = φ := by rw [← rl]; exact e.take
  have hc := cutt_take r' μ.length
  rw [ht] at hc
  have hl := t.1
  refine ⟨by rw [List.length_take]; omega, ?_, fun i ob a h1 h2 => ?_⟩
  · have := r'.nd
    obtain ⟨ψ, rfl⟩ := e.pre
    exact (List.nodup_append.mp this).1
  · rw [List.getElem?_take] at h1
    split at h1
    · rename_i hi
      exact Rel.trimOb r0 t e r' hc hi h1 h2
    · cases h1
theorem Ext.cutl (e : Ext φ H φ' H') : Ext φ H φ H' := ⟨⟨⟨[], by simp⟩, e.kept, fun _ h => .inl h⟩, e.lk⟩
open Classical in
/-- what a call leaves, put in order -/
theorem Post.nrm {r : R D} {nm : Nm} {W : Value → Option Addr → Hp → Prop} (r0 : Rel K ca φ H μ) (h : Post K ca φ H (PI.nrm nm μ r) Q W) : Post K ca φ H r Q W := by
  have rl := r0.len
  cases r with
  | bad => unfold PI.nrm at h; exact h
  | ok d μ' =>
    cases nm with
    | any => unfold PI.nrm at h; exact h
    | val =>
      simp only [PI.nrm] at h
      split at h
      · rename_i t
        split at h
        · rename_i d' e1
          intro φ' H' v x y z
          have q := frz_at y z e1
          rw [← rl, x.take] at q
          exact h φ H' v x.cutl (Rel.trimmed r0 t x y) q
        · exact h.elim
      · exact h.elim
    | own =>
      simp only [PI.nrm] at h
      split at h
      · rename_i t
        split at h
        · rename_i m
          split at h
          · rename_i hm
            intro φ' H' v x y z
            have q := z.cut (n := φ.length) (ex := none) (cutt_take y φ.length) (by unfold PI.closed; rw [rl]; exact decide_eq_true hm)
            rw [x.take] at q
            exact h φ H' v x.cutl (Rel.trimmed r0 t x y) q
          · rename_i hm
            split at h
            · rename_i ob e1
              split at h
              · rename_i ob' e2
                intro φ' H' v x y z
                have hm' : μ.length ≤ m := Nat.le_of_not_lt hm
                have ht : φ'.take μ.length = φ := by rw [← rl]; exact x.take
                cases z with
                | loc hb =>
                  rename_i b
                  have c := cutt_own y hm' hb
                  rw [ht] at c
                  have hnb : b ∉ φ := by
                    have c2 := cutt_take y μ.length
                    rw [ht] at c2
                    exact c2.gone m b hm' (by simp) hb
                  have hbn : H b = none := (x.new b (List.mem_of_getElem? hb)).resolve_left hnb
                  have x2 : Ext φ H (φ ++ [b]) H' := ⟨⟨⟨[b], rfl⟩, x.kept, fun a q => (List.mem_append.mp q).elim .inl fun q => by rw [List.mem_singleton.mp q]; exact .inr hbn⟩, x.lk⟩
                  have fin : ObRel K ca (φ ++ [b]) H' b ob' := by
                    have ho := y.ob m ob b e1 hb
                    have fz := frzN_at c y frzFuel
                    cases ob with
                    | lst xs =>
                      obtain ⟨vs, e3, h3⟩ := ho
                      unfold frzTop at e2
                      obtain ⟨ys, e4, rfl⟩ := Option.map_eq_some_iff.mp e2
                      exact ⟨vs, e3, h3.frzL c fz e4⟩
                    | dct k kvs =>
                      cases k with
                      | k =>
                        obtain ⟨vs, e3, h3⟩ := ho
                        unfold frzTop at e2
                        obtain ⟨ys, e4, rfl⟩ := Option.map_eq_some_iff.mp e2
                        exact ⟨vs, e3, h3.frzP c fz e4⟩
                      | t =>
                        obtain ⟨od, vs, e3, h3⟩ := ho
                        unfold frzTop at e2
                        obtain ⟨ys, e4, rfl⟩ := Option.map_eq_some_iff.mp e2
                        exact ⟨od, vs, e3, h3.frzP c fz e4⟩
                    | ins cc fs =>
                      obtain ⟨dx, vs, e3, h3⟩ := ho
                      unfold frzTop at e2
                      obtain ⟨ys, e4, rfl⟩ := Option.map_eq_some_iff.mp e2
                      exact ⟨dx, vs, e3, h3.frzF c fz e4⟩
                  have rt := Rel.trimmed r0 t x y
                  have c3 : Cutt μ.length (some m) φ' (φ ++ [b]) := c
                  refine h (φ ++ [b]) H' _ x2 ⟨by rw [List.length_append, List.length_append, rt.len]; rfl, List.nodup_append.mpr ⟨rt.nd, by simp, fun a q a' q' => ?_⟩, fun i ob2 a i1 i2 => ?_⟩ (.loc ?_)
                  · rw [List.mem_singleton.mp q']
                    exact fun z => hnb (z ▸ q)
                  · by_cases hi : i < μ.length
                    · rw [List.getElem?_append_left (by rw [rt.len.symm]; omega), List.getElem?_take, if_pos hi] at i1
                      rw [List.getElem?_append_left (by omega)] at i2
                      exact Rel.trimOb r0 t x y c3 hi i1 i2
                    · have il : i = μ.length := by
                        have := (List.getElem?_eq_some_iff.mp i2).1
                        rw [List.length_append, List.length_singleton] at this
                        omega
                      have tl : (μ'.take μ.length).length = μ.length := by rw [← rt.len, rl]
                      subst il
                      rw [List.getElem?_append_right (by omega), tl, Nat.sub_self] at i1
                      rw [List.getElem?_append_right (by omega), rl, Nat.sub_self] at i2
                      cases i1
                      cases i2
                      exact fin
                  · rw [← rl]; simp
              · exact h.elim
            · exact h.elim
        · exact h.elim
      · exact h.elim
  | err cc xs μ' =>
    have go : ∀ (h : Post K ca φ H (if Trim μ μ' then (match frzL (frzN μ' μ.length none frzFuel) xs with
      | some ys => R.err cc ys (μ'.take μ.length)
      | none => .bad) else .bad) Q W), Post K ca φ H (R.err cc xs μ') Q W := by
      intro h
      split at h
      · rename_i t
        split at h
        · rename_i ys e1
          cases xs with
          | nil =>
            unfold frzL at e1
            cases e1
            exact fun φ' H' x y => h φ H' x.cutl (Rel.trimmed r0 t x y)
          | cons z zs =>
            unfold frzL at e1
            split at e1
            · cases e1
              exact h.elim
            · cases e1
        · exact h.elim
      · exact h.elim
    cases nm with
    | any => unfold PI.nrm at h; exact h
    | val => simp only [PI.nrm] at h; exact go h
    | own => simp only [PI.nrm] at h; exact go h
end
end PI

/-! the operations by values -/
namespace PI
open PySem L2
section
variable {K : PySem.W.Frag} {ca : Nat → Addr} {φ φ' : List Addr} {H H' : Hp} {μ μ' : Mem} {Q : V → Hp → Prop} {W : Value → Option Addr → Hp → Prop}
theorem ne_mem {l : List Addr} {a p : Addr} (h : p ∉ l) (m : a ∈ l) : a ≠ p := fun z => h (by rw [← z]; exact m)
theorem ne_mem' {l : List Addr} {a p : Addr} (h : p ∉ l) (m : a ∈ l) : p ≠ a := fun z => h (by rw [z]; exact m)
theorem PostG.val {d : D} {v : V} (h : Post K ca φ H (.ok d μ) Q W) (r : Rel K ca φ H μ) (a : At K ca φ H v d) : Q v H := h φ H v (Ext.refl φ H) r a
theorem ObRel.there {a : Addr} {ob : Ob} (h : ObRel K ca φ H a ob) : ∃ o, H a = some o := by
  cases ob with
  | lst xs => obtain ⟨vs, e, _⟩ := h; exact ⟨_, e⟩
  | dct k kvs =>
    cases k with
    | k => obtain ⟨vs, e, _⟩ := h; exact ⟨_, e⟩
    | t => obtain ⟨od, vs, e, _⟩ := h; exact ⟨_, e⟩
  | ins c fs => obtain ⟨dx, vs, e, _⟩ := h; exact ⟨_, e⟩
theorem Rel.there (r : Rel K ca φ H μ) {a : Addr} (h : a ∈ φ) : ∃ o, H a = some o := by
  obtain ⟨i, hi⟩ := List.mem_iff_getElem?.mp h
  have hl := (List.getElem?_eq_some_iff.mp hi).1
  rw [r.len] at hl
  exact (r.ob i _ a (List.getElem?_eq_getElem hl) hi).there
theorem Rel.fresh (r : Rel K ca φ H μ) {p : Addr} (h : H p = none) : p ∉ φ := fun m => by
  obtain ⟨o, e⟩ := r.there m
  rw [h] at e; cases e
theorem ObRel.ext0 {a : Addr} {ob : Ob} (e : Ext0 φ H φ' H') (k : H' a = H a) (h : ObRel K ca φ H a ob) : ObRel K ca φ' H' a ob := by
  cases ob with
  | lst xs => obtain ⟨vs, q, h⟩ := h; exact ⟨vs, k.trans q, h.ext0 e⟩
  | dct kk kvs =>
    cases kk with
    | k => obtain ⟨vs, q, h⟩ := h; exact ⟨vs, k.trans q, h.ext0 e⟩
    | t => obtain ⟨od, vs, q, h⟩ := h; exact ⟨od, vs, k.trans q, h.ext0 e⟩
  | ins c fs => obtain ⟨dx, vs, q, h⟩ := h; exact ⟨dx, vs, k.trans q, h.ext0 e⟩
theorem ObRel.ext {a : Addr} {ob : Ob} (e : Ext φ H φ' H') (k : H' a = H a) (h : ObRel K ca φ H a ob) : ObRel K ca φ' H' a ob := h.ext0 e.toExt0 k
theorem Rel.keep (r : Rel K ca φ H μ) (e : Ext φ H φ H') (k : ∀ a ∈ φ, H' a = H a) : Rel K ca φ H' μ :=
  ⟨r.len, r.nd, fun i ob a h1 h2 => (r.ob i ob a h1 h2).ext e (k a (List.mem_of_getElem? h2))⟩
theorem Ext.side {p : Addr} {o : HO} (h : H p = none) : Ext φ H φ (upd H p o) := ⟨⟨⟨[], by simp⟩, fun a u q _ => .inl (by rw [upd_ne (ne_of_none q h)]; exact q), fun _ q => .inl q⟩, fun a od u q => by rw [upd_ne (ne_of_none q h)]; exact q⟩
theorem Ext.add {p : Addr} {o : HO} (h : H p = none) : Ext φ H (φ ++ [p]) (upd H p o) :=
  ⟨⟨⟨[p], rfl⟩, fun a u q _ => .inl (by rw [upd_ne (ne_of_none q h)]; exact q), fun a q => (List.mem_append.mp q).elim .inl fun q => by rw [List.mem_singleton.mp q]; exact .inr h⟩, fun a od u q => by rw [upd_ne (ne_of_none q h)]; exact q⟩
theorem Rel.side {p : Addr} {o : HO} (r : Rel K ca φ H μ) (h : H p = none) : Rel K ca φ (upd H p o) μ :=
  r.keep (Ext.side h) fun a m => by rw [upd_ne (ne_mem (r.fresh h) m)]
theorem Rel.add {p : Addr} {o : HO} {ob : Ob} (r : Rel K ca φ H μ) (h : H p = none) (n : ObRel K ca (φ ++ [p]) (upd H p o) p ob) : Rel K ca (φ ++ [p]) (upd H p o) (μ ++ [ob]) := by
  have e : Ext φ H (φ ++ [p]) (upd H p o) := Ext.add h
  have nf := r.fresh h
  refine ⟨by rw [List.length_append, List.length_append, r.len]; rfl, List.nodup_append.mpr ⟨r.nd, by simp, fun a q b q' => ?_⟩, fun i ob2 a i1 i2 => ?_⟩
  · rw [List.mem_singleton.mp q']
    exact ne_mem nf q
  · by_cases hi : i < μ.length
    · rw [List.getElem?_append_left hi] at i1
      rw [List.getElem?_append_left (by rw [r.len]; exact hi)] at i2
      exact (r.ob i ob2 a i1 i2).ext e (upd_ne (ne_mem nf (List.mem_of_getElem? i2)))
    · have il : i = μ.length := by
        have := (List.getElem?_eq_some_iff.mp i2).1
        rw [List.length_append, List.length_singleton, r.len] at this
        omega
      subst il
      rw [List.getElem?_append_right (Nat.le_refl _), Nat.sub_self] at i1
      rw [List.getElem?_append_right (by rw [r.len]; exact Nat.le_refl _), r.len, Nat.sub_self] at i2
      cases i1
      cases i2
      exact n
theorem newL_post {xs : List D} {vs : List V} {p : Addr} (h : Post K ca φ H (newL μ xs) Q W) (r : Rel K ca φ H μ) (a : AtL K ca φ H vs xs) (hp : H p = none) : Q (.ref p) (upd H p (.lst vs)) := by
  have e : Ext φ H (φ ++ [p]) (upd H p (.lst vs)) := Ext.add hp
  exact h (φ ++ [p]) _ _ e (r.add hp ⟨vs, upd_same, a.ext e⟩) (.loc (by rw [← r.len]; simp))
theorem tup_post {xs : List D} {vs : List V} {p : Addr} (h : Post K ca φ H (.ok (.tup xs) μ) Q W) (r : Rel K ca φ H μ) (a : AtL K ca φ H vs xs) (hp : H p = none) : Q (.ref p) (upd H p (.tup vs)) := by
  have e : Ext φ H φ (upd H p (.tup vs)) := Ext.side hp
  exact h φ _ _ e (r.side hp) (.tup (.inl ⟨upd_same, r.fresh hp⟩) (a.ext e))
theorem Ext0.upAt {a : Addr} {o : HO} (ma : a ∈ φ) : Ext0 φ H φ (upd H a o) := ⟨⟨[], by simp⟩, fun b u q nb => .inl (by rw [upd_ne (ne_mem' nb ma)]; exact q), fun _ q => .inl q⟩
theorem Ext.upAt {a : Addr} {o : HO} (ma : a ∈ φ) (nl : ∀ od u, H a ≠ some (.frz od u)) : Ext φ H φ (upd H a o) := ⟨Ext0.upAt ma, fun b od u q => by rw [upd_ne (fun z => nl od u (by rw [← z]; exact q))]; exact q⟩
theorem nofrz {a : Addr} {o : HO} (h : H a = some o) (n : ∀ od u, o ≠ .frz od u) : ∀ od u, H a ≠ some (.frz od u) := fun od u z => by rw [h] at z; exact n od u (Option.some.inj z)
/-- a place changed -/
theorem Rel.set {m : Nat} {a : Addr} {o : HO} {ob : Ob} (r : Rel K ca φ H μ) (hm : φ[m]? = some a) (n : ObRel K ca φ (upd H a o) a ob) : Rel K ca φ (upd H a o) (μ.set m ob) := by
  have ma : a ∈ φ := List.mem_of_getElem? hm
  refine ⟨by rw [List.length_set]; exact r.len, r.nd, fun i ob2 b i1 i2 => ?_⟩
  by_cases hi : i = m
  · subst hi
    rw [hm] at i2
    cases i2
    rw [List.getElem?_set_self (by rw [← r.len]; exact (List.getElem?_eq_some_iff.mp hm).1)] at i1
    cases i1
    exact n
  · rw [List.getElem?_set_ne (fun z => hi z.symm)] at i1
    have nb : b ≠ a := fun z => hi (nd_ix r.nd (by rw [← z]; exact i2) hm)
    exact (r.ob i ob2 b i1 i2).ext0 (Ext0.upAt ma) (upd_ne nb)

/-! ### what a value reads as -/
theorem RT.sq {a : Addr} {vs : List V} (h : RT K φ H a vs) : SqT K H a vs := h.elim (fun q => .inl (.inl q.1)) .inr
theorem RL.sq {a : Addr} {vs : List V} (h : RL K φ H a vs) : SqL K H a vs := h.elim (fun q => .inl q.1) .inr
theorem seqOf_at (r : Rel K ca φ H μ) {v : V} {d : D} {xs : List D} (h : At K ca φ H v d) (e : seqOf μ d = some xs) : ∃ a vs, v = .ref a ∧ (SqL K H a vs ∨ SqT K H a vs) ∧ AtL K ca φ H vs xs := by
  cases h with
  | tup q t => unfold seqOf at e; cases e; exact ⟨_, _, rfl, .inr q.sq, t⟩
  | fl q n t => unfold seqOf at e; cases e; exact ⟨_, _, rfl, .inl (SqL.of q), t⟩
  | sl q t => unfold seqOf at e; cases e; exact ⟨_, _, rfl, .inl q.sq, t⟩
  | loc hm =>
    simp only [seqOf] at e
    split at e
    · rename_i ys em
      cases e
      obtain ⟨vs, q, t⟩ := r.ob _ _ _ em hm
      exact ⟨_, _, rfl, .inl (SqL.of q), t⟩
    · cases e
  | _ => unfold seqOf at e; cases e
theorem lstOf_at (r : Rel K ca φ H μ) {v : V} {d : D} {xs : List D} (h : At K ca φ H v d) (e : lstOf μ d = some xs) : ∃ a vs, v = .ref a ∧ H a = some (.lst vs) ∧ AtL K ca φ H vs xs := by
  cases h with
  | fl q n t => unfold lstOf at e; cases e; exact ⟨_, _, rfl, q, t⟩
  | loc hm =>
    simp only [lstOf] at e
    split at e
    · rename_i ys em
      cases e
      obtain ⟨vs, q, t⟩ := r.ob _ _ _ em hm
      exact ⟨_, _, rfl, q, t⟩
    · cases e
  | _ => unfold lstOf at e; cases e
theorem dctOf_at (r : Rel K ca φ H μ) {v : V} {d : D} {k : DK} {xs : List (D × D)} (h : At K ca φ H v d) (e : dctOf μ d = some (k, xs)) : ∃ a ks, v = .ref a ∧ Rd H a (.dK ks) ∧ AtP K ca φ H ks xs := by
  cases h with
  | fd q n t => unfold dctOf at e; cases e; exact ⟨_, _, rfl, q, t⟩
  | loc hm =>
    simp only [dctOf] at e
    split at e
    · rename_i kk ys em
      cases e
      have ho := r.ob _ _ _ em hm
      cases k with
      | k =>
        obtain ⟨vs, q, t⟩ := ho
        exact ⟨_, _, rfl, .inl q, t⟩
      | t =>
        obtain ⟨od, vs, q, t⟩ := ho
        exact ⟨_, _, rfl, .inr ⟨od, q⟩, t⟩
    · cases e
  | _ => unfold dctOf at e; cases e
theorem AtL.length : ∀ {vs : List V} {ds : List D}, AtL K ca φ H vs ds → vs.length = ds.length
  | _, _, .nil => rfl
  | _, _, .cons _ t => by rw [List.length_cons, List.length_cons, AtL.length t]
theorem AtL.append : ∀ {vs ws : List V} {ds es : List D}, AtL K ca φ H vs ds → AtL K ca φ H ws es → AtL K ca φ H (vs ++ ws) (ds ++ es)
  | _, _, _, _, .nil, h => h
  | _, _, _, _, .cons a t, h => .cons a (AtL.append t h)
theorem AtL.get : ∀ {vs : List V} {ds : List D} {i : Nat} {d : D}, AtL K ca φ H vs ds → ds[i]? = some d → ∃ v, vs[i]? = some v ∧ At K ca φ H v d
  | _, _, _, _, .nil, e => by simp at e
  | _, _, 0, _, .cons a t, e => by simp at e; subst e; exact ⟨_, rfl, a⟩
  | _, _, i + 1, d, .cons a t, e => by
    obtain ⟨v, h1, h2⟩ := AtL.get (i := i) (d := d) t (by simpa using e)
    exact ⟨v, by simpa using h1, h2⟩
theorem AtL.drop : ∀ {vs : List V} {ds : List D} (n : Nat), AtL K ca φ H vs ds → AtL K ca φ H (vs.drop n) (ds.drop n)
  | _, _, 0, h => h
  | _, _, _ + 1, .nil => .nil
  | _, _, n + 1, .cons _ t => AtL.drop n t
theorem AtL.take : ∀ {vs : List V} {ds : List D} (n : Nat), AtL K ca φ H vs ds → AtL K ca φ H (vs.take n) (ds.take n)
  | _, _, 0, _ => .nil
  | _, _, _ + 1, .nil => .nil
  | _, _, n + 1, .cons a t => .cons a (AtL.take n t)
theorem AtL.set {x : V} {d : D} (h : At K ca φ H x d) : ∀ {vs : List V} {ds : List D} (i : Nat), AtL K ca φ H vs ds → AtL K ca φ H (vs.set i x) (ds.set i d)
  | _, _, _, .nil => .nil
  | _, _, 0, .cons _ t => .cons h t
  | _, _, i + 1, .cons a t => .cons a (AtL.set h i t)
theorem AtL.rev : ∀ {vs : List V} {ds : List D}, AtL K ca φ H vs ds → AtL K ca φ H vs.reverse ds.reverse
  | _, _, .nil => .nil
  | _, _, .cons a t => by rw [List.reverse_cons, List.reverse_cons]; exact (AtL.rev t).append (.cons a .nil)
theorem AtL.dropLast : ∀ {vs : List V} {ds : List D}, AtL K ca φ H vs ds → AtL K ca φ H vs.dropLast ds.dropLast := fun {vs ds} h => by
  rw [List.dropLast_eq_take, List.dropLast_eq_take, h.length]
  exact h.take _
theorem AtL.rep {vs : List V} {ds : List D} (h : AtL K ca φ H vs ds) : ∀ k : Nat, AtL K ca φ H (List.replicate k vs).flatten (List.replicate k ds).flatten
  | 0 => .nil
  | k + 1 => by
    rw [List.replicate_succ, List.replicate_succ, List.flatten_cons, List.flatten_cons]
    exact h.append (AtL.rep h k)
end
end PI

/-! ==, in, operators, subscripts -/
namespace PI
open PySem L2
section
variable {K : PySem.W.Frag} {ca : Nat → Addr} {φ φ' : List Addr} {H H' : Hp} {μ μ' : Mem} {Q : V → Hp → Prop} {W : Value → Option Addr → Hp → Prop}
mutual
theorem At.pyW {g : Nat → Option PyData} (hg : ∀ m a p, φ[m]? = some a → g m = some p → Dp K H (.ref a) p ∧ p.canLay0 = true) : ∀ {v : V} {d : D} {p : PyData}, At K ca φ H v d → pyW g d = some p → Dp K H v p ∧ p.canLay0 = true
  | _, _, _, .non, q => by unfold PI.pyW at q; cases q; exact ⟨.non, rfl⟩
  | _, _, _, .bl b, q => by unfold PI.pyW at q; cases q; exact ⟨.bl b, rfl⟩
  | _, _, _, .int b, q => by unfold PI.pyW at q; cases q; exact ⟨.int b, rfl⟩
  | _, _, _, .str b h, q => by unfold PI.pyW at q; cases q; exact ⟨.str b, h⟩
  | _, _, _, .tup r h, q => by
    unfold PI.pyW at q
    obtain ⟨ys, e, rfl⟩ := Option.map_eq_some_iff.mp q
    have z := AtL.pyL hg h e
    exact ⟨.tup r.sq z.1, z.2⟩
  | _, _, _, .fl r m h, q => by
    unfold PI.pyW at q
    obtain ⟨ys, e, rfl⟩ := Option.map_eq_some_iff.mp q
    have z := AtL.pyL hg h e
    exact ⟨.lst (SqL.of r) z.1, z.2⟩
  | _, _, _, .sl r h, q => by
    unfold PI.pyW at q
    obtain ⟨ys, e, rfl⟩ := Option.map_eq_some_iff.mp q
    have z := AtL.pyL hg h e
    exact ⟨.lst r.sq z.1, z.2⟩
  | _, _, _, .fd r m h, q => by unfold PI.pyW at q; cases q
  | _, _, _, .fi r m h, q => by unfold PI.pyW at q; cases q
  | _, _, _, .loc h, q => by
    unfold PI.pyW at q
    exact hg _ _ _ h q
theorem AtL.pyL {g : Nat → Option PyData} (hg : ∀ m a p, φ[m]? = some a → g m = some p → Dp K H (.ref a) p ∧ p.canLay0 = true) : ∀ {vs : List V} {ds : List D} {ps : List PyData}, AtL K ca φ H vs ds → pyL g ds = some ps → DpAll K H vs ps ∧ PyData.canLayAll0 ps = true
  | _, _, _, .nil, q => by unfold PI.pyL at q; cases q; exact ⟨.nil, rfl⟩
  | _, _, _, .cons h t, q => by
    unfold PI.pyL at q
    split at q
    · rename_i y ys e1 e2
      cases q
      have z1 := At.pyW hg h e1
      have z2 := AtL.pyL hg t e2
      exact ⟨.cons z1.1 z2.1, by unfold PyData.canLayAll0; rw [z1.2, z2.2]; rfl⟩
    · cases q
end
theorem pyN_at (r : Rel K ca φ H μ) : ∀ (f m : Nat) (a : Addr) (p : PyData), φ[m]? = some a → pyN μ f m = some p → Dp K H (.ref a) p ∧ p.canLay0 = true
  | 0, _, _, _, _, q => by unfold pyN at q; cases q
  | f + 1, m, a, p, h, q => by
    unfold pyN at q
    split at q
    · rename_i xs e
      obtain ⟨ys, e2, rfl⟩ := Option.map_eq_some_iff.mp q
      obtain ⟨vs, e1, h1⟩ := r.ob m _ a e h
      have z := h1.pyL (pyN_at r f) e2
      exact ⟨.lst (SqL.of e1) z.1, z.2⟩
    · cases q
theorem py_at (r : Rel K ca φ H μ) {v : V} {d : D} {p : PyData} (h : At K ca φ H v d) (q : py μ d = some p) : Dp K H v p ∧ p.canLay0 = true := h.pyW (pyN_at r 8) q
theorem flat_py {d : D} (h : flat d = true) : ∃ p, py μ d = some p ∧ p.depth ≤ 1 := by
  cases d with
  | non => exact ⟨_, rfl, by simp [PyData.depth]⟩
  | bl b => exact ⟨_, rfl, by simp [PyData.depth]⟩
  | int b => exact ⟨_, rfl, by simp [PyData.depth]⟩
  | str b => exact ⟨_, rfl, by simp [PyData.depth]⟩
  | _ => exact absurd h (by simp [flat])
theorem eqF_py {a b : D} {p q : PyData} (ha : flat a = true) (hb : flat b = true) (e1 : py μ a = some p) (e2 : py μ b = some q) : eqF a b = p.eqv q := by
  cases a with
  | non | bl _ | int _ | str _ =>
    cases b with
    | non | bl _ | int _ | str _ => unfold py pyW at e1 e2; cases e1; cases e2; rfl
    | _ => simp [flat] at hb
  | _ => simp [flat] at ha
end
section
variable {X : Cx} {ca : Nat → Addr}
/-- a two-place operation of the language, by values -/
def rA (X : Cx) (ca : Nat → Addr) (f : D → D → Mem → R D) : R2 := fun x y H Q => ∃ φ μ a b W, Rel X.K ca φ H μ ∧ At X.K ca φ H x a ∧ At X.K ca φ H y b ∧ Post X.K ca φ H (f a b μ) Q W
theorem cl_lim {k : Nat} (h : k ≤ eqDeep) {A : Around} (hu : A.units + 170 < cLine) : A.units + k < cLine := by
  have : eqDeep = 150 := rfl
  omega
theorem eq_reads (hu : X.A.units + 170 < cLine) {f : D → D → Mem → R D} (neg : Bool) (hf : ∀ a b μ, f a b μ = if flat a && flat b then .ok (.bl (if neg then !eqF a b else eqF a b)) μ else (match eqM μ a b with
    | some c => .ok (.bl (if neg then !c else c)) μ
    | none => .bad)) : OpR X (compareOp (if neg then .NotEq else .Eq)) (rA X ca f) := by
  intro pins s σ H x y v u Q I rx ry h
  obtain ⟨φ, μ, a, b, W, r, ha, hb, q⟩ := h
  rw [hf] at q
  have go : ∀ (p p' : PyData), py μ a = some p → py μ b = some p' → min p.depth p'.depth ≤ eqDeep → Q (.bl (if neg then !p.eqv p' else p.eqv p')) H → wpAny (model X.prog X.w) X.A (compareOp (if neg then .NotEq else .Eq) v u) (EP X pins σ Q) X.xe s := by
    intro p p' e1 e2 hd q
    obtain ⟨d1, c1⟩ := py_at r ha e1
    obtain ⟨d2, c2⟩ := py_at r hb e2
    obtain ⟨as, r1⟩ := Dp.reads I p x v d1 rx
    obtain ⟨bs, r2⟩ := Dp.reads I p' y u d2 ry
    cases neg with
    | true => exact SeqAt.compareNe_reads r1 r2 c1 c2 (cl_lim hd hu) ⟨.bl _, H, I, rfl, q⟩
    | false => exact SeqAt.compareEq_reads r1 r2 c1 c2 (cl_lim hd hu) ⟨.bl _, H, I, rfl, q⟩
  split at q
  · rename_i hfl
    rw [Bool.and_eq_true] at hfl
    obtain ⟨p, e1, z1⟩ := flat_py (μ := μ) hfl.1
    obtain ⟨p', e2, z2⟩ := flat_py (μ := μ) hfl.2
    refine go p p' e1 e2 (by have : eqDeep = 150 := rfl; omega) ?_
    rw [← eqF_py hfl.1 hfl.2 e1 e2]
    exact q.val r (.bl _)
  · split at q
    · rename_i c e
      unfold eqM at e
      split at e
      · rename_i p p' e1 e2
        split at e
        · rename_i hd
          cases e
          exact go p p' e1 e2 hd (q.val r (.bl _))
        · cases e
      · cases e
    · exact q.elim
theorem cmp_eq (hu : X.A.units + 170 < cLine) : OpR X (compareOp .Eq) (rA X ca (evCmp .eq)) := eq_reads (neg := false) hu fun a b μ => by
  unfold evCmp
  rfl
theorem cmp_ne (hu : X.A.units + 170 < cLine) : OpR X (compareOp .NotEq) (rA X ca (evCmp .ne)) := eq_reads (neg := true) hu fun a b μ => by
  unfold evCmp
  rfl
theorem cmp_lt : OpR X (compareOp .Lt) (rA X ca (evCmp .lt)) := by
  intro pins s σ H x y v u Q I rx ry h
  obtain ⟨φ, μ, a, b, W, r, ha, hb, q⟩ := h
  unfold evCmp at q
  simp only at q
  split at q
  · cases ha; cases hb
    exact op_lt pins s σ H _ _ v u Q I rx ry ⟨_, _, rfl, rfl, q.val r (.bl _)⟩
  · cases ha; cases hb
    exact op_lt_str pins s σ H _ _ v u Q I rx ry ⟨_, _, rfl, rfl, q.val r (.bl _)⟩
  · exact q.elim
theorem cmp_gt : OpR X (compareOp .Gt) (rA X ca (evCmp .gt)) := by
  intro pins s σ H x y v u Q I rx ry h
  obtain ⟨φ, μ, a, b, W, r, ha, hb, q⟩ := h
  unfold evCmp at q
  simp only at q
  split at q
  · cases ha; cases hb
    exact op_gt pins s σ H _ _ v u Q I rx ry ⟨_, _, rfl, rfl, q.val r (.bl _)⟩
  · exact q.elim
theorem cmp_le : OpR X (compareOp .LtE) (rA X ca (evCmp .le)) := by
  intro pins s σ H x y v u Q I rx ry h
  obtain ⟨φ, μ, a, b, W, r, ha, hb, q⟩ := h
  unfold evCmp at q
  simp only at q
  split at q
  · cases ha; cases hb
    exact op_le pins s σ H _ _ v u Q I rx ry ⟨_, _, rfl, rfl, q.val r (.bl _)⟩
  · exact q.elim
theorem cmp_ge : OpR X (compareOp .GtE) (rA X ca (evCmp .ge)) := by
  intro pins s σ H x y v u Q I rx ry h
  obtain ⟨φ, μ, a, b, W, r, ha, hb, q⟩ := h
  unfold evCmp at q
  simp only at q
  split at q
  · cases ha; cases hb
    exact op_ge pins s σ H _ _ v u Q I rx ry ⟨_, _, rfl, rfl, q.val r (.bl _)⟩
  · exact q.elim
end
end PI

/-! in, operators, subscripts, slices, truth -/
namespace PI
open PySem L2
section
variable {K : PySem.W.Frag} {ca : Nat → Addr} {φ φ' : List Addr} {H H' : Hp} {μ μ' : Mem} {Q : V → Hp → Prop} {W : Value → Option Addr → Hp → Prop}
theorem flat_at {v : V} {d : D} (h : At K ca φ H v d) (f : flat d = true) : flatV v = true := by
  cases h with
  | non | bl _ | int _ | str _ _ => rfl
  | _ => simp [flat] at f
theorem flats_at : ∀ {vs : List V} {ds : List D}, AtL K ca φ H vs ds → ds.all flat = true → vs.all flatV = true
  | _, _, .nil, _ => rfl
  | _, _, .cons h t, f => by
    rw [List.all_cons, Bool.and_eq_true] at f ⊢
    exact ⟨flat_at h f.1, flats_at t f.2⟩
theorem eqV_at {v w : V} {d e : D} (h : At K ca φ H v d) (h' : At K ca φ H w e) (f : flat d = true) (f' : flat e = true) : eqV v w = eqF d e := by
  cases h with
  | non | bl _ | int _ | str _ _ =>
    cases h' with
    | non | bl _ | int _ | str _ _ => rfl
    | _ => simp [flat] at f'
  | _ => simp [flat] at f
theorem inV_at {w : V} {e : D} (h' : At K ca φ H w e) (f' : flat e = true) : ∀ {vs : List V} {ds : List D}, AtL K ca φ H vs ds → ds.all flat = true → (vs.any fun y => eqV y w) = ds.any fun x => eqF x e
  | _, _, .nil, _ => rfl
  | _, _, .cons h t, f => by
    rw [List.all_cons, Bool.and_eq_true] at f
    rw [List.any_cons, List.any_cons, eqV_at h h' f.1 f', inV_at h' f' t f.2]
theorem keyD_at {v : V} {d : D} (h : At K ca φ H v d) (f : keyD d = true) : ∃ k : Key, v = kV k ∧ d = keyToD k ∧ ∀ s, k = .inr s → sOk s := by
  cases h with
  | int i => exact ⟨.inl i, rfl, rfl, fun _ z => nomatch z⟩
  | str s hs => exact ⟨.inr s, rfl, rfl, fun _ z => by cases z; exact hs⟩
  | _ => simp [keyD] at f
theorem eqF_key (k j : Key) : eqF (keyToD k) (keyToD j) = decide (k = j) := by
  cases k with
  | inl a =>
    cases j with
    | inl b => rw [key_ll]; rfl
    | inr b => rw [key_lr]; rfl
  | inr a =>
    cases j with
    | inl b => rw [key_rl]; rfl
    | inr b =>
      rw [key_rr]
      show (a == b) = _
      by_cases e : a = b <;> simp [e]
theorem look_at (k : Key) : ∀ {ks : List (Key × V)} {ds : List (D × D)}, AtP K ca φ H ks ds → ((ds.any fun p => eqF p.1 (keyToD k)) = (valV ks k).isSome) ∧ ∀ d, look ds (keyToD k) = some d → ∃ v, valV ks k = some v ∧ At K ca φ H v d
  | _, _, .nil => ⟨rfl, fun _ e => by unfold look at e; cases e⟩
  | _, _, .cons (k := j) (v := v) s h t => by
    have ih := look_at k t
    by_cases e : j = k
    · subst e
      rw [valV_pos rfl, List.any_cons, eqF_key, decide_eq_true rfl]
      refine ⟨rfl, fun d q => ⟨v, rfl, ?_⟩⟩
      unfold look at q
      rw [List.find?_cons_of_pos (by show eqF (keyToD j) (keyToD j) = true; rw [eqF_key]; exact decide_eq_true rfl)] at q
      cases q
      exact h
    · rw [valV_neg e, List.any_cons, eqF_key, decide_eq_false e, Bool.false_or]
      refine ⟨ih.1, fun d q => ih.2 d ?_⟩
      unfold look at q ⊢
      rw [List.find?_cons_of_neg (by show ¬ eqF (keyToD j) (keyToD k) = true; rw [eqF_key, decide_eq_false e]; exact Bool.false_ne_true)] at q
      exact q
end
section
variable {X : Cx} {ca : Nat → Addr}
theorem in_reads (hu : X.A.units + 170 < cLine) (neg : Bool) : OpR X (compareOp (if neg then .NotIn else .In)) (rA X ca fun a b μ => match evIn a b μ with
    | some c => .ok (.bl (if neg then !c else c)) μ
    | none => .bad) := by
  intro pins s σ H x y v u Q I rx ry h
  obtain ⟨φ, μ, a, b, W, r, ha, hb, q⟩ := h
  have hu1 : X.A.units + 1 < cLine := by omega
  dsimp only at q
  split at q
  · rename_i c e
    have q := q.val r (.bl _)
    have seq : ∀ xs, seqOf μ b = some xs → inSeq μ a xs = some c → wpAny (model X.prog X.w) X.A (compareOp (if neg then .NotIn else .In) v u) (EP X pins σ Q) X.xe s := by
      intro xs e1 e2
      unfold inSeq at e2
      split at e2
      · rename_i f
        rw [Bool.and_eq_true] at f
        cases e2
        obtain ⟨p, vs, rfl, hs, ht⟩ := seqOf_at r hb e1
        have hq : (if neg then !inV x vs else inV x vs) = if neg then !(xs.any fun z => eqF z a) else xs.any fun z => eqF z a := by
          unfold inV
          rw [inV_at ha f.1 ht f.2]
        cases neg with
        | true => exact op_notIn_seq pins s σ H x _ v u Q I rx ry ⟨p, vs, rfl, hs, flat_at ha f.1, flats_at ht f.2, by rw [show (if true = true then !inV x vs else inV x vs) = _ from hq]; exact q⟩
        | false => exact op_in_seq pins s σ H x _ v u Q I rx ry ⟨p, vs, rfl, hs, flat_at ha f.1, flats_at ht f.2, by rw [show (if false = true then !inV x vs else inV x vs) = _ from hq]; exact q⟩
      · split at e2
        · rename_i p ys e3 e4
          split at e2
          · rename_i hd
            cases e2
            obtain ⟨d1, c1⟩ := py_at r ha e3
            obtain ⟨as, r1⟩ := Dp.reads I p x v d1 rx
            have hu2 : X.A.units + 1 + min (PyData.depthAll ys) p.depth < cLine := by
              have : eqDeep = 150 := rfl
              omega
            obtain ⟨pa, vs, rfl, hs, ht⟩ := seqOf_at r hb e1
            obtain ⟨d2, c2⟩ := ht.pyL (pyN_at r 8) e4
            rcases hs with hs | hs
            · obtain ⟨bs, r2⟩ := Dp.reads I (.list ys) _ u (.lst hs d2) ry
              cases neg with
              | true => exact SeqAt.notIn_list_reads r2 r1 c2 c1 hu2 ⟨.bl _, H, I, rfl, q⟩
              | false => exact SeqAt.in_list_reads r2 r1 c2 c1 hu2 ⟨.bl _, H, I, rfl, q⟩
            · obtain ⟨bs, r2⟩ := Dp.reads I (.tuple ys) _ u (.tup hs d2) ry
              cases neg with
              | true => exact SeqAt.notIn_tuple_reads r2 r1 c2 c1 hu2 ⟨.bl _, H, I, rfl, q⟩
              | false => exact SeqAt.in_tuple_reads r2 r1 c2 c1 hu2 ⟨.bl _, H, I, rfl, q⟩
          · cases e2
        · cases e2
    unfold evIn at e
    split at e
    · rename_i z
      split at e
      · rename_i sg
        split at e
        · rename_i c1 ec
          cases e
          cases ha
          cases hb
          have es : sg = ⟨#[c1]⟩ := by
            cases sg with
            | mk cps =>
              have : cps = #[c1] := by
                rw [← Array.toList_inj]
                exact ec
              rw [this]
          subst es
          cases neg with
          | true => exact op_notIn_sign pins s σ H _ _ v u Q I rx ry ⟨_, _, rfl, rfl, q⟩
          | false => exact op_in_sign pins s σ H _ _ v u Q I rx ry ⟨_, _, rfl, rfl, q⟩
        · cases e
      · cases e
    · split at e
      · rename_i _ kvs ed
        split at e
        · rename_i hk
          cases e
          obtain ⟨p, ks, rfl, hd, ht⟩ := dctOf_at r hb ed
          obtain ⟨k, rfl, rfl, _⟩ := keyD_at ha hk
          rw [(look_at k ht).1] at q
          cases (show u = Value.ref p from ry)
          cases neg with
          | true => exact d_notIn (o := valV ks k) hu1 I (.inl ⟨ks, k, hd, rfl, rfl⟩) rx fun s' I' => ⟨.bl _, H, I', rfl, q⟩
          | false => exact d_in (o := valV ks k) hu1 I (.inl ⟨ks, k, hd, rfl, rfl⟩) rx fun s' I' => ⟨.bl _, H, I', rfl, q⟩
        · cases e
      · split at e
        · rename_i xs e1
          exact seq xs e1 e
        · cases e
  · exact (show False from q).elim
theorem cmp_in (hu : X.A.units + 170 < cLine) : OpR X (compareOp .In) (rA X ca (evCmp .in_)) := in_reads (neg := false) hu
theorem cmp_nin (hu : X.A.units + 170 < cLine) : OpR X (compareOp .NotIn) (rA X ca (evCmp .nin)) := in_reads (neg := true) hu
def cmpOp : Cmp → CmpOp
  | .eq => .Eq
  | .ne => .NotEq
  | .lt => .Lt
  | .le => .LtE
  | .gt => .Gt
  | .ge => .GtE
  | .in_ => .In
  | .nin => .NotIn
theorem cmp_ok (hu : X.A.units + 170 < cLine) : ∀ o : Cmp, OpR X (compareOp (cmpOp o)) (rA X ca (evCmp o))
  | .eq => cmp_eq hu
  | .ne => cmp_ne hu
  | .lt => cmp_lt
  | .le => cmp_le
  | .gt => cmp_gt
  | .ge => cmp_ge
  | .in_ => cmp_in hu
  | .nin => cmp_nin hu
/-! ### + - * // % ** -/
theorem lim_line : lim = sizeLine := rfl
theorem sOk_append {s t : Str} (h : sOk s) (h' : sOk t) : sOk (s ++ t) := by
  show (s.cps ++ t.cps).all (· < 0x110000) = true
  rw [Array.all_append]
  rw [show s.cps.all (· < 0x110000) = true from h, show t.cps.all (· < 0x110000) = true from h']
  rfl
theorem AtL.nil_iff {K : PySem.W.Frag} {φ : List Addr} {H : Hp} {vs : List V} {ds : List D} (h : AtL K ca φ H vs ds) : vs = [] ↔ ds = [] := by
  cases h with
  | nil => simp
  | cons _ _ => simp
def binOp : Bin → Operator
  | .add => .Add
  | .sub => .Sub
  | .mul => .Mult
  | .div => .FloorDiv
  | .mod => .Mod
  | .pow => .Pow
theorem b64 {i : Int} (h : B64 i = true) : -(2 ^ 64) < i ∧ i < 2 ^ 64 := by
  unfold B64 at h
  rw [Bool.and_eq_true] at h
  exact ⟨of_decide_eq_true h.1, of_decide_eq_true h.2⟩
theorem bin_ok : ∀ o : Bin, OpR X (binaryOp (binOp o)) (rA X ca (evBin o)) := by
  intro o pins s σ H x y v u Q I rx ry h
  obtain ⟨φ, μ, a, b, W, r, ha, hb, q⟩ := h
  unfold evBin at q
  split at q
  · cases ha; cases hb
    exact op_add pins s σ H _ _ v u Q I rx ry ⟨_, _, rfl, rfl, q.val r (.int _)⟩
  · cases ha; cases hb
    exact op_sub pins s σ H _ _ v u Q I rx ry ⟨_, _, rfl, rfl, q.val r (.int _)⟩
  · split at q
    · rename_i c
      cases ha; cases hb
      rw [Bool.or_eq_true] at c
      exact op_mul pins s σ H _ _ v u Q I rx ry ⟨_, _, rfl, rfl, c.imp b64 b64, q.val r (.int _)⟩
    · exact q.elim
  · split at q
    · rename_i c
      cases ha; cases hb
      exact op_fdiv pins s σ H _ _ v u Q I rx ry ⟨_, _, rfl, rfl, c, q.val r (.int _)⟩
    · exact q.elim
  · split at q
    · rename_i c
      cases ha; cases hb
      exact op_mod pins s σ H _ _ v u Q I rx ry ⟨_, _, rfl, rfl, c, q.val r (.int _)⟩
    · exact q.elim
  · split at q
    · rename_i c
      cases ha; cases hb
      exact op_pow pins s σ H _ _ v u Q I rx ry ⟨_, _, rfl, rfl, c, q.val r (.int _)⟩
    · exact q.elim
  · split at q
    · rename_i c
      cases ha with
      | str _ h1 =>
        cases hb with
        | str _ h2 => exact op_add_str pins s σ H _ _ v u Q I rx ry ⟨_, _, rfl, rfl, c, q.val r (.str _ (sOk_append h1 h2))⟩
    · exact q.elim
  · split at q
    · rename_i xs ys c
      cases ha with
      | tup h1 t1 =>
        cases hb with
        | tup h2 t2 =>
          refine op_catA pins s σ H _ _ v u Q I rx ry ⟨_, _, _, _, rfl, rfl, h1.sq, h2.sq, by rw [t1.length, t2.length]; exact c, fun e => ?_, fun e e' => ?_, fun _ _ p hp => tup_post q r (t1.append t2) hp⟩
          · have e1 := t1.nil_iff.mp e
            subst e1
            exact q.val r (.tup h2 t2)
          · have e1 := t2.nil_iff.mp e'
            subst e1
            rw [List.append_nil] at q
            exact q.val r (.tup h1 t1)
    · exact q.elim
  · split at q
    · rename_i xs ys e1 e2
      split at q
      · rename_i c
        obtain ⟨p1, vs, rfl, h1, t1⟩ := lstOf_at r ha e1
        obtain ⟨p2, ws, rfl, h2, t2⟩ := lstOf_at r hb e2
        exact op_cat pins s σ H _ _ v u Q I rx ry ⟨_, _, _, _, rfl, rfl, h1, h2, by rw [t1.length, t2.length]; exact c, fun p hp => newL_post q r (t1.append t2) hp⟩
      · exact q.elim
    · exact q.elim
  · split at q
    · rename_i xs e1
      split at q
      · rename_i c
        obtain ⟨p1, vs, rfl, h1, t1⟩ := lstOf_at r ha e1
        cases hb
        exact op_rep pins s σ H _ _ v u Q I rx ry ⟨_, _, _, rfl, rfl, h1, by omega, by omega, by rw [t1.length]; exact c.2.2, fun p hp => newL_post q r (t1.rep _) hp⟩
      · exact q.elim
    · exact q.elim
  · exact q.elim
end
end PI

/-! subscripts, slices, truth -/
namespace PI
open PySem PySem.Spec PyProof.Rows L2
section
variable {X : Cx} {ca : Nat → Addr}
theorem ixOf_eq : ixOf = ixN := rfl
theorem sOk_one {s : Str} {c : Nat} (h : sOk s) (hc : c ∈ s.cps.toList) : sOk ⟨#[c]⟩ := by
  show (#[c]).all (fun x : Nat => decide (x < 0x110000)) = true
  have h' : s.cps.all (fun x : Nat => decide (x < 0x110000)) = true := h
  rw [Array.all_eq_true_iff_forall_mem] at h' ⊢
  intro x hx
  have : x = c := by simpa using hx
  subst this
  exact h' x (Array.mem_toList_iff.mp hc)
theorem dict_ix (hu : X.A.units + 1 < cLine) {a : Addr} {y z : V} {pins : List (Addr × Obj)} {s : Shared} {σ : L2.St} {H : Hp} {u : Value} {Q : VK} {value slice : Expr} (I : Inv X pins σ H s) (ry : RelV y u) (g : DGet H a y (some z)) (q : Q z H)
    (hs : subscripted slice false (.ref a) u = operate [.ref a, u] (getItem (.ref a) u)) : wpAny (model X.prog X.w) X.A (subscriptTail value slice (.ref a) u) (EP X pins σ Q) X.xe s :=
  tail_any (dict_typeIs I g) PySem.F.slot_dict_getitem.lookup (d_getItem hu I g ry fun w' s' I' r' => ⟨z, H, I', r', q⟩) hs
theorem ix_ok (hu : X.A.units + 170 < cLine) : IxR X (rA X ca evIdx) := by
  intro value slice pins s σ H x y v u Q I rx ry h hs
  obtain ⟨φ, μ, a, b, W, r, ha, hb, q⟩ := h
  have hu1 : X.A.units + 1 < cLine := by omega
  unfold evIdx at q
  split at q
  · split at q
    · rename_i sg i hl
      split at q
      · rename_i c e
        cases hb
        cases ha with
        | str _ h1 =>
          have e' : atI sg.cps.toList i = some c := e
          have hm : c ∈ sg.cps.toList := by
            obtain ⟨j, _, hj, _⟩ := atI_get e'
            exact List.mem_of_getElem? hj
          exact ix_str value slice pins s σ H _ _ v u Q I rx ry ⟨_, _, c, rfl, rfl, hl, e', q.val r (.str _ (sOk_one h1 hm))⟩ hs
      · exact q.elim
    · exact q.elim
  · split at q
    · rename_i kvs ed
      split at q
      · rename_i hk
        split at q
        · rename_i d e
          obtain ⟨p, ks, rfl, hd, ht⟩ := dctOf_at r ha ed
          obtain ⟨k, rfl, rfl, _⟩ := keyD_at hb hk
          obtain ⟨z, hz, az⟩ := (look_at k ht).2 d e
          cases (show v = Value.ref p from rx)
          exact dict_ix hu1 I ry (.inl ⟨ks, k, hd, rfl, hz.symm⟩) (q.val r az) hs
        · exact q.elim
      · exact q.elim
    · split at q
      · rename_i xs i e1 _
        split at q
        · rename_i d e
          obtain ⟨p, vs, rfl, hq, ht⟩ := seqOf_at r ha e1
          cases hb
          have e' : (ixOf xs.length i).bind (fun j => xs[j]?) = some d := e
          obtain ⟨j, e2, e3⟩ := Option.bind_eq_some_iff.mp e'
          obtain ⟨z, hz, az⟩ := ht.get e3
          have hat : atI vs i = some z := by
            unfold atI
            rw [ht.length, ← ixOf_eq, e2]
            exact hz
          rcases hq with hq | hq
          · exact ix_list value slice pins s σ H _ _ v u Q I rx ry ⟨_, _, _, _, rfl, rfl, hq, hat, q.val r az⟩ hs
          · exact ix_tup value slice pins s σ H _ _ v u Q I rx ry ⟨_, _, _, _, rfl, rfl, hq, hat, q.val r az⟩ hs
        · exact q.elim
      · exact q.elim
theorem cutN_eq : cutN = HT.sIx := by
  funext n d o
  cases o <;> rfl
/-- a[lo:hi] -/
def rSl (X : Cx) (ca : Nat → Addr) : V → Option Int → Option Int → Hp → VK → Prop := fun x lo hi H Q => ∃ φ μ a W, Rel X.K ca φ H μ ∧ At X.K ca φ H x a ∧ Post X.K ca φ H (evSlc a lo hi μ) Q W
theorem cut_at {K : PySem.W.Frag} {φ : List Addr} {H : Hp} {vs : List V} {xs : List D} (h : AtL K ca φ H vs xs) (lo hi : Option Int) : AtL K ca φ H (cutV vs lo hi) (cut xs lo hi) := by
  unfold cutV cut
  rw [cutN_eq, h.length]
  exact (h.drop _).take _
theorem sOk_sub {s : Str} {l : List Nat} (h : sOk s) (hl : ∀ c ∈ l, c ∈ s.cps.toList) : sOk ⟨l.toArray⟩ := by
  show (l.toArray).all (fun x : Nat => decide (x < 0x110000)) = true
  have h' : s.cps.all (fun x : Nat => decide (x < 0x110000)) = true := h
  rw [Array.all_eq_true_iff_forall_mem] at h' ⊢
  intro x hx
  exact h' x (Array.mem_toList_iff.mp (hl x (by simpa using hx)))
theorem sl_ok : SlR X (rSl X ca) := by
  intro pins s σ H x v vl vu lo hi sl Q I rx hs pl pu h
  obtain ⟨φ, μ, a, W, r, ha, q⟩ := h
  unfold evSlc at q
  have lists : ∀ (p : Addr) (vs : List V) (xs : List D), x = .ref p → SqL X.K H p vs → AtL X.K ca φ H vs xs → Post X.K ca φ H (newL μ (cut xs lo hi)) Q W → ∃ T id, typeLookup (.type T) "__getitem__" = pure (some (.builtin id)) ∧ s.TypeIs v T ∧ wpAny (model X.prog X.w) X.A (getItem v (.ref sl)) (EP X pins σ Q) X.xe s := by
    intro p vs xs e1 h1 h2 q
    exact sl_list pins s σ H x v vl vu lo hi sl Q I rx hs pl pu ⟨p, vs, e1, h1, fun p hp => newL_post q r (cut_at h2 lo hi) hp⟩
  split at q
  · rename_i sg
    split at q
    · rename_i hl
      cases ha with
      | str _ h1 =>
        refine sl_str pins s σ H _ v vl vu lo hi sl Q I rx hs pl pu ⟨_, rfl, hl, q.val r ?_⟩
        have e : cutS sg lo hi = ⟨(cut sg.cps.toList lo hi).toArray⟩ := by
          unfold cutS cut
          rw [cutN_eq]
          rfl
        rw [e]
        refine .str _ (sOk_sub h1 fun c hc => ?_)
        unfold cut at hc
        exact List.mem_of_mem_drop (List.mem_of_mem_take hc)
    · exact q.elim
  · rename_i xs
    cases ha with
    | tup h1 h2 =>
      rename_i p vs
      refine sl_tupA pins s σ H _ v vl vu lo hi sl Q I rx hs pl pu ⟨p, vs, rfl, h1.sq, fun hw => ?_, fun hw p hp => tup_post q r (cut_at h2 lo hi) hp⟩
      have e : cut xs lo hi = xs := by
        unfold cut
        rw [cutN_eq, ← h2.length, hw.1, hw.2, List.drop_zero, Nat.sub_zero, h2.length, List.take_length]
      rw [e] at q
      exact q.val r (.tup h1 h2)
  · rename_i xs
    cases ha with
    | fl h1 n h2 => exact lists _ _ _ rfl (SqL.of h1) h2 q
  · rename_i xs
    cases ha with
    | sl h1 h2 => exact lists _ _ _ rfl h1.sq h2 q
  · rename_i m
    split at q
    · rename_i xs em
      cases ha with
      | loc hm =>
        obtain ⟨vs, h1, h2⟩ := r.ob _ _ _ em hm
        exact lists _ _ _ rfl (SqL.of h1) h2 q
    · exact q.elim
  · exact q.elim
/-- truth -/
theorem truth_at {K : PySem.W.Frag} {φ : List Addr} {H : Hp} {μ : Mem} (r : Rel K ca φ H μ) {v : V} {d : D} {b : Bool} (h : At K ca φ H v d) (e : truth μ d = some b) : TruV K v H b := by
  have em : ∀ {vs : List V} {xs : List D}, AtL K ca φ H vs xs → (!xs.isEmpty) = !vs.isEmpty := fun t => by cases t <;> rfl
  cases h with
  | non => cases e; rfl
  | bl c => cases e; rfl
  | int i => cases e; rfl
  | str s hs =>
    simp only [truth] at e
    split at e
    · rename_i hl
      cases e
      exact ⟨hl, rfl⟩
    · cases e
  | tup h1 h2 => cases e; exact .inr (.inl ⟨_, h1.sq, em h2⟩)
  | fl h1 n h2 => cases e; exact .inl ⟨_, SqL.of h1, em h2⟩
  | sl h1 h2 => cases e; exact .inl ⟨_, h1.sq, em h2⟩
  | loc hm =>
    simp only [truth] at e
    split at e
    · rename_i xs e1
      cases e
      obtain ⟨vs, h1, h2⟩ := r.ob _ _ _ e1 hm
      exact .inl ⟨_, SqL.of h1, em h2⟩
    · cases e
  | _ => unfold truth at e; cases e
end
end PI

/-! built-in functions and methods -/
namespace PI
open PySem PySem.Spec PyProof.Rows L2
/-- what the ground wants to know of the classes: the class's address as isinstance takes it -/
structure ClsOk (K : PySem.W.Frag) (C : Addr) : Prop where
  cl : Cls K C
  ha : PySem.W.findIn K (.ref C) "__class__" = some (some (.builtin "object.__class__"))
  hn : PySem.W.specialIn K (.builtin "object.__class__") "__get__" = some (some (.builtin "getset_descriptor.__get__"))
  htk : PySem.W.takesIn K (.builtin "object.__class__") = some true
  hm : PySem.W.mroIn K C (.type "object") = some true
section
variable {X : Cx} {ca : Nat → Addr}
/-- a call of a built-in by values -/
def rC (X : Cx) (ca : Nat → Addr) (f : List D → Mem → R D) : List V → Hp → VK → Prop := fun vs H Q => ∃ φ μ ds W, Rel X.K ca φ H μ ∧ AtL X.K ca φ H vs ds ∧ Post X.K ca φ H (f ds μ) Q W
theorem vals_ints {K : PySem.W.Frag} {φ : List Addr} {H : Hp} : ∀ {vs : List V} {ds : List D} {is : List Int}, AtL K ca φ H vs ds → intsOf ds = some is → vs = is.map V.int
  | _, _, _, .nil, e => by unfold intsOf at e; cases e; rfl
  | _, _, _, .cons h t, e => by
    cases h with
    | int i =>
      unfold intsOf at e
      obtain ⟨js, e1, rfl⟩ := Option.map_eq_some_iff.mp e
      rw [vals_ints t e1]
      rfl
    | _ => unfold intsOf at e; cases e
theorem vals_bls {K : PySem.W.Frag} {φ : List Addr} {H : Hp} : ∀ {vs : List V} {ds : List D} {is : List Bool}, AtL K ca φ H vs ds → blsOf ds = some is → vs = is.map V.bl
  | _, _, _, .nil, e => by unfold blsOf at e; cases e; rfl
  | _, _, _, .cons h t, e => by
    cases h with
    | bl i =>
      unfold blsOf at e
      obtain ⟨js, e1, rfl⟩ := Option.map_eq_some_iff.mp e
      rw [vals_bls t e1]
      rfl
    | _ => unfold blsOf at e; cases e
theorem AtL.one {K : PySem.W.Frag} {φ : List Addr} {H : Hp} {vs : List V} {d : D} (h : AtL K ca φ H vs [d]) : ∃ v, vs = [v] ∧ At K ca φ H v d := by
  cases h with
  | cons a t => cases t; exact ⟨_, rfl, a⟩
theorem AtL.two {K : PySem.W.Frag} {φ : List Addr} {H : Hp} {vs : List V} {d e : D} (h : AtL K ca φ H vs [d, e]) : ∃ v w, vs = [v, w] ∧ At K ca φ H v d ∧ At K ca φ H w e := by
  cases h with
  | cons a t =>
    cases t with
    | cons b t => cases t; exact ⟨_, _, rfl, a, b⟩
theorem one_ok {f : Value} {g : D → Mem → R D} (h : ∀ (pins : List (Addr × Obj)) (s : Shared) (σ : L2.St) (H : Hp) (v : V) (us : List Value) (Q : VK) (φ : List Addr) (μ : Mem) (d : D) (W : Value → Option Addr → Hp → Prop), Inv X pins σ H s → Vals [v] us → Rel X.K ca φ H μ → At X.K ca φ H v d → Post X.K ca φ H (g d μ) Q W →
    wpAny (model X.prog X.w) X.A (call f us) (EP X pins σ Q) X.xe s) : CallR X f (rC X ca (one g)) := by
  intro pins s σ H vs us Q I rv ⟨φ, μ, ds, W, r, ha, q⟩
  unfold one at q
  split at q
  · obtain ⟨v, rfl, a⟩ := ha.one
    exact h pins s σ H v us Q φ μ _ W I rv r a q
  · exact q.elim
theorem two_ok {f : Value} {g : D → D → Mem → R D} (h : ∀ (pins : List (Addr × Obj)) (s : Shared) (σ : L2.St) (H : Hp) (v w : V) (us : List Value) (Q : VK) (φ : List Addr) (μ : Mem) (d e : D) (W : Value → Option Addr → Hp → Prop), Inv X pins σ H s → Vals [v, w] us → Rel X.K ca φ H μ → At X.K ca φ H v d → At X.K ca φ H w e → Post X.K ca φ H (g d e μ) Q W →
    wpAny (model X.prog X.w) X.A (call f us) (EP X pins σ Q) X.xe s) : CallR X f (rC X ca (two g)) := by
  intro pins s σ H vs us Q I rv ⟨φ, μ, ds, W, r, ha, q⟩
  unfold two at q
  split at q
  · obtain ⟨v, w, rfl, a, b⟩ := ha.two
    exact h pins s σ H v w us Q φ μ _ _ W I rv r a b q
  · exact q.elim
theorem len_ok : CallR X (.builtin "len") (rC X ca (evBI .len)) := one_ok fun pins s σ H v us Q φ μ d W I rv r a q => by
  unfold biLen at q
  split at q
  · split at q
    · rename_i hl
      cases a with
      | str _ h1 => exact call_len pins s σ H _ us Q I rv ⟨_, _, rfl, ⟨hl, rfl⟩, q.val r (.int _)⟩
    · exact q.elim
  · split at q
    · rename_i xs e
      obtain ⟨p, ws, rfl, hq, ht⟩ := seqOf_at r a e
      rw [← ht.length] at q
      exact call_len_seq pins s σ H _ us Q I rv ⟨p, ws, rfl, hq, q.val r (.int _)⟩
    · exact q.elim
theorem list_ok : CallR X (.type "list") (rC X ca (evBI .list)) := one_ok fun pins s σ H v us Q φ μ d W I rv r a q => by
  unfold biList at q
  split at q
  · rename_i xs e
    obtain ⟨p, ws, rfl, hq, ht⟩ := seqOf_at r a e
    exact call_list_of pins s σ H _ us Q I rv ⟨p, ws, rfl, hq, fun l hl => newL_post q r ht hl⟩
  · exact q.elim
theorem tuple_ok : CallR X (.type "tuple") (rC X ca (evBI .tuple)) := one_ok fun pins s σ H v us Q φ μ d W I rv r a q => by
  unfold biTuple at q
  split at q
  · rename_i xs e
    cases a with
    | tup h1 h2 =>
      unfold seqOf at e
      cases e
      exact call_tuple_of pins s σ H _ us Q I rv ⟨_, _, rfl, .inr ⟨h1.sq, q.val r (.tup h1 h2)⟩⟩
    | fl h1 n h2 =>
      unfold seqOf at e
      cases e
      exact call_tuple_of pins s σ H _ us Q I rv ⟨_, _, rfl, .inl ⟨SqL.of h1, fun l hl => tup_post q r h2 hl⟩⟩
    | sl h1 h2 =>
      unfold seqOf at e
      cases e
      exact call_tuple_of pins s σ H _ us Q I rv ⟨_, _, rfl, .inl ⟨h1.sq, fun l hl => tup_post q r h2 hl⟩⟩
    | loc hm =>
      simp only [seqOf] at e
      split at e
      · rename_i ys em
        cases e
        obtain ⟨ws, h1, h2⟩ := r.ob _ _ _ em hm
        exact call_tuple_of pins s σ H _ us Q I rv ⟨_, _, rfl, .inl ⟨SqL.of h1, fun l hl => tup_post q r h2 hl⟩⟩
      · cases e
    | _ => unfold seqOf at e; cases e
  · exact q.elim
theorem lstS_at {K : PySem.W.Frag} {φ : List Addr} {H : Hp} {μ : Mem} (r : Rel K ca φ H μ) {v : V} {d : D} {xs : List D} (h : At K ca φ H v d) (e : lstS μ d = some xs) : ∃ a vs, v = .ref a ∧ SqL K H a vs ∧ AtL K ca φ H vs xs := by
  unfold lstS at e
  split at e
  · cases e
    cases h with
    | sl h1 h2 => exact ⟨_, _, rfl, h1.sq, h2⟩
  · obtain ⟨a, vs, e1, e2, e3⟩ := lstOf_at r h e
    exact ⟨a, vs, e1, SqL.of e2, e3⟩
theorem all_ok (hc : X.calm = true) : CallR X (.builtin "all") (rC X ca (evBI .all)) := one_ok fun pins s σ H v us Q φ μ d W I rv r a q => by
  unfold biAll at q
  split at q
  · rename_i bs e
    obtain ⟨xs, e1, e2⟩ := Option.bind_eq_some_iff.mp e
    obtain ⟨p, vs, rfl, h1, h2⟩ := lstOf_at r a e1
    have ev := vals_bls h2 e2
    subst ev
    exact cr_all hc pins s σ H _ us Q I rv ⟨p, bs, rfl, SqL.of h1, q.val r (.bl _)⟩
  · exact q.elim
theorem any_ok (hc : X.calm = true) : CallR X (.builtin "any") (rC X ca (evBI .any)) := one_ok fun pins s σ H v us Q φ μ d W I rv r a q => by
  unfold biAny at q
  split at q
  · rename_i bs e
    obtain ⟨xs, e1, e2⟩ := Option.bind_eq_some_iff.mp e
    obtain ⟨p, vs, rfl, h1, h2⟩ := lstOf_at r a e1
    have ev := vals_bls h2 e2
    subst ev
    exact cr_any hc pins s σ H _ us Q I rv ⟨p, bs, rfl, SqL.of h1, q.val r (.bl _)⟩
  · exact q.elim
theorem sum_ok (hc : X.calm = true) : CallR X (.builtin "sum") (rC X ca (evBI .sum)) := one_ok fun pins s σ H v us Q φ μ d W I rv r a q => by
  unfold biSum at q
  split at q
  · rename_i bs e
    obtain ⟨xs, e1, e2⟩ := Option.bind_eq_some_iff.mp e
    obtain ⟨p, vs, rfl, h1, h2⟩ := lstS_at r a e1
    have ev := vals_ints h2 e2
    subst ev
    exact cr_sum hc pins s σ H _ us Q I rv ⟨p, bs, rfl, h1, q.val r (.int _)⟩
  · exact q.elim
theorem int_ok : CallR X (.type "int") (rC X ca (evBI .int)) := one_ok fun pins s σ H v us Q φ μ d W I rv r a q => by
  unfold biInt at q
  split at q
  · cases a
    exact call_int1 pins s σ H _ us Q I rv (.inr ⟨_, rfl, q.val r (.int _)⟩)
  · cases a
    exact call_int1 pins s σ H _ us Q I rv (.inl ⟨_, rfl, q.val r (.int _)⟩)
  · exact q.elim
theorem max2_ok (hc : X.calm = true) : CallR X (.builtin "max") (rC X ca (evBI .max2)) := two_ok fun pins s σ H v w us Q φ μ d e W I rv r a b q => by
  unfold biMax2 at q
  split at q
  · cases a; cases b
    exact call_max2 hc pins s σ H _ us Q I rv ⟨_, _, rfl, q.val r (.int _)⟩
  · exact q.elim
theorem min2_ok (hc : X.calm = true) : CallR X (.builtin "min") (rC X ca (evBI .min2)) := two_ok fun pins s σ H v w us Q φ μ d e W I rv r a b q => by
  unfold biMin2 at q
  split at q
  · cases a; cases b
    exact call_min2 hc pins s σ H _ us Q I rv ⟨_, _, rfl, q.val r (.int _)⟩
  · exact q.elim
theorem abs_ok : CallR X (.builtin "abs") (rC X ca (evBI .abs)) := one_ok fun pins s σ H v us Q φ μ d W I rv r a q => by
  unfold biAbs at q
  split at q
  · cases a
    exact call_abs pins s σ H _ us Q I rv ⟨_, rfl, q.val r (.int _)⟩
  · exact q.elim
/-! ### methods -/
def rM (X : Cx) (ca : Nat → Addr) (f : D → List D → Mem → R D) : V → List V → Hp → VK → Prop := fun x vs H Q => ∃ φ μ o ds W, Rel X.K ca φ H μ ∧ At X.K ca φ H x o ∧ AtL X.K ca φ H vs ds ∧ Post X.K ca φ H (f o ds μ) Q W
theorem one1_ok {f : String} {g : D → D → Mem → R D} (h : ∀ (pins : List (Addr × Obj)) (s : Shared) (σ : L2.St) (H : Hp) (x v : V) (u : Value) (us : List Value) (Q : VK) (φ : List Addr) (μ : Mem) (o d : D) (W : Value → Option Addr → Hp → Prop), Inv X pins σ H s → RelV x u → Vals [v] us → Rel X.K ca φ H μ → At X.K ca φ H x o → At X.K ca φ H v d → Post X.K ca φ H (g o d μ) Q W →
    wpAny (model X.prog X.w) X.A (call (.builtin f) (u :: us)) (EP X pins σ Q) X.xe s) : MtR X f (rM X ca (one1 g)) := by
  intro pins s σ H x vs u us Q I rx rv ⟨φ, μ, o, ds, W, r, ho, ha, q⟩
  unfold one1 at q
  split at q
  · obtain ⟨v, rfl, a⟩ := ha.one
    exact h pins s σ H x v u us Q φ μ _ _ W I rx rv r ho a q
  · exact q.elim
theorem non1_ok {f : String} {g : D → Mem → R D} (h : ∀ (pins : List (Addr × Obj)) (s : Shared) (σ : L2.St) (H : Hp) (x : V) (u : Value) (us : List Value) (Q : VK) (φ : List Addr) (μ : Mem) (o : D) (W : Value → Option Addr → Hp → Prop), Inv X pins σ H s → RelV x u → Vals [] us → Rel X.K ca φ H μ → At X.K ca φ H x o → Post X.K ca φ H (g o μ) Q W →
    wpAny (model X.prog X.w) X.A (call (.builtin f) (u :: us)) (EP X pins σ Q) X.xe s) : MtR X f (rM X ca (non1 g)) := by
  intro pins s σ H x vs u us Q I rx rv ⟨φ, μ, o, ds, W, r, ho, ha, q⟩
  unfold non1 at q
  split at q
  · cases ha
    exact h pins s σ H x u us Q φ μ _ W I rx rv r ho q
  · exact q.elim
/-- a list's place changed -/
theorem set_post {K : PySem.W.Frag} {φ : List Addr} {H : Hp} {μ : Mem} {Q : V → Hp → Prop} {W : Value → Option Addr → Hp → Prop} {m : Nat} {a : Addr} {vs : List V} {xs : List D} {d : D} {v : V} (q : Post K ca φ H (.ok d (μ.set m (.lst xs))) Q W) (r : Rel K ca φ H μ) (hm : φ[m]? = some a)
    (hv : At K ca φ H v d) (hx : AtL K ca φ H vs xs) {ws : List V} (h0 : H a = some (.lst ws)) : Q v (upd H a (.lst vs)) := by
  have e : Ext φ H φ (upd H a (.lst vs)) := Ext.upAt (List.mem_of_getElem? hm) (nofrz h0 (fun _ _ z => nomatch z))
  exact q φ _ v e (r.set hm ⟨vs, upd_same, hx.ext e⟩) (hv.ext e)
theorem append_ok : MtR X "list.append" (rM X ca (evBM .append)) := one1_ok fun pins s σ H x v u us Q φ μ o d W I rx rv r ho a q => by
  unfold bmAppend at q
  split at q
  · rename_i m
    split at q
    · rename_i xs em
      split at q
      · rename_i hl
        cases ho with
        | loc hm =>
          obtain ⟨vs, h1, h2⟩ := r.ob _ _ _ em hm
          exact mt_append pins s σ H _ _ u us Q I rx rv ⟨_, vs, v, rfl, rfl, h1, by rw [h2.length]; exact hl, set_post q r hm .non (h2.append (.cons a .nil)) h1⟩
      · exact q.elim
    · exact q.elim
  · exact q.elim
theorem extend_ok : MtR X "list.extend" (rM X ca (evBM .extend)) := one1_ok fun pins s σ H x v u us Q φ μ o d W I rx rv r ho a q => by
  unfold bmExtend at q
  split at q
  · rename_i m
    split at q
    · rename_i xs ys em e2
      split at q
      · rename_i hl
        cases ho with
        | loc hm =>
          obtain ⟨vs, h1, h2⟩ := r.ob _ _ _ em hm
          obtain ⟨p, ws, rfl, h3, h4⟩ := lstOf_at r a e2
          exact mt_extend pins s σ H _ _ u us Q I rx rv ⟨_, p, vs, ws, rfl, rfl, h1, h3, by rw [h2.length, h4.length]; exact hl, set_post q r hm .non (h2.append h4) h1⟩
      · exact q.elim
    · exact q.elim
  · exact q.elim
theorem pop_ok : MtR X "list.pop" (rM X ca (evBM .pop)) := non1_ok fun pins s σ H x u us Q φ μ o W I rx rv r ho q => by
  unfold bmPop at q
  split at q
  · rename_i m
    split at q
    · rename_i xs em
      split at q
      · rename_i y ey
        cases ho with
        | loc hm =>
          obtain ⟨vs, h1, h2⟩ := r.ob _ _ _ em hm
          rw [← h2.length] at ey
          obtain ⟨z, hz, az⟩ := h2.get ey
          exact mt_pop pins s σ H _ _ u us Q I rx rv ⟨_, vs, z, rfl, rfl, h1, hz, set_post q r hm az h2.dropLast h1⟩
      · exact q.elim
    · exact q.elim
  · exact q.elim
theorem clear_ok : MtR X "list.clear" (rM X ca (evBM .clear)) := non1_ok fun pins s σ H x u us Q φ μ o W I rx rv r ho q => by
  unfold bmClear at q
  split at q
  · rename_i m
    split at q
    · rename_i xs em
      cases ho with
      | loc hm =>
        obtain ⟨vs, h1, h2⟩ := r.ob _ _ _ em hm
        exact mt_clear pins s σ H _ _ u us Q I rx rv ⟨_, vs, rfl, rfl, h1, set_post q r hm .non .nil h1⟩
    · exact q.elim
  · exact q.elim
theorem reverse_ok : MtR X "list.reverse" (rM X ca (evBM .reverse)) := non1_ok fun pins s σ H x u us Q φ μ o W I rx rv r ho q => by
  unfold bmReverse at q
  split at q
  · rename_i m
    split at q
    · rename_i xs em
      cases ho with
      | loc hm =>
        obtain ⟨vs, h1, h2⟩ := r.ob _ _ _ em hm
        exact mt_reverse pins s σ H _ _ u us Q I rx rv ⟨_, vs, rfl, rfl, h1, set_post q r hm .non h2.rev h1⟩
    · exact q.elim
  · exact q.elim
theorem indexOf_at {a : D} : ∀ {xs : List D} {k j : Nat}, indexOf a xs k = some j → ∃ i z, j = k + i ∧ xs[i]? = some z ∧ eqF z a = true ∧ ∀ m z', m < i → xs[m]? = some z' → eqF z' a = false
  | [], k, j, e => by unfold indexOf at e; cases e
  | x :: xs, k, j, e => by
    unfold indexOf at e
    split at e
    · rename_i h
      cases e
      exact ⟨0, x, rfl, rfl, h, fun m z' hm _ => absurd hm (Nat.not_lt_zero m)⟩
    · rename_i h
      obtain ⟨i, z, e1, e2, e3, e4⟩ := indexOf_at e
      refine ⟨i + 1, z, by omega, by simpa using e2, e3, fun m z' hm e5 => ?_⟩
      cases m with
      | zero =>
        simp at e5
        subst e5
        exact Bool.eq_false_iff.mpr h
      | succ m => exact e4 m z' (by omega) (by simpa using e5)
theorem AtL.back {K : PySem.W.Frag} {φ : List Addr} {H : Hp} : ∀ {vs : List V} {ds : List D} {i : Nat} {v : V}, AtL K ca φ H vs ds → vs[i]? = some v → ∃ d, ds[i]? = some d ∧ At K ca φ H v d
  | _, _, _, _, .nil, e => by simp at e
  | _, _, 0, _, .cons a t, e => by simp at e; subst e; exact ⟨_, rfl, a⟩
  | _, _, i + 1, d, .cons a t, e => by
    obtain ⟨v, h1, h2⟩ := AtL.back (i := i) (v := d) t (by simpa using e)
    exact ⟨v, by simpa using h1, h2⟩
theorem index_ok : MtR X "list.index" (rM X ca (evBM .index)) := one1_ok fun pins s σ H x v u us Q φ μ o d W I rx rv r ho a q => by
  unfold bmIndex at q
  split at q
  · rename_i xs e
    split at q
    · rename_i f
      rw [Bool.and_eq_true] at f
      split at q
      · rename_i k ek
        obtain ⟨p, vs, rfl, h1, h2⟩ := lstS_at r ho e
        obtain ⟨i, z, e1, e2, e3, e4⟩ := indexOf_at ek
        have e1 : k = i := by omega
        subst e1
        obtain ⟨w, hw, aw⟩ := h2.get e2
        have fz : flat z = true := List.all_eq_true.mp f.2 z (List.mem_of_getElem? e2)
        refine mt_index pins s σ H _ _ u us Q I rx rv ⟨p, vs, v, k, w, rfl, rfl, h1, flat_at a f.1, flats_at h2 f.2, hw, by rw [eqV_at aw a fz f.1]; exact e3, fun m z' hm e5 => ?_, q.val r (.int _)⟩
        obtain ⟨d', h5, a5⟩ := h2.back e5
        have fz' : flat d' = true := List.all_eq_true.mp f.2 d' (List.mem_of_getElem? h5)
        rw [eqV_at a5 a fz' f.1]
        exact e4 m d' hm h5
      · exact q.elim
    · exact q.elim
  · exact q.elim
end
end PI

/-! expressions: what the language says, as a reading of the hand layer's -/
namespace PI
open PySem PySem.Spec PyProof.Rows L2
section
variable {K : PySem.W.Frag} {ca : Nat → Addr} {φ φ' : List Addr} {H H' : Hp} {μ μ' : Mem}
/-- the slots -/
def Sl (K : PySem.W.Frag) (ca : Nat → Addr) (φ : List Addr) (H : Hp) (σ : L2.St) (sg : Env) : Prop := σ.length = sg.length ∧ ∀ (i : Nat) (d : D), sg[i]? = some (some d) → ∃ v, σ[i]? = some (some v) ∧ At K ca φ H v d
theorem Sl.ext {σ : L2.St} {sg : Env} (e : Ext φ H φ' H') (h : Sl K ca φ H σ sg) : Sl K ca φ' H' σ sg := ⟨h.1, fun i d q => let ⟨v, h1, h2⟩ := h.2 i d q; ⟨v, h1, h2.ext e⟩⟩
theorem Sl.ext0 {σ : L2.St} {sg : Env} (e : Ext0 φ H φ' H') (h : Sl K ca φ H σ sg) : Sl K ca φ' H' σ sg := ⟨h.1, fun i d q => let ⟨v, h1, h2⟩ := h.2 i d q; ⟨v, h1, h2.ext0 e⟩⟩
theorem Sl.set {σ : L2.St} {sg : Env} {i : Nat} {v : V} {d : D} (h : Sl K ca φ H σ sg) (a : At K ca φ H v d) : Sl K ca φ H (σ.set i (some v)) (sg.set i (some d)) := by
  refine ⟨by rw [List.length_set, List.length_set]; exact h.1, fun j e q => ?_⟩
  by_cases hj : i = j
  · subst hj
    have hl : i < sg.length := by
      have := (List.getElem?_eq_some_iff.mp q).1
      rwa [List.length_set] at this
    rw [List.getElem?_set_self hl] at q
    cases q
    exact ⟨v, by rw [List.getElem?_set_self (by rw [h.1]; exact hl)], a⟩
  · rw [List.getElem?_set_ne hj] at q
    rw [List.getElem?_set_ne hj]
    exact h.2 j e q
theorem Sl.unset {σ : L2.St} {sg : Env} {i : Nat} (h : Sl K ca φ H σ sg) : Sl K ca φ H (σ.set i none) (sg.set i none) := by
  refine ⟨by rw [List.length_set, List.length_set]; exact h.1, fun j e q => ?_⟩
  by_cases hj : i = j
  · subst hj
    by_cases hl : i < sg.length
    · rw [List.getElem?_set_self hl] at q
      cases q
    · rw [List.getElem?_eq_none (by rw [List.length_set]; omega)] at q
      cases q
  · rw [List.getElem?_set_ne hj] at q
    rw [List.getElem?_set_ne hj]
    exact h.2 j e q
theorem Sl.wipe {σ : L2.St} {sg : Env} (h : Sl K ca φ H σ sg) : ∀ vs : List Nat, Sl K ca φ H (L2.wipe σ vs) (wipeE sg vs)
  | [] => h
  | v :: vs => by
    unfold L2.wipe wipeE
    exact (Sl.wipe h vs).unset
end
abbrev EqR {α : Type} : List Addr → Hp → α → α → Prop := fun _ _ b a => b = a
section
variable {X : Cx} {ca : Nat → Addr} {W : WX}
/-- a piece of the language as a reading -/
def aG {α β : Type} (X : Cx) (ca : Nat → Addr) (W : WX) (rel : List Addr → Hp → β → α → Prop) (f : Env → Mem → R α) : L2.St → Hp → (β → Hp → Prop) → Prop := fun σ H Q =>
  ∃ φ μ sg, Rel X.K ca φ H μ ∧ Sl X.K ca φ H σ sg ∧ PostG X.K ca rel φ H (f sg μ) Q fun c d H' => W c d σ H'
abbrev aE (X : Cx) (ca : Nat → Addr) (W : WX) (f : Env → Mem → R D) : TE := aG X ca W (At X.K ca) f
abbrev aL (X : Cx) (ca : Nat → Addr) (W : WX) (f : Env → Mem → R (List D)) : TA := aG X ca W (AtL X.K ca) f
abbrev aT (X : Cx) (ca : Nat → Addr) (W : WX) (f : Env → Mem → R Bool) : TT := aG X ca W EqR f
abbrev aO (X : Cx) (ca : Nat → Addr) (W : WX) (f : Env → Mem → R (Option Int)) : TO := aG X ca W EqR f
theorem PE.imp {e : Expr} {t t' : TE} (h : PE X e t) (w : ∀ σ H Q, t' σ H Q → t σ H Q) : PE X e t' := ⟨fun pins s σ H Q I q => h.run pins s σ H Q I (w _ _ _ q)⟩
theorem PT.imp {e : Expr} {t t' : TT} (h : PT X e t) (w : ∀ σ H Q, t' σ H Q → t σ H Q) : PT X e t' := ⟨fun pins s σ H Q I q => h.run pins s σ H Q I (w _ _ _ q)⟩
theorem PW.imp {e : Expr} {t t' : TT} (h : PW X e t) (w : ∀ σ H Q, t' σ H Q → t σ H Q) : PW X e t' := ⟨fun wh pins s σ H Q I q => h.run wh pins s σ H Q I (w _ _ _ q)⟩
theorem PA.imp {e : List Expr} {t t' : TA} (h : PA X e t) (w : ∀ σ H Q, t' σ H Q → t σ H Q) : PA X e t' := ⟨fun pos pins s σ H Q I q => h.run pos pins s σ H Q I (w _ _ _ q)⟩
theorem PO.imp {e : Option Expr} {t t' : TO} (h : PO X e t) (w : ∀ σ H Q, t' σ H Q → t σ H Q) : PO X e t' := ⟨fun pins s σ H Q I q => h.run pins s σ H Q I (w _ _ _ q)⟩
variable {α β γ δ : Type} {rel : List Addr → Hp → β → α → Prop} {rel' : List Addr → Hp → δ → γ → Prop} {Q : β → Hp → Prop} {Q' : δ → Hp → Prop} {φ : List Addr} {H : Hp} {μ : Mem} {sg : Env} {σ : L2.St}
/-- on from a part to the next one -/
theorem aG.nx {f : Env → Mem → R α} {k : α → Mem → R γ} (h : aG X ca W rel' (fun σ μ => (f σ μ).bind k) σ H Q') (go : ∀ b H1 φ1 μ1 a sg, Rel X.K ca φ1 H1 μ1 → Sl X.K ca φ1 H1 σ sg → rel φ1 H1 b a → PostG X.K ca rel' φ1 H1 (k a μ1) Q' (fun c d H' => W c d σ H') → Q b H1) : aG X ca W rel f σ H Q := by
  obtain ⟨φ, μ, sg, r, s, q⟩ := h
  exact ⟨φ, μ, sg, r, s, q.bindI.mono fun b H1 ⟨φ1, μ1, a, e1, r1, a1, q1⟩ => go b H1 φ1 μ1 a sg r1 (s.ext e1) a1 q1⟩

/-! ### atoms -/
variable {pos p : Pos} {a b c : Expr} {es : List Expr} {f g h : Env → Mem → R D}
theorem ea_var {i : Nat} {x : Str} (hN : X.N[i]? = some x) (hv : Vis X.env.scope x) (h1 : (x == ("__debug__" : Str)) = false) (h2 : (x == ("__classdict__" : Str)) = false) : PE X (.Name x pos) (aE X ca W fun σ μ => match σ[i]? with
    | some (some d) => .ok d μ
    | _ => .bad) := PE.imp (pe_var hN hv h1 h2) fun σ H Q ⟨φ, μ, sg, r, s, q⟩ => by
  dsimp only at q
  split at q
  · rename_i d e
    obtain ⟨v, h1, h2⟩ := s.2 i d e
    exact ⟨v, h1, q.val r h2⟩
  · exact q.elim
theorem ea_val {v : V} {d : D} (h : PE X a (tC v)) (ha : ∀ φ H, At X.K ca φ H v d) : PE X a (aE X ca W fun _ μ => .ok d μ) := PE.imp h fun σ H Q ⟨φ, μ, sg, r, s, q⟩ => PostG.val q r (ha φ H)

/-! ### operators -/
theorem ea_bin {op : Operator} {ev : D → D → Mem → R D} (ho : OpR X (binaryOp op) (rA X ca ev)) (ha : PE X a (aE X ca W f)) (hb : PE X b (aE X ca W g)) :
    PE X (.BinOp a op b pos) (aE X ca W fun σ μ => (f σ μ).bind fun x μ => (g σ μ).bind fun y μ => ev x y μ) := PE.imp (pe_op ho ha hb) fun σ H Q ⟨φ, μ, sg, r, s, q⟩ =>
  ⟨φ, μ, sg, r, s, q.bindI.mono fun x H1 ⟨φ1, μ1, d1, e1, r1, a1, q1⟩ => ⟨φ1, μ1, sg, r1, s.ext e1, q1.bindI.mono fun y H2 ⟨φ2, μ2, d2, e2, r2, a2, q2⟩ => ⟨φ2, μ2, d1, d2, _, r2, a1.ext e2, a2, q2⟩⟩⟩
theorem ea_cmp {op : CmpOp} {ev : D → D → Mem → R D} (ho : OpR X (compareOp op) (rA X ca ev)) (ha : PE X a (aE X ca W f)) (hb : PE X b (aE X ca W g)) (hm : behindInMarks op b = false) :
    PE X (.Compare a [op] [b] pos) (aE X ca W fun σ μ => (f σ μ).bind fun x μ => (g σ μ).bind fun y μ => ev x y μ) := PE.imp (pe_cmpR ho ha hb hm) fun σ H Q ⟨φ, μ, sg, r, s, q⟩ =>
  ⟨φ, μ, sg, r, s, q.bindI.mono fun x H1 ⟨φ1, μ1, d1, e1, r1, a1, q1⟩ => ⟨φ1, μ1, sg, r1, s.ext e1, q1.bindI.mono fun y H2 ⟨φ2, μ2, d2, e2, r2, a2, q2⟩ => ⟨φ2, μ2, d1, d2, _, r2, a1.ext e2, a2, q2⟩⟩⟩
theorem evCmp_bl {o : Cmp} {x y d : D} {μ μ' : Mem} (h : evCmp o x y μ = .ok d μ') : ∃ c, d = .bl c := by
  unfold evCmp at h
  cases o <;> simp only at h <;> (repeat' split at h) <;> first
    | (cases h; exact ⟨_, rfl⟩)
    | (cases h)
def trB (d : D) (μ : Mem) : R Bool := match truth μ d with
  | some b => .ok b μ
  | none => .bad
/-- where the answer is a truth -/
theorem bl_post {r : R D} {Q : Bool → Hp → Prop} {W : Value → Option Addr → Hp → Prop} (hb : ∀ d μ', r = .ok d μ' → ∃ c, d = .bl c) (q : PostG X.K ca EqR φ H (r.bind trB) Q W) : Post X.K ca φ H r (fun z H' => ∃ k, z = .bl k ∧ Q k H') W := by
  cases r with
  | ok d μ' =>
    obtain ⟨c, rfl⟩ := hb d μ' rfl
    intro φ1 H1 v e1 r1 a1
    cases a1
    exact ⟨c, rfl, q φ1 H1 c e1 r1 rfl⟩
  | err cc xs μ' =>
    cases xs with
    | nil => exact q
    | cons _ _ => exact q
  | bad => exact q
/-- a comparison's answer is a truth -/
theorem cmp_post {o : Cmp} {x y : D} {Q : Bool → Hp → Prop} {W : Value → Option Addr → Hp → Prop} (q : PostG X.K ca EqR φ H ((evCmp o x y μ).bind trB) Q W) : Post X.K ca φ H (evCmp o x y μ) (fun z H' => ∃ k, z = .bl k ∧ Q k H') W :=
  bl_post (fun _ _ e => evCmp_bl e) q
/-- an expression as a test -/
def tst (f : Env → Mem → R D) : Env → Mem → R Bool := fun σ μ => (f σ μ).bind trB
theorem R.bind_bind {α β γ : Type} (r : R α) (f : α → Mem → R β) (g : β → Mem → R γ) : (r.bind f).bind g = r.bind fun a μ => (f a μ).bind g := by cases r <;> rfl
theorem ta_cmp {o : Cmp} (ho : OpR X (compareOp (cmpOp o)) (rA X ca (evCmp o))) (ha : PE X a (aE X ca W f)) (hb : PE X b (aE X ca W g)) (hm : behindInMarks (cmpOp o) b = false) :
    PT X (.Compare a [cmpOp o] [b] pos) (aT X ca W (tst fun σ μ => (f σ μ).bind fun x μ => (g σ μ).bind fun y μ => evCmp o x y μ)) := PT.imp (pt_cmpR ho ha hb hm) fun σ H Q ⟨φ, μ, sg, r, s, q⟩ => by
  unfold tst at q
  simp only [R.bind_bind] at q
  exact ⟨φ, μ, sg, r, s, q.bindI.mono fun x H1 ⟨φ1, μ1, d1, e1, r1, a1, q1⟩ => ⟨φ1, μ1, sg, r1, s.ext e1, q1.bindI.mono fun y H2 ⟨φ2, μ2, d2, e2, r2, a2, q2⟩ => ⟨φ2, μ2, d1, d2, _, r2, a1.ext e2, a2, cmp_post q2⟩⟩⟩
/-- by its truth -/
theorem ta_plain (ha : PE X a (aE X ca W f)) (hp : ∀ whole, isTrue a X.env whole = (do let v ← whole; standAt a.pos; holding [v] (truthy v))) : PT X a (aT X ca W (tst f)) := PT.imp (pt_truth ha hp) fun σ H Q ⟨φ, μ, sg, r, s, q⟩ =>
  ⟨φ, μ, sg, r, s, q.bindI.mono fun x H1 ⟨φ1, μ1, d1, e1, r1, a1, q1⟩ => by
    unfold trB at q1
    split at q1
    · rename_i k e
      exact ⟨k, truth_at r1 a1 e, q1 φ1 H1 k (Ext.refl _ _) r1 rfl⟩
    · exact q1.elim⟩
theorem ta_not {t : Env → Mem → R Bool} (ha : PT X a (aT X ca W t)) : PT X (.UnaryOp .Not a pos) (aT X ca W fun σ μ => (t σ μ).bind fun b μ => .ok (!b) μ) := PT.imp (pt_not ha) fun σ H Q ⟨φ, μ, sg, r, s, q⟩ =>
  ⟨φ, μ, sg, r, s, q.bindI.mono fun x H1 ⟨φ1, μ1, d1, e1, r1, a1, q1⟩ => by
    cases a1
    exact q1 φ1 H1 _ (Ext.refl _ _) r1 rfl⟩
theorem ea_not (ha : PE X a (aE X ca W f)) : PE X (.UnaryOp .Not a pos) (aE X ca W fun σ μ => (f σ μ).bind fun d μ => match truth μ d with
    | some b => .ok (.bl (!b)) μ
    | none => .bad) := PE.imp (pe_notT ha) fun σ H Q ⟨φ, μ, sg, r, s, q⟩ =>
  ⟨φ, μ, sg, r, s, q.bindI.mono fun x H1 ⟨φ1, μ1, d1, e1, r1, a1, q1⟩ => by
    dsimp only at q1
    split at q1
    · rename_i k e
      exact ⟨k, truth_at r1 a1 e, q1.val r1 (.bl _)⟩
    · exact q1.elim⟩
theorem non_iff {K : PySem.W.Frag} {v : V} {d : D} (h : At K ca φ H v d) : decide (v = .non) = isNon d := by
  cases h <;> first
    | rfl
    | exact decide_eq_false (fun z => nomatch z)
theorem ea_isN {j : Nat} {pos' : Pos} (ha : PE X a (aE X ca W f)) : PE X (.Compare a [.Is] [.Constant .none j pos'] pos) (aE X ca W fun σ μ => (f σ μ).bind fun d μ => .ok (.bl (isNon d)) μ) :=
  PE.imp (pe_cmp (pc_isN ha) (nobehind _ (by decide) (by decide))) fun σ H Q ⟨φ, μ, sg, r, s, q⟩ => ⟨φ, μ, sg, r, s, q.bindI.mono fun x H1 ⟨φ1, μ1, d1, e1, r1, a1, q1⟩ => by
    rw [non_iff a1]
    exact q1.val r1 (.bl _)⟩
theorem ea_notN {j : Nat} {pos' : Pos} (ha : PE X a (aE X ca W f)) : PE X (.Compare a [.IsNot] [.Constant .none j pos'] pos) (aE X ca W fun σ μ => (f σ μ).bind fun d μ => .ok (.bl (!isNon d)) μ) :=
  PE.imp (pe_cmp (pc_notN ha) (nobehind _ (by decide) (by decide))) fun σ H Q ⟨φ, μ, sg, r, s, q⟩ => ⟨φ, μ, sg, r, s, q.bindI.mono fun x H1 ⟨φ1, μ1, d1, e1, r1, a1, q1⟩ => by
    rw [non_iff a1]
    exact q1.val r1 (.bl _)⟩
theorem ta_isN {j : Nat} {pos' : Pos} (ha : PE X a (aE X ca W f)) : PT X (.Compare a [.Is] [.Constant .none j pos'] pos) (aT X ca W (tst fun σ μ => (f σ μ).bind fun d μ => .ok (.bl (isNon d)) μ)) :=
  PT.imp (pt_cmp (pc_isN ha) (nobehind _ (by decide) (by decide))) fun σ H Q ⟨φ, μ, sg, r, s, q⟩ => by
  unfold tst at q
  simp only [R.bind_bind] at q
  exact ⟨φ, μ, sg, r, s, q.bindI.mono fun x H1 ⟨φ1, μ1, d1, e1, r1, a1, q1⟩ => by
    rw [non_iff a1]
    exact ⟨_, rfl, q1 φ1 H1 _ (Ext.refl _ _) r1 rfl⟩⟩
theorem ta_notN {j : Nat} {pos' : Pos} (ha : PE X a (aE X ca W f)) : PT X (.Compare a [.IsNot] [.Constant .none j pos'] pos) (aT X ca W (tst fun σ μ => (f σ μ).bind fun d μ => .ok (.bl (!isNon d)) μ)) :=
  PT.imp (pt_cmp (pc_notN ha) (nobehind _ (by decide) (by decide))) fun σ H Q ⟨φ, μ, sg, r, s, q⟩ => by
  unfold tst at q
  simp only [R.bind_bind] at q
  exact ⟨φ, μ, sg, r, s, q.bindI.mono fun x H1 ⟨φ1, μ1, d1, e1, r1, a1, q1⟩ => by
    rw [non_iff a1]
    exact ⟨_, rfl, q1 φ1 H1 _ (Ext.refl _ _) r1 rfl⟩⟩
/-- a op b op c -/
def chainR (o o' : Cmp) (f g h : Env → Mem → R D) : Env → Mem → R D := fun σ μ => (f σ μ).bind fun x μ => (g σ μ).bind fun y μ => (evCmp o x y μ).bind fun k μ => match k with
    | .bl true => (h σ μ).bind fun z μ => evCmp o' y z μ
    | .bl false => .ok (.bl false) μ
    | _ => .bad
theorem chain_last {K : PySem.W.Frag} {o o' : Cmp} {h : Env → Mem → R D} {y : D} {yv z : V} {d : D} {Q : V → Hp → Prop} (r : Rel X.K ca φ H μ) (s : Sl X.K ca φ H σ sg) (ay : At X.K ca φ H yv y) (az : At X.K ca φ H z d)
    (q : Post X.K ca φ H (match (motive := D → R D) d with
      | .bl true => (h sg μ).bind fun z μ => evCmp o' y z μ
      | .bl false => .ok (.bl false) μ
      | _ => .bad) Q (fun c d H' => W c d σ H')) : ∃ k, z = .bl k ∧ (if k = true then aE X ca W h σ H (fun w' H4 => rA X ca (evCmp o') yv w' H4 Q) else Q (.bl false) H) := by
  split at q
  · cases az
    refine ⟨true, rfl, iteT ⟨φ, μ, sg, r, s, q.bindI.mono fun w H1 ⟨φ1, μ1, d1, e1, r1, a1, q1⟩ => ⟨φ1, μ1, y, d1, _, r1, ay.ext e1, a1, q1⟩⟩⟩
  · cases az
    exact ⟨false, rfl, iteF (q.val r (.bl _))⟩
  · exact q.elim
theorem ea_chain {o o' : Cmp} (ho : OpR X (compareOp (cmpOp o)) (rA X ca (evCmp o))) (ho' : OpR X (compareOp (cmpOp o')) (rA X ca (evCmp o'))) (ha : PE X a (aE X ca W f)) (hb : PE X b (aE X ca W g)) (hc : PE X c (aE X ca W h)) (hm : lastMarks [cmpOp o, cmpOp o'] [b, c] = false) :
    PE X (.Compare a [cmpOp o, cmpOp o'] [b, c] pos) (aE X ca W (chainR o o' f g h)) := PE.imp (pe_chain ho ho' ha hb hc hm) fun σ H Q ⟨φ, μ, sg, r, s, q⟩ => by
  unfold chainR at q
  exact ⟨φ, μ, sg, r, s, q.bindI.mono fun x H1 ⟨φ1, μ1, d1, e1, r1, a1, q1⟩ => ⟨φ1, μ1, sg, r1, s.ext e1, q1.bindI.mono fun y H2 ⟨φ2, μ2, d2, e2, r2, a2, q2⟩ => ⟨φ2, μ2, d1, d2, _, r2, a1.ext e2, a2,
    q2.bindI.mono fun z H3 ⟨φ3, μ3, d3, e3, r3, a3, q3⟩ => chain_last (K := X.K) (o := o) r3 ((s.ext e1).ext (e2.trans e3)) (a2.ext e3) a3 q3⟩⟩⟩
theorem ta_chain {o o' : Cmp} (ho : OpR X (compareOp (cmpOp o)) (rA X ca (evCmp o))) (ho' : OpR X (compareOp (cmpOp o')) (rA X ca (evCmp o'))) (ha : PE X a (aE X ca W f)) (hb : PE X b (aE X ca W g)) (hc : PE X c (aE X ca W h)) (hm : lastMarks [cmpOp o, cmpOp o'] [b, c] = false) :
    PT X (.Compare a [cmpOp o, cmpOp o'] [b, c] pos) (aT X ca W (tst (chainR o o' f g h))) := PT.imp (pt_chain ho ho' ha hb hc hm) fun σ H Q ⟨φ, μ, sg, r, s, q⟩ => by
  unfold tst chainR at q
  simp only [R.bind_bind] at q
  refine ⟨φ, μ, sg, r, s, q.bindI.mono fun x H1 ⟨φ1, μ1, d1, e1, r1, a1, q1⟩ => ⟨φ1, μ1, sg, r1, s.ext e1, q1.bindI.mono fun y H2 ⟨φ2, μ2, d2, e2, r2, a2, q2⟩ => ⟨φ2, μ2, d1, d2, _, r2, a1.ext e2, a2,
    q2.bindI.mono fun z H3 ⟨φ3, μ3, d3, e3, r3, a3, q3⟩ => chain_last (K := X.K) (o := o) r3 ((s.ext e1).ext (e2.trans e3)) (a2.ext e3) a3 ?_⟩⟩⟩
  refine bl_post (fun d' μ' e => ?_) q3
  split at e
  · cases e4 : h sg μ3 with
    | ok z μ4 => rw [e4] at e; exact evCmp_bl e
    | err _ _ _ => rw [e4] at e; cases e
    | bad => rw [e4] at e; cases e
  · cases e
    exact ⟨_, rfl⟩
  · cases e
/-- a if t else b -/
theorem ea_if {t : Env → Mem → R Bool} (hc : PT X c (aT X ca W t)) (ha : PE X a (aE X ca W f)) (hb : PE X b (aE X ca W g)) : PE X (.IfExp c a b pos) (aE X ca W fun σ μ => (t σ μ).bind fun k μ => if k = true then f σ μ else g σ μ) :=
  PE.imp (pe_ifExp hc ha hb) fun σ H Q ⟨φ, μ, sg, r, s, q⟩ => ⟨φ, μ, sg, r, s, q.bindI.mono fun x H1 ⟨φ1, μ1, d1, e1, r1, a1, q1⟩ => by
    cases a1
    cases x with
    | true => exact iteT ⟨φ1, μ1, sg, r1, s.ext e1, q1⟩
    | false => exact iteF ⟨φ1, μ1, sg, r1, s.ext e1, q1⟩⟩
end
end PI

/-! and, or; argument lists, displays; subscripts; calls of built-ins; targets; what is walked; comprehensions -/
namespace PI
open PySem PySem.Spec PyProof.Rows L2
section
variable {X : Cx} {ca : Nat → Addr} {W : WX} {pos p : Pos} {a b c : Expr} {es rest : List Expr} {f g h : Env → Mem → R D} {fl : Env → Mem → R (List D)} {φ : List Addr} {H : Hp} {μ : Mem} {sg : Env} {σ : L2.St}
/-! ### and, or -/
theorem ea_and (ha : PE X a (aE X ca W f)) (hb : PE X (.BoolOp .And (b :: rest) pos) (aE X ca W g)) : PE X (.BoolOp .And (a :: b :: rest) pos) (aE X ca W fun σ μ => (f σ μ).bind fun d μ => match truth μ d with
    | some true => g σ μ
    | some false => .ok d μ
    | none => .bad) := PE.imp (pe_andT ha hb) fun σ H Q ⟨φ, μ, sg, r, s, q⟩ => ⟨φ, μ, sg, r, s, q.bindI.mono fun x H1 ⟨φ1, μ1, d1, e1, r1, a1, q1⟩ => by
  dsimp only at q1
  split at q1
  · rename_i e
    exact ⟨true, truth_at r1 a1 e, iteT ⟨φ1, μ1, sg, r1, s.ext e1, q1⟩⟩
  · rename_i e
    exact ⟨false, truth_at r1 a1 e, iteF (q1.val r1 a1)⟩
  · exact q1.elim⟩
theorem ea_or (ha : PE X a (aE X ca W f)) (hb : PE X (.BoolOp .Or (b :: rest) pos) (aE X ca W g)) : PE X (.BoolOp .Or (a :: b :: rest) pos) (aE X ca W fun σ μ => (f σ μ).bind fun d μ => match truth μ d with
    | some false => g σ μ
    | some true => .ok d μ
    | none => .bad) := PE.imp (pe_orT ha hb) fun σ H Q ⟨φ, μ, sg, r, s, q⟩ => ⟨φ, μ, sg, r, s, q.bindI.mono fun x H1 ⟨φ1, μ1, d1, e1, r1, a1, q1⟩ => by
  dsimp only at q1
  split at q1
  · rename_i e
    exact ⟨false, truth_at r1 a1 e, iteF ⟨φ1, μ1, sg, r1, s.ext e1, q1⟩⟩
  · rename_i e
    exact ⟨true, truth_at r1 a1 e, iteT (q1.val r1 a1)⟩
  · exact q1.elim⟩
variable {t u : Env → Mem → R Bool}
theorem tw_and (ha : PT X a (aT X ca W t)) (hb : PW X (.BoolOp .And (b :: rest) pos) (aT X ca W u)) : PW X (.BoolOp .And (a :: b :: rest) pos) (aT X ca W fun σ μ => (t σ μ).bind fun k μ => if k = true then u σ μ else .ok false μ) :=
  PW.imp (pw_and ha hb) fun σ H Q ⟨φ, μ, sg, r, s, q⟩ => ⟨φ, μ, sg, r, s, q.bindI.mono fun x H1 ⟨φ1, μ1, d1, e1, r1, a1, q1⟩ => by
  cases a1
  cases x with
  | true => exact iteT ⟨φ1, μ1, sg, r1, s.ext e1, q1⟩
  | false => exact iteF (q1 φ1 H1 false (Ext.refl _ _) r1 rfl)⟩
theorem tw_or (ha : PT X a (aT X ca W t)) (hb : PW X (.BoolOp .Or (b :: rest) pos) (aT X ca W u)) : PW X (.BoolOp .Or (a :: b :: rest) pos) (aT X ca W fun σ μ => (t σ μ).bind fun k μ => if k = true then .ok true μ else u σ μ) :=
  PW.imp (pw_or ha hb) fun σ H Q ⟨φ, μ, sg, r, s, q⟩ => ⟨φ, μ, sg, r, s, q.bindI.mono fun x H1 ⟨φ1, μ1, d1, e1, r1, a1, q1⟩ => by
  cases a1
  cases x with
  | false => exact iteF ⟨φ1, μ1, sg, r1, s.ext e1, q1⟩
  | true => exact iteT (q1 φ1 H1 true (Ext.refl _ _) r1 rfl)⟩
/-! ### arguments, displays -/
theorem la_nil : PA X [] (aL X ca W fun _ μ => .ok [] μ) := PA.imp pa_nil fun σ H Q ⟨φ, μ, sg, r, s, q⟩ => q φ H [] (Ext.refl _ _) r .nil
theorem la_cons (ha : PE X a (aE X ca W f)) (hb : PA X es (aL X ca W fl)) (hs : starEach (a :: es) X.env = (false, eval a X.env) :: starEach es X.env) : PA X (a :: es) (aL X ca W fun σ μ => (f σ μ).bind fun d μ => (fl σ μ).bind fun ds μ => .ok (d :: ds) μ) :=
  PA.imp (pa_cons ha hb hs) fun σ H Q ⟨φ, μ, sg, r, s, q⟩ => ⟨φ, μ, sg, r, s, q.bindI.mono fun x H1 ⟨φ1, μ1, d1, e1, r1, a1, q1⟩ => ⟨φ1, μ1, sg, r1, s.ext e1, q1.bindI.mono fun xs H2 ⟨φ2, μ2, ds, e2, r2, a2, q2⟩ =>
    q2 φ2 H2 _ (Ext.refl _ _) r2 (.cons (a1.ext e2) a2)⟩⟩
theorem ea_tup {x1 : Nat} (ha : PA X es (aL X ca W fl)) : PE X (.Tuple es x1 pos) (aE X ca W fun σ μ => (fl σ μ).bind fun ds μ => if ds.length ≤ lim then .ok (.tup ds) μ else .bad) :=
  PE.imp (pe_tup ha) fun σ H Q ⟨φ, μ, sg, r, s, q⟩ => ⟨φ, μ, sg, r, s, q.bindI.mono fun xs H1 ⟨φ1, μ1, ds, e1, r1, a1, q1⟩ => by
  dsimp only at q1
  split at q1
  · rename_i hl
    exact ⟨by rw [a1.length]; exact hl, fun p hp => tup_post q1 r1 a1 hp⟩
  · exact q1.elim⟩
theorem ea_lst (ha : PA X es (aL X ca W fl)) : PE X (.List es pos) (aE X ca W fun σ μ => (fl σ μ).bind fun ds μ => if ds.length ≤ lim then newL μ ds else .bad) :=
  PE.imp (pe_lst ha) fun σ H Q ⟨φ, μ, sg, r, s, q⟩ => ⟨φ, μ, sg, r, s, q.bindI.mono fun xs H1 ⟨φ1, μ1, ds, e1, r1, a1, q1⟩ => by
  dsimp only at q1
  split at q1
  · rename_i hl
    exact ⟨by rw [a1.length]; exact hl, fun p hp => newL_post q1 r1 a1 hp⟩
  · exact q1.elim⟩
/-! ### subscripts -/
theorem ea_idx (hu : X.A.units + 170 < cLine) (ha : PE X a (aE X ca W f)) (hb : PE X b (aE X ca W g)) (hs : PlainIx b) : PE X (.Subscript a b pos) (aE X ca W fun σ μ => (f σ μ).bind fun x μ => (g σ μ).bind fun y μ => evIdx x y μ) :=
  PE.imp (pe_ix (ix_ok (ca := ca) hu) ha hb hs) fun σ H Q ⟨φ, μ, sg, r, s, q⟩ =>
  ⟨φ, μ, sg, r, s, q.bindI.mono fun x H1 ⟨φ1, μ1, d1, e1, r1, a1, q1⟩ => ⟨φ1, μ1, sg, r1, s.ext e1, q1.bindI.mono fun y H2 ⟨φ2, μ2, d2, e2, r2, a2, q2⟩ => ⟨φ2, μ2, d1, d2, _, r2, a1.ext e2, a2, q2⟩⟩⟩
variable {o o' : Env → Mem → R (Option Int)} {lo hi : Option Expr}
theorem oa_none : PO X none (aO X ca W fun _ μ => .ok none μ) := PO.imp po_none fun σ H Q ⟨φ, μ, sg, r, s, q⟩ => q φ H none (Ext.refl _ _) r rfl
theorem oa_some (ha : PE X a (aE X ca W f)) : PO X (some a) (aO X ca W fun σ μ => (f σ μ).bind fun d μ => match d with
    | .int i => .ok (some i) μ
    | _ => .bad) := PO.imp (po_some ha) fun σ H Q ⟨φ, μ, sg, r, s, q⟩ => ⟨φ, μ, sg, r, s, q.bindI.mono fun x H1 ⟨φ1, μ1, d1, e1, r1, a1, q1⟩ => by
  dsimp only at q1
  split at q1
  · cases a1
    exact ⟨_, rfl, q1 φ1 H1 _ (Ext.refl _ _) r1 rfl⟩
  · exact q1.elim⟩
theorem ea_slc {p2 : Pos} (ha : PE X a (aE X ca W f)) (hl : PO X lo (aO X ca W o)) (hh : PO X hi (aO X ca W o')) : PE X (.Subscript a (.Slice lo hi none p2) pos) (aE X ca W fun σ μ => (f σ μ).bind fun x μ => (o σ μ).bind fun l μ => (o' σ μ).bind fun h μ => evSlc x l h μ) :=
  PE.imp (pe_slice (sl_ok (ca := ca)) ha hl hh) fun σ H Q ⟨φ, μ, sg, r, s, q⟩ => ⟨φ, μ, sg, r, s, q.bindI.mono fun x H1 ⟨φ1, μ1, d1, e1, r1, a1, q1⟩ => ⟨φ1, μ1, sg, r1, s.ext e1,
    q1.bindI.mono fun l H2 ⟨φ2, μ2, d2, e2, r2, a2, q2⟩ => ⟨φ2, μ2, sg, r2, (s.ext e1).ext e2, q2.bindI.mono fun h H3 ⟨φ3, μ3, d3, e3, r3, a3, q3⟩ => by
      cases a2
      cases a3
      exact ⟨φ3, μ3, d1, _, r3, (a1.ext e2).ext e3, q3⟩⟩⟩⟩
/-! ### calls of built-ins -/
variable {x : Str} {id T : String} {ev : List D → Mem → R D}
theorem ea_bi (hc : CallR X (.builtin id) (rC X ca ev)) (hg : Gl X x) (hm : X.mg x = none) (hv : bootBuiltins x = some (.builtin id)) (ha : PA X (a :: es) (aL X ca W fl)) (hn : x ≠ "__name__") (hd : (x == ("__debug__" : Str)) = false)
    (he : starEach (a :: es) X.env = (false, eval a X.env) :: starEach es X.env) (hpl : (backTo pos (starEach es X.env)).any (·.1) = false) : PE X (.Call (.Name x p) (a :: es) [] pos) (aE X ca W fun σ μ => (fl σ μ).bind fun ds μ => ev ds μ) :=
  PE.imp (pe_callB hc hg hm hv ha hn hd he hpl) fun σ H Q ⟨φ, μ, sg, r, s, q⟩ => ⟨φ, μ, sg, r, s, q.bindI.mono fun xs H1 ⟨φ1, μ1, ds, e1, r1, a1, q1⟩ => ⟨φ1, μ1, ds, _, r1, a1, q1⟩⟩
theorem ea_bt (hc : CallR X (.type T) (rC X ca ev)) (hg : Gl X x) (hm : X.mg x = none) (hv : bootBuiltins x = some (.type T)) (ha : PA X (a :: es) (aL X ca W fl)) (hn : x ≠ "__name__") (hd : (x == ("__debug__" : Str)) = false)
    (he : starEach (a :: es) X.env = (false, eval a X.env) :: starEach es X.env) (hpl : (backTo pos (starEach es X.env)).any (·.1) = false) : PE X (.Call (.Name x p) (a :: es) [] pos) (aE X ca W fun σ μ => (fl σ μ).bind fun ds μ => ev ds μ) :=
  PE.imp (pe_callTy hc hg hm hv ha hn hd he hpl) fun σ H Q ⟨φ, μ, sg, r, s, q⟩ => ⟨φ, μ, sg, r, s, q.bindI.mono fun xs H1 ⟨φ1, μ1, ds, e1, r1, a1, q1⟩ => ⟨φ1, μ1, ds, _, r1, a1, q1⟩⟩
/-! ### targets -/
mutual
def slotsG : G → List Nat
  | .nm i => [i]
  | .tup gs => slotsL gs
def slotsL : List G → List Nat
  | [] => []
  | g :: gs => slotsG g ++ slotsL gs
end
theorem wipe_get {σ : L2.St} {i : Nat} : ∀ {vs : List Nat}, i ∈ vs → (L2.wipe σ vs)[i]? = if i < σ.length then some none else none
  | [], h => by simp at h
  | v :: vs, h => by
    unfold L2.wipe
    by_cases hv : v = i
    · subst hv
      by_cases hl : v < σ.length
      · rw [List.getElem?_set_self (by rw [wipe_length]; exact hl), if_pos hl]
      · rw [List.getElem?_eq_none (by rw [List.length_set, wipe_length]; omega), if_neg hl]
    · rw [List.getElem?_set_ne hv]
      exact wipe_get ((List.mem_cons.mp h).resolve_left (fun z => hv z.symm))
theorem wipe_set {σ : L2.St} {i : Nat} {x : Option V} {vs : List Nat} (h : i ∈ vs) : L2.wipe (σ.set i x) vs = L2.wipe σ vs := by
  apply List.ext_getElem?
  intro j
  by_cases hj : j ∈ vs
  · rw [wipe_get hj, wipe_get hj, List.length_set]
  · rw [wipe_out hj, wipe_out hj, List.getElem?_set_ne (fun z => hj (by rw [← z]; exact h))]
/-- the slots behind a target -/
def aGt (X : Cx) (ca : Nat → Addr) (f : D → Env → Option Env) (sl : List Nat) : TG := fun v σ H Q => ∃ φ μ sg d, Rel X.K ca φ H μ ∧ Sl X.K ca φ H σ sg ∧ At X.K ca φ H v d ∧ (match f d sg with
  | some sg' => ∀ σ', Sl X.K ca φ H σ' sg' → (∀ vs, (∀ i ∈ sl, i ∈ vs) → L2.wipe σ' vs = L2.wipe σ vs) → Q σ' H
  | none => False)
def aGts (X : Cx) (ca : Nat → Addr) (f : List D → Env → Option Env) (sl : List Nat) : TGs := fun vs σ H Q => ∃ φ μ sg ds, Rel X.K ca φ H μ ∧ Sl X.K ca φ H σ sg ∧ AtL X.K ca φ H vs ds ∧ (match f ds sg with
  | some sg' => ∀ σ', Sl X.K ca φ H σ' sg' → (∀ vs, (∀ i ∈ sl, i ∈ vs) → L2.wipe σ' vs = L2.wipe σ vs) → Q σ' H
  | none => False)
theorem PG.imp {e : Expr} {t t' : TG} (h : PG X e t) (w : ∀ v σ H Q, t' v σ H Q → t v σ H Q) : PG X e t' := ⟨fun pins s σ H v u Q I r q => h.run pins s σ H v u Q I r (w _ _ _ _ q)⟩
theorem PGs.imp {e : List Expr} {t t' : TGs} (h : PGs X e t) (w : ∀ v σ H Q, t' v σ H Q → t v σ H Q) : PGs X e t' := ⟨fun pins s σ H v u Q I r q => h.run pins s σ H v u Q I r (w _ _ _ _ q)⟩
theorem ga_nm {i : Nat} (hN : X.N.Nodup) (hi : X.N[i]? = some x) (hx : Loc X.env.scope x) (hf : X.fn x = true ∨ X.env.scope.names.lookup x = some .local) : PG X (.Name x pos) (aGt X ca (asgG (.nm i)) (slotsG (.nm i))) :=
  PG.imp (pg_name hN hi hx hf) fun v σ H Q ⟨φ, μ, sg, d, r, s, a, q⟩ => by
    unfold asgG at q
    split at q
    · rename_i sg' e
      split at e
      · cases e
        refine q _ (s.set a) fun vs hv => wipe_set (hv i ?_)
        unfold slotsG
        exact List.mem_singleton.mpr rfl
      · cases e
    · exact q.elim
theorem ga_nil : PGs X [] (aGts X ca (asgL []) (slotsL [])) := PGs.imp pgs_nil fun vs σ H Q ⟨φ, μ, sg, ds, r, s, a, q⟩ => by
  cases a with
  | nil => exact ⟨rfl, q σ s fun _ _ => rfl⟩
  | cons _ _ => exact q.elim
theorem ga_cons {gg : G} {gs : List G} (h1 : PG X a (aGt X ca (asgG gg) (slotsG gg))) (h2 : PGs X es (aGts X ca (asgL gs) (slotsL gs))) (hs : (assignEach (a :: es) X.env).map (·.2) = assign a X.env :: (assignEach es X.env).map (·.2)) :
    PGs X (a :: es) (aGts X ca (asgL (gg :: gs)) (slotsL (gg :: gs))) := PGs.imp (pgs_cons h1 h2 hs) fun vs σ H Q ⟨φ, μ, sg, ds, r, s, aa, q⟩ => by
  cases aa with
  | nil => exact q.elim
  | @cons v vs d ds a1 t =>
    refine ⟨v, vs, rfl, φ, μ, sg, d, r, s, a1, ?_⟩
    unfold asgL at q
    split at q
    · rename_i sg' e
      split at e
      · rename_i sg1 e1
        (try rw [e1])
        intro σ1 s1 w1
        refine ⟨φ, μ, sg1, ds, r, s1, t, ?_⟩
        (try rw [e])
        intro σ2 s2 w2
        refine q σ2 s2 fun vs hv => ?_
        rw [w2 vs fun i hi => hv i (by unfold slotsL; exact List.mem_append_right _ hi), w1 vs fun i hi => hv i (by unfold slotsL; exact List.mem_append_left _ hi)]
      · cases e
    · exact q.elim
theorem asgL_len : ∀ {gs : List G} {xs : List D} {sg sg' : Env}, asgL gs xs sg = some sg' → gs.length = xs.length
  | [], [], _, _, _ => rfl
  | [], _ :: _, _, _, e => by unfold asgL at e; cases e
  | _ :: _, [], _, _, e => by unfold asgL at e; cases e
  | g :: gs, x :: xs, _, _, e => by
    unfold asgL at e
    split at e
    · rw [List.length_cons, List.length_cons, asgL_len e]
    · cases e
theorem ga_tup {k : Nat} {gs : List G} (hc : X.calm = true) (h : PGs X es (aGts X ca (asgL gs) (slotsL gs))) (hn : (assignEach es X.env).length = gs.length) (hst : (assignEach es X.env).findIdx? (·.1) = none) :
    PG X (.Tuple es k pos) (aGt X ca (asgG (.tup gs)) (slotsG (.tup gs))) := PG.imp (pg_tup hc h hn hst) fun v σ H Q ⟨φ, μ, sg, d, r, s, a, q⟩ => by
  unfold asgG at q
  cases a with
  | @tup pa vs ds h1 h2 =>
    dsimp only at q
    split at q
    · rename_i sg' e
      exact ⟨pa, vs, rfl, h1.sq, by rw [h2.length, asgL_len e], φ, μ, sg, ds, r, s, h2, by rw [e]; exact fun σ' s' w' => q σ' s' fun vs hv => w' vs (by unfold slotsG at hv; exact hv)⟩
    · exact q.elim
  | _ => exact q.elim
end
end PI

/-! what is walked; comprehensions; loops -/
namespace PI
open PySem PySem.Spec PyProof.Rows L2
section
variable {X : Cx} {ca : Nat → Addr} {W : WX} {pos p : Pos} {a b c tg : Expr} {es rest : List Expr} {f g h : Env → Mem → R D} {fl : Env → Mem → R (List D)} {φ : List Addr} {H : Hp} {μ : Mem} {sg : Env} {σ : L2.St}
/-- an iterator yields these, while its sources stand still -/
def ItOk (K : PySem.W.Frag) (ca : Nat → Addr) (φ0 : List Addr) (H0 : Hp) (J : L2.It) (p : Items) : Prop := ∀ (i : Nat) (φ : List Addr) (μ : Mem) (H : Hp), Ext φ0 H0 φ H → Rel K ca φ H μ → Still p.2 μ →
  (∀ d, p.1[i]? = some d → J.go i H ∧ ∀ x H', J.yld i H x H' → Ext φ H φ H' ∧ Rel K ca φ H' μ ∧ At K ca φ H' x d) ∧ (i = p.1.length → J.stop i H)
/-- nothing is locked at a -/
def NoLk (H : Hp) (a : Addr) : Prop := ∀ od u, H a ≠ some (.frz od u)
/-- .. and what is locked for the walk was open before it -/
structure ItX (X : Cx) (ca : Nat → Addr) (H0 : Hp) (φ : List Addr) (H : Hp) (J : L2.It) (p : Items) : Prop where
  ok : ItOk X.K ca φ H J p
  lk : ∀ m kvs, p.2 = [(m, .dct .t kvs)] → ∃ a, φ[m]? = some a ∧ NoLk X.H_0 a ∧ NoLk H0 a
def aI (X : Cx) (ca : Nat → Addr) (W : WX) (f : Env → Mem → R Items) : TI := fun σ H R => ∃ φ μ sg, Rel X.K ca φ H μ ∧ Sl X.K ca φ H σ sg ∧ PostG X.K ca (ItX X ca H) φ H (f sg μ) R (fun c d H' => W c d σ H')
/-- unlocked, or as it was -/
def Unl (X : Cx) (H H2 : Hp) : Prop := H2 = H ∨ ∃ a od u, H a = some (.frz od u) ∧ NoLk X.H_0 a ∧ H2 = upd H a u
def tUn (X : Cx) (t : TE) : TE := fun σ H Q => t σ H fun v H1 => ∃ H2, Unl X H1 H2 ∧ Q v H2
theorem unl_inv {X : Cx} {pins : List (Addr × Obj)} {σ : L2.St} {H H2 : Hp} {s : Shared} (u : Unl X H H2) (I : Inv X pins σ H s) : Inv X pins σ H2 s := by
  rcases u with rfl | ⟨a, od, u, h, n, rfl⟩
  · exact I
  · exact I.unlock h n
theorem pe_un {X : Cx} {e : Expr} {t : TE} (h : PE X e t) : PE X e (tUn X t) := ⟨fun pins s σ H Q I hw =>
  thn (h.run pins s σ H _ I hw) fun v s1 ⟨x, H1, I1, r, H2, u, q⟩ => ⟨x, H2, unl_inv u I1, r, q⟩⟩
def tUnS (X : Cx) (t : TS) : TS := fun D σ H => t ⟨fun σ' H' => ∃ H2, Unl X H' H2 ∧ D.nx σ' H2, fun v H' => ∃ H2, Unl X H' H2 ∧ D.rt v H2, fun σ' H' => ∃ H2, Unl X H' H2 ∧ D.bk σ' H2, fun σ' H' => ∃ H2, Unl X H' H2 ∧ D.ct σ' H2⟩ σ H
theorem ps_un {X : Cx} {st : Stmt} {t : TS} (h : PS X st t) : PS X st (tUnS X t) := ⟨fun pins s σ H D I hw => by
  refine thn (h.run pins s σ H _ I hw) fun f s1 q => ?_
  cases f with
  | next => obtain ⟨σ', H', I2, H2, u, q⟩ := q; exact ⟨σ', _, unl_inv u I2, q⟩
  | brk => obtain ⟨σ', H', I2, H2, u, q⟩ := q; exact ⟨σ', _, unl_inv u I2, q⟩
  | cont => obtain ⟨σ', H', I2, H2, u, q⟩ := q; exact ⟨σ', _, unl_inv u I2, q⟩
  | ret v => obtain ⟨x, σ', H', I2, r, H2, u, q⟩ := q; exact ⟨x, σ', _, unl_inv u I2, r, q⟩⟩
/-- the memory's dict, open again -/
theorem unl_ok {X : Cx} {ca : Nat → Addr} {φ0 φ φ2 : List Addr} {H0 H H2 : Hp} {J : L2.It} {p : Items} {μ2 μ3 : Mem} (j : ItX X ca H0 φ H J p) (x0 : Ext φ0 H0 φ2 H2) (x : Ext φ H φ2 H2) (r : Rel X.K ca φ2 H2 μ2) (e : unlO p.2 μ2 = some μ3) :
    ∃ H3, Unl X H2 H3 ∧ Rel X.K ca φ2 H3 μ3 ∧ Ext φ0 H0 φ2 H3 ∧ Ext0 φ2 H2 φ2 H3 := by
  unfold unlO at e
  split at e
  · rename_i m kvs0 es
    obtain ⟨a, ha, n1, n2⟩ := j.lk m _ es
    have ha2 := x.get ha
    split at e
    · rename_i kvs em
      cases e
      obtain ⟨od, ks, h1, h2⟩ := r.ob _ _ _ em ha2
      have ma : a ∈ φ2 := List.mem_of_getElem? ha2
      have e0 : Ext0 φ2 H2 φ2 (upd H2 a (.dK ks)) := Ext0.upAt ma
      refine ⟨upd H2 a (.dK ks), .inr ⟨a, od, _, h1, n1, rfl⟩, r.set ha2 ⟨ks, upd_same, h2.ext0 e0⟩, ⟨x0.toExt0.trans e0, fun b od' u q => ?_⟩, e0⟩
      rw [upd_ne (fun z => n2 od' u (by rw [← z]; exact q))]
      exact x0.lk b od' u q
    · cases e
  · cases e
    exact ⟨H2, .inl rfl, r, x0, Ext0.refl _ _⟩
theorem PI.imp' {t t' : TI} (h : L2.PI X tg a t) (w : ∀ σ H Q, t' σ H Q → t σ H Q) : L2.PI X tg a t' := ⟨fun pins s σ H R I q => h.run pins s σ H R I (w _ _ _ q)⟩
/-- how a sequence stands at later heaps -/
theorem seq_stays {K : PySem.W.Frag} {φ0 φ : List Addr} {H0 H : Hp} {μ0 μ : Mem} {v : V} {d : D} {xs : List D} (r0 : Rel K ca φ0 H0 μ0) (h : At K ca φ0 H0 v d) (e : seqOf μ0 d = some xs) (x : Ext φ0 H0 φ H) (r : Rel K ca φ H μ) (st : Still (srcOf μ0 d) μ) :
    seqOf μ d = some xs ∧ At K ca φ H v d := by
  refine ⟨?_, h.ext x⟩
  cases d with
  | loc m =>
    simp only [seqOf] at e ⊢
    simp only [srcOf] at st
    split at e
    · rename_i ys em
      rw [em] at st
      have := st (m, .lst ys) (List.mem_singleton.mpr rfl)
      dsimp only at this
      rw [this]
      exact e
    · cases e
  | _ => exact e
theorem it_list {K : PySem.W.Frag} {φ : List Addr} {H : Hp} {i : Nat} {pa : Addr} {vs : List V} {xs : List D} (hq : SqL K H pa vs) (ht : AtL K ca φ H vs xs) : (∀ d, xs[i]? = some d → (Itl K pa).go i H ∧ ∀ x H', (Itl K pa).yld i H x H' → H' = H ∧ At K ca φ H x d) ∧ (i = xs.length → (Itl K pa).stop i H) := by
  refine ⟨fun d e => ?_, fun e => ⟨vs, hq, by rw [ht.length, e]; exact Nat.le_refl _⟩⟩
  obtain ⟨v, h1, h2⟩ := ht.get e
  refine ⟨⟨vs, v, hq, h1⟩, fun x H' y => ⟨y.1, ?_⟩⟩
  have := y.2 vs hq
  rw [h1] at this
  cases this
  exact h2
theorem it_tup {K : PySem.W.Frag} {φ : List Addr} {H : Hp} {i : Nat} {pa : Addr} {vs : List V} {xs : List D} (hq : SqT K H pa vs) (ht : AtL K ca φ H vs xs) : (∀ d, xs[i]? = some d → (Itt K pa).go i H ∧ ∀ x H', (Itt K pa).yld i H x H' → H' = H ∧ At K ca φ H x d) ∧ (i = xs.length → (Itt K pa).stop i H) := by
  refine ⟨fun d e => ?_, fun e => ⟨vs, hq, by rw [ht.length, e]; exact Nat.le_refl _⟩⟩
  obtain ⟨v, h1, h2⟩ := ht.get e
  refine ⟨⟨vs, v, hq, h1⟩, fun x H' y => ⟨y.1, ?_⟩⟩
  have := y.2 vs hq
  rw [h1] at this
  cases this
  exact h2
/-- which form a sequence has stays -/
theorem seq_forms {K : PySem.W.Frag} {v : V} {d : D} {xs : List D} {μ : Mem} (r : Rel K ca φ H μ) (h : At K ca φ H v d) (e : seqOf μ d = some xs) :
    (∃ ys, d = .tup ys ∧ ∃ pa vs, v = .ref pa ∧ SqT K H pa vs ∧ AtL K ca φ H vs xs) ∨ ((∀ ys, d ≠ .tup ys) ∧ ∃ pa vs, v = .ref pa ∧ SqL K H pa vs ∧ AtL K ca φ H vs xs) := by
  cases h with
  | tup q t => unfold seqOf at e; cases e; exact .inl ⟨_, rfl, _, _, rfl, q.sq, t⟩
  | fl q n t => unfold seqOf at e; cases e; exact .inr ⟨(fun _ z => nomatch z), _, _, rfl, SqL.of q, t⟩
  | sl q t => unfold seqOf at e; cases e; exact .inr ⟨(fun _ z => nomatch z), _, _, rfl, q.sq, t⟩
  | loc hm =>
    simp only [seqOf] at e
    split at e
    · rename_i ys em
      cases e
      obtain ⟨vs, q, t⟩ := r.ob _ _ _ em hm
      exact .inr ⟨(fun _ z => nomatch z), _, _, rfl, SqL.of q, t⟩
    · cases e
  | _ => unfold seqOf at e; cases e
/-- a list or a tuple, whichever comes -/
def iSeq (K : PySem.W.Frag) (tl : TE) : TI := fun σ H R => tl σ H fun x H1 => ∃ pa, x = .ref pa ∧ (((∃ xs, SqL K H1 pa xs) ∧ R (Itl K pa) H1) ∨ ((∃ xs, SqT K H1 pa xs) ∧ R (Itt K pa) H1))
theorem pi_seq {t : TE} (he : PE X a t) : L2.PI X tg a (iSeq X.K t) := by
  constructor
  intro pins s σ H R I hw
  refine thn (he.run pins s σ H _ I hw) ?_
  rintro v s1 ⟨x, H1, I1, rx, pa, rfl, q⟩
  cases rx
  have up : ∀ {o : Obj} (k : Addr) (ob : Obj), s1.heap.get? k = some ob → (s1.heap.push o).get? k = some ob := fun k ob e => Heap.get?_push_of_some _ e
  have young : ∀ k ∈ [s1.heap.objs.size], FpOk X pins H1 k := by
    intro k hk
    rw [List.mem_singleton.mp hk]
    exact I1.fpOk (Nat.le_refl _) (I1.hok.fresh (Nat.le_refl _))
  rcases q with ⟨⟨xs, hq⟩, q⟩ | ⟨⟨xs, hq⟩, q⟩
  · obtain ⟨its, _, pl, _⟩ := I1.list hq
    exact wpAny_pyIter_list pl.isList ⟨_, _, _, _, _, rfl, I1.kept (t' := s1.toks) up, turn_list pa s1.heap.objs.size, ⟨_, Heap.get?_push_size _ rfl, rfl, rfl⟩, young, q⟩
  · obtain ⟨its, _, pl, _⟩ := I1.tuple hq
    exact wpAny_pyIter_tuple pl ⟨_, _, _, _, _, rfl, I1.kept (t' := s1.toks) up, turn_tuple pa s1.heap.objs.size, ⟨_, Heap.get?_push_size _ rfl, rfl, rfl⟩, young, q⟩
theorem nolk_src {μ : Mem} {d : D} {xs : List D} (e : seqOf μ d = some xs) {m : Nat} {kvs : List (D × D)} (z : srcOf μ d = [(m, .dct .t kvs)]) : False := by
  cases d with
  | loc k =>
    simp only [seqOf] at e
    simp only [srcOf] at z
    split at e
    · rename_i ys em
      rw [em] at z
      cases z
    · cases e
  | _ => unfold srcOf at z; cases z
/-- for x in e -/
theorem ia_seq (ha : PE X a (aE X ca W f)) : L2.PI X tg a (aI X ca W fun σ μ => (f σ μ).bind fun d μ => itSeq μ d) := PI.imp' (pi_seq ha) fun σ H Q ⟨φ, μ, sg, r, s, q⟩ =>
  ⟨φ, μ, sg, r, s, q.bind0.mono fun x H1 ⟨φ1, μ1, d, e1, r1, a1, q1⟩ => by
    unfold itSeq at q1
    dsimp only at q1
    split at q1
    · rename_i xs e
      rcases seq_forms r1 a1 e with ⟨ys, rfl, pa, vs, rfl, hq, ht⟩ | ⟨hn, pa, vs, rfl, hq, ht⟩
      · refine ⟨pa, rfl, .inr ⟨⟨vs, hq⟩, q1 φ1 H1 _ e1 r1 ⟨?_, fun m kvs z => (nolk_src e z).elim⟩⟩⟩
        intro i φ2 μ2 H2 x2 r2 st
        obtain ⟨e', a'⟩ := seq_stays r1 a1 e x2 r2 st
        rcases seq_forms r2 a' e' with ⟨_, _, pb, ws, eb, hq', ht'⟩ | ⟨hn, _⟩
        · cases eb
          have z := it_tup (i := i) hq' ht'
          exact ⟨fun d hd => ⟨(z.1 d hd).1, fun x H' y => by
            obtain ⟨rfl, y2⟩ := (z.1 d hd).2 x H' y
            exact ⟨Ext.refl _ _, r2, y2⟩⟩, z.2⟩
        · exact absurd rfl (hn _)
      · refine ⟨pa, rfl, .inl ⟨⟨vs, hq⟩, q1 φ1 H1 _ e1 r1 ⟨?_, fun m kvs z => (nolk_src e z).elim⟩⟩⟩
        intro i φ2 μ2 H2 x2 r2 st
        obtain ⟨e', a'⟩ := seq_stays r1 a1 e x2 r2 st
        rcases seq_forms r2 a' e' with ⟨_, rfl, _⟩ | ⟨_, pb, ws, eb, hq', ht'⟩
        · exact absurd rfl (hn _)
        · cases eb
          have z := it_list (i := i) hq' ht'
          exact ⟨fun d hd => ⟨(z.1 d hd).1, fun x H' y => by
            obtain ⟨rfl, y2⟩ := (z.1 d hd).2 x H' y
            exact ⟨Ext.refl _ _, r2, y2⟩⟩, z.2⟩
    · exact q1.elim⟩
theorem rngD_get {lo : Int} {n i : Nat} {d : D} (h : (rngD lo n)[i]? = some d) : i < n ∧ d = .int (lo + (i : Nat)) := by
  unfold rngD at h
  rw [List.getElem?_map] at h
  obtain ⟨j, h1, rfl⟩ := Option.map_eq_some_iff.mp h
  have hl := (List.getElem?_eq_some_iff.mp h1).1
  rw [List.length_range] at hl
  rw [List.getElem?_range hl] at h1
  cases h1
  exact ⟨hl, rfl⟩
theorem rng_ok {K : PySem.W.Frag} {φ : List Addr} {H : Hp} (lo : Int) (n : Nat) : ItOk K ca φ H (Itr lo n) (rngD lo n, []) := by
  intro i φ2 μ2 H2 x2 r2 st
  refine ⟨fun d hd => ?_, fun e => ?_⟩
  · obtain ⟨h1, rfl⟩ := rngD_get hd
    exact ⟨h1, fun x H' y => by
      obtain ⟨rfl, rfl⟩ := y
      exact ⟨Ext.refl _ _, r2, .int _⟩⟩
  · show n ≤ i
    unfold rngD at e
    rw [List.length_map, List.length_range] at e
    omega
theorem b62 {i : Int} (h : B62 i = true) : -(2 ^ 62) ≤ i ∧ i < 2 ^ 62 := by
  unfold B62 at h
  rw [Bool.and_eq_true] at h
  exact ⟨of_decide_eq_true h.1, of_decide_eq_true h.2⟩
theorem ia_rng1 (hg : Gl X "range") (hm : X.mg "range" = none) (ha : PA X [a] (aL X ca W fl)) (hs : starEach [a] X.env = [(false, eval a X.env)]) (hl : ∀ σ μ ds μ', fl σ μ = .ok ds μ' → ds.length = 1) :
    L2.PI X tg (.Call (.Name "range" p) [a] [] pos) (aI X ca W fun σ μ => (fl σ μ).bind fun ds μ => itRng μ ds) := PI.imp' (pi_range1 hg hm ha hs) fun σ H Q ⟨φ, μ, sg, r, s, q⟩ =>
  ⟨φ, μ, sg, r, s, by
    dsimp only at q
    cases e : fl sg μ with
    | ok ds μ' =>
      have h1 := hl _ _ _ _ e
      rw [e] at q
      intro φ1 H1 vs e1 r1 a1
      have q1 := q
      unfold R.bind at q1
      dsimp only at q1
      unfold itRng at q1
      split at q1
      · rename_i j
        obtain ⟨v, rfl, a2⟩ := a1.one
        cases a2
        split at q1
        · rename_i hb
          exact ⟨j, rfl, (b62 hb).1, (b62 hb).2, q1 φ1 H1 _ e1 r1 ⟨rng_ok 0 j.toNat, fun m kvs z => nomatch z⟩⟩
        · exact q1.elim
      · simp at h1
      · exact q1.elim
    | err cc xs μ' =>
      rw [e] at q
      cases xs with
      | nil => exact q
      | cons _ _ => exact q
    | bad => rw [e] at q; exact q⟩
theorem ia_rng2 (hg : Gl X "range") (hm : X.mg "range" = none) (ha : PA X [a, b] (aL X ca W fl)) (hs : starEach [a, b] X.env = [(false, eval a X.env), (false, eval b X.env)]) (hs2 : starEach [b] X.env = [(false, eval b X.env)]) (hl : ∀ σ μ ds μ', fl σ μ = .ok ds μ' → ds.length = 2) :
    L2.PI X tg (.Call (.Name "range" p) [a, b] [] pos) (aI X ca W fun σ μ => (fl σ μ).bind fun ds μ => itRng μ ds) := PI.imp' (pi_range2 hg hm ha hs hs2) fun σ H Q ⟨φ, μ, sg, r, s, q⟩ =>
  ⟨φ, μ, sg, r, s, by
    dsimp only at q
    cases e : fl sg μ with
    | ok ds μ' =>
      have h1 := hl _ _ _ _ e
      rw [e] at q
      intro φ1 H1 vs e1 r1 a1
      have q1 := q
      unfold R.bind at q1
      dsimp only at q1
      unfold itRng at q1
      split at q1
      · simp at h1
      · rename_i i j
        obtain ⟨v, w, rfl, a2, a3⟩ := a1.two
        cases a2
        cases a3
        split at q1
        · rename_i hb
          rw [Bool.and_eq_true] at hb
          exact ⟨i, j, rfl, ⟨(b62 hb.1).1, (b62 hb.1).2, (b62 hb.2).1, (b62 hb.2).2⟩, q1 φ1 H1 _ e1 r1 ⟨rng_ok i (j - i).toNat, fun m kvs z => nomatch z⟩⟩
        · exact q1.elim
      · exact q1.elim
    | err cc xs μ' =>
      rw [e] at q
      cases xs with
      | nil => exact q
      | cons _ _ => exact q
    | bad => rw [e] at q; exact q⟩
theorem ia_str (ha : PE X a (aE X ca W f)) : L2.PI X tg a (aI X ca W fun σ μ => (f σ μ).bind fun d μ => itStr μ d) := PI.imp' (pi_str ha) fun σ H Q ⟨φ, μ, sg, r, s, q⟩ =>
  ⟨φ, μ, sg, r, s, q.bind0.mono fun x H1 ⟨φ1, μ1, d, e1, r1, a1, q1⟩ => by
    unfold itStr at q1
    dsimp only at q1
    split at q1
    · rename_i z
      cases a1 with
      | str _ hz =>
        refine ⟨z, rfl, q1 φ1 H1 _ e1 r1 ⟨?_, fun m kvs z => nomatch z⟩⟩
        intro i φ2 μ2 H2 x2 r2 st
        refine ⟨fun d hd => ?_, fun e => ?_⟩
        · dsimp only at hd
          rw [List.getElem?_map] at hd
          obtain ⟨c, hc, rfl⟩ := Option.map_eq_some_iff.mp hd
          have hl := (List.getElem?_eq_some_iff.mp hc).1
          refine ⟨(by show i < z.cps.size; simpa using hl), fun x H' y => ?_⟩
          obtain ⟨rfl, c', hc', rfl⟩ := y
          rw [← Array.getElem?_toList, hc] at hc'
          cases hc'
          exact ⟨Ext.refl _ _, r2, .str _ (sOk_one hz (List.mem_of_getElem? hc))⟩
        · show z.cps.size ≤ i
          rw [e]
          simp
    · exact q1.elim⟩
/-! ### comprehensions -/
theorem wipe_wipe {σ : L2.St} {vs : List Nat} : L2.wipe (L2.wipe σ vs) vs = L2.wipe σ vs := by
  apply List.ext_getElem?
  intro j
  by_cases hj : j ∈ vs
  · rw [wipe_get hj, wipe_get hj, wipe_length]
  · rw [wipe_out hj]
theorem lc_imp {vs : List Nat} {fi : Env → Mem → R Items} {gg : G} {t : Env → Mem → R Bool} (hsl : ∀ i ∈ slotsG gg, i ∈ vs) {σ : L2.St} {H : Hp} {Q : V → Hp → Prop} (hh : aE X ca W (fun σ μ => (fi σ μ).bind fun p μ => lcGo p.2 (fun x μ => match asgG gg x (wipeE σ vs) with
      | some σ' => (t σ' μ).bind fun b μ => if b = true then (f σ' μ).bind fun y μ => .ok (some y) μ else .ok none μ
      | none => .bad) μ.length p.1 (μ ++ [.lst []])) σ H Q) :
    tUn X (tLc (aI X ca W fi) (aGt X ca (asgG gg) (slotsG gg)) (aT X ca (fun _ _ _ _ => False) t) (aE X ca (fun _ _ _ _ => False) f) vs) σ H Q := by
  obtain ⟨φ, μ, sg, r, s, q⟩ := hh
  refine ⟨φ, μ, sg, r, s, q.bind0.mono fun J H1 ⟨φ1, μ1, p, e1, r1, a1, q1⟩ Dn hD => ?_⟩
  have s1 := s.ext e1
  have hn : φ1.length = μ1.length := r1.len
  have x0 : Ext φ1 H1 (φ1 ++ [Dn]) (upd H1 Dn (.lst [])) := Ext.add hD
  have r0 : Rel X.K ca (φ1 ++ [Dn]) (upd H1 Dn (.lst [])) (μ1 ++ [.lst []]) := r1.add hD ⟨[], upd_same, .nil⟩
  -- between two turns
  refine ⟨fun i m H2 => ∃ φ2 μ2, Ext φ1 H1 φ2 H2 ∧ Rel X.K ca φ2 H2 μ2 ∧ φ2[μ1.length]? = some Dn ∧ i ≤ p.1.length ∧ m = p.1.length - i ∧ Post X.K ca φ H (lcGo p.2 (fun x μ => match asgG gg x (wipeE sg vs) with
      | some σ' => (t σ' μ).bind fun b μ => if b = true then (f σ' μ).bind fun y μ => .ok (some y) μ else .ok none μ
      | none => .bad) μ1.length (p.1.drop i) μ2) Q (fun c d H' => W c d σ H'), ⟨_, φ1 ++ [Dn], _, x0, r0, ?_, Nat.zero_le _, rfl, q1⟩, ?_⟩
  · rw [← hn]; simp
  · rintro i m H2 ⟨φ2, μ2, x2, r2, hDn, hi2, rfl, q2⟩
    cases hx : p.1[i]? with
    | none =>
      have il : i = p.1.length := by
        have := List.getElem?_eq_none_iff.mp hx
        omega
      rw [List.drop_eq_nil_of_le (by omega)] at q2
      unfold lcGo at q2
      split at q2
      · rename_i st
        refine .inl ⟨(a1.ok i φ2 μ2 H2 x2 r2 st).2 il, ?_⟩
        split at q2
        · rename_i μ3 e3
          obtain ⟨H3, u3, r3, x3, _⟩ := unl_ok a1 (e1.trans x2) x2 r2 e3
          exact ⟨H3, u3, q2 φ2 H3 _ x3 r3 (.loc hDn)⟩
        · exact q2.elim
      · exact q2.elim
    | some d =>
      have il := (List.getElem?_eq_some_iff.mp hx).1
      have ed : p.1.drop i = d :: p.1.drop (i + 1) := by
        rw [List.drop_eq_getElem_cons il]
        rw [List.getElem?_eq_getElem il] at hx
        cases hx
        rfl
      rw [ed] at q2
      unfold lcGo at q2
      split at q2
      · rename_i st
        obtain ⟨g1, g2⟩ := (a1.ok i φ2 μ2 H2 x2 r2 st).1 d hx
        refine .inr ⟨g1, fun H' => ∃ φ2 μ2, Ext φ1 H1 φ2 H' ∧ Rel X.K ca φ2 H' μ2 ∧ φ2[μ1.length]? = some Dn ∧ Post X.K ca φ H (lcGo p.2 (fun x μ => match asgG gg x (wipeE sg vs) with
          | some σ' => (t σ' μ).bind fun b μ => if b = true then (f σ' μ).bind fun y μ => .ok (some y) μ else .ok none μ
          | none => .bad) μ1.length (p.1.drop (i + 1)) μ2) Q (fun c d H' => W c d σ H'), fun H' ⟨φ3, μ3, x3, r3, h3, q3⟩ => ⟨p.1.length - (i + 1), by omega, φ3, μ3, x3, r3, h3, by omega, rfl, q3⟩, fun x H3 y => ?_⟩
        obtain ⟨x3, r3, ax⟩ := g2 x H3 y
        refine ⟨φ2, μ2, _, d, r3, ((s1.ext x2).ext x3).wipe vs, ax, ?_⟩
        have q3 := q2
        cases ea : asgG gg d (wipeE sg vs) with
        | none =>
          rw [ea] at q3
          exact q3.elim
        | some sg' =>
          rw [ea] at q3
          dsimp only at q3 ⊢
          intro σ' s' w'
          refine ⟨(w' _ hsl).trans wipe_wipe, φ2, μ2, sg', r3, s', ?_⟩
          cases et : t sg' μ2 with
          | bad => rw [et] at q3; exact q3.elim
          | err cc xs μ4 => rw [et] at q3; exact q3.elim
          | ok k μ4 =>
            rw [et] at q3
            intro φ4 H4 k' x4 r4 ek
            cases ek
            have h4 : φ4[μ1.length]? = some Dn := x4.get hDn
            have x14 : Ext φ1 H1 φ4 H4 := (x2.trans x3).trans x4
            cases k with
            | false => exact iteF ⟨φ4, μ4, x14, r4, h4, q3⟩
            | true =>
              refine iteT ⟨φ4, μ4, sg', r4, s'.ext x4, ?_⟩
              have q3 : Post X.K ca φ H (match (f sg' μ4).bind fun y μ => R.ok (some y) μ with
                | .ok (some y) μ' => (match μ'[μ1.length]? with
                  | some (.lst acc) => if acc.length < lim then lcGo p.2 _ μ1.length (p.1.drop (i + 1)) (μ'.set μ1.length (.lst (acc ++ [y]))) else .bad
                  | _ => .bad)
                | .ok none μ' => lcGo p.2 _ μ1.length (p.1.drop (i + 1)) μ'
                | _ => .bad) Q (fun c d H' => W c d σ H') := q3
              cases ef : f sg' μ4 with
              | bad => rw [ef] at q3; exact q3.elim
              | err cc xs μ5 => rw [ef] at q3; exact q3.elim
              | ok y μ5 =>
                rw [ef] at q3
                intro φ5 H5 yv x5 r5 ay
                have q3 : Post X.K ca φ H (match μ5[μ1.length]? with
                  | some (.lst acc) => if acc.length < lim then lcGo p.2 _ μ1.length (p.1.drop (i + 1)) (μ5.set μ1.length (.lst (acc ++ [y]))) else .bad
                  | _ => .bad) Q (fun c d H' => W c d σ H') := q3
                have h5 : φ5[μ1.length]? = some Dn := x5.get h4
                split at q3
                · rename_i acc em
                  split at q3
                  · rename_i hl
                    obtain ⟨vs, e5, t5⟩ := r5.ob _ _ _ em h5
                    have xu : Ext φ5 H5 φ5 (upd H5 Dn (.lst (vs ++ [yv]))) := Ext.upAt (List.mem_of_getElem? h5) (nofrz e5 (fun _ _ z => nomatch z))
                    exact ⟨vs, e5, by rw [t5.length]; exact hl, φ5, _, (x14.trans x5).trans xu, r5.set (ob := .lst (acc ++ [y])) h5 ⟨vs ++ [yv], upd_same, (t5.append (.cons ay .nil)).ext xu⟩, h5, q3⟩
                  · exact q3.elim
                · exact q3.elim
      · exact q2.elim
theorem ea_lc {elt tg iter : Expr} {ifs : List Expr} {scope : Scope} {own : List (Str × Nat)} {fi : Env → Mem → R Items} {gg : G} {t : Env → Mem → R Bool} (hc : X.calm = true) (hN : X.N.Nodup) (hi : L2.PI X tg iter (aI X ca W fi)) (ok : BlkOk X.N X.env.scope scope own)
    (hg : ∀ (s : Shared) (H : Hp) (C : Addr) (cl : List (Str × Addr)) (fp : List Addr), PG (X.blk s H scope (compEnvC scope cl C X.env) fp) tg (aGt X ca (asgG gg) (slotsG gg)))
    (ht : ∀ (s : Shared) (H : Hp) (C : Addr) (cl : List (Str × Addr)) (fp : List Addr), PTs (X.blk s H scope (compEnvC scope cl C X.env) fp) ifs (aT X ca (fun _ _ _ _ => False) t))
    (he : ∀ (s : Shared) (H : Hp) (C : Addr) (cl : List (Str × Addr)) (fp : List Addr), PE (X.blk s H scope (compEnvC scope cl C X.env) fp) elt (aE X ca (fun _ _ _ _ => False) f)) (hs : ∀ x, foldedSetIterable iter X.env x = pure x)
    (hsl : ∀ i ∈ slotsG gg, i ∈ own.map (·.2)) :
    PE X (.ListComp elt [⟨tg, iter, ifs, 0⟩] scope pos) (aE X ca W fun σ μ => (fi σ μ).bind fun p μ => lcGo p.2 (fun x μ => match asgG gg x (wipeE σ (own.map (·.2))) with
      | some σ' => (t σ' μ).bind fun b μ => if b = true then (f σ' μ).bind fun y μ => .ok (some y) μ else .ok none μ
      | none => .bad) μ.length p.1 (μ ++ [.lst []])) := by
  exact PE.imp (pe_un (pe_lc hc hN hi ok hg ht he hs)) fun σ H Q hh => lc_imp hsl hh
end
end PI

/-! calls; statements -/
namespace PI
open PySem PySem.Spec PyProof.Rows L2
/-- what a def promises: what the language says of it -/
def spF (K : PySem.W.Frag) (ca : Nat → Addr) (cl : Calls) (fid : Nat) : Sp := fun vs H Q E => ∃ φ μ ds, Rel K ca φ H μ ∧ AtL K ca φ H vs ds ∧ Post K ca φ H (cl fid ds μ) Q E
section
variable {X : Cx} {ca : Nat → Addr} {W : WX} {pos p : Pos} {a b c tg : Expr} {es rest : List Expr} {f g h : Env → Mem → R D} {fl : Env → Mem → R (List D)} {φ : List Addr} {H : Hp} {μ : Mem} {sg : Env} {σ : L2.St} {x : Str} {cl : Calls} {fid k : Nat} {fa : Addr} {fd : FuncData} {ps : List Str} {nm : Nm}
theorem ea_call (F : FnOk X.prog X.w X.K X.mg X.base (L2.CX X.prog X.w) k fa fd ps (spF X.K ca cl fid)) (hr : Room k X.A) (hg : Gl X x) (hm : X.mg x = some (.ref fa)) (hk : PySem.W.keepIn X.K (.ref fa) = true) (hb : Binds X.K fd ps []) (tk : Takes X W)
    (ha : PA X (a :: es) (aL X ca W fl)) (hd : (x == ("__debug__" : Str)) = false) (he : starEach (a :: es) X.env = (false, eval a X.env) :: starEach es X.env) (hpl : (backTo pos (starEach es X.env)).any (·.1) = false) :
    PE X (.Call (.Name x p) (a :: es) [] pos) (aE X ca W fun σ μ => (fl σ μ).bind fun ds μ => nrm nm μ (cl fid ds μ)) :=
  PE.imp (pe_callS F hr hg hm hk hb (fun σ => passAt tk σ) ha hd he hpl) fun σ H Q ⟨φ, μ, sg, r, s, q⟩ => ⟨φ, μ, sg, r, s, q.bindI.mono fun xs H1 ⟨φ1, μ1, ds, e1, r1, a1, q1⟩ => ⟨φ1, μ1, ds, r1, a1, Post.nrm r1 q1⟩⟩
theorem ea_call0 (F : FnOk X.prog X.w X.K X.mg X.base (L2.CX X.prog X.w) k fa fd ps (spF X.K ca cl fid)) (hr : Room k X.A) (hg : Gl X x) (hm : X.mg x = some (.ref fa)) (hk : PySem.W.keepIn X.K (.ref fa) = true) (hb : Binds X.K fd ps []) (tk : Takes X W)
    (hd : (x == ("__debug__" : Str)) = false) : PE X (.Call (.Name x p) [] [] pos) (aE X ca W fun σ μ => nrm nm μ (cl fid [] μ)) := by
  refine ⟨fun pins s σ H Q I h => ?_⟩
  obtain ⟨φ, μ, sg, r, sl, q⟩ := h
  exact wpAny_Call_Name_kw (ld_glob I hg hm (PySem.W.callWith_K0 I.kIn hk (run_fnS (E := WE W) (us := []) F hr hb (passAt tk σ) I .nil ⟨φ, μ, [], r, .nil, Post.nrm r q⟩)) hd)
theorem ea_nrm (ha : PE X a (aE X ca W f)) : PE X a (aE X ca W fun σ μ => nrm nm μ (f σ μ)) := PE.imp ha fun σ H Q ⟨φ, μ, sg, r, s, q⟩ => ⟨φ, μ, sg, r, s, Post.nrm r q⟩

/-! ### statements -/
/-- what is wanted behind a statement -/
def PostS (K : PySem.W.Frag) (ca : Nat → Addr) (φ : List Addr) (H : Hp) (r : RS) (D : Ends) (W : WX) : Prop :=
  match r with
  | .nx sg μ' => ∀ φ' H' σ', Ext φ H φ' H' → Rel K ca φ' H' μ' → Sl K ca φ' H' σ' sg → D.nx σ' H'
  | .rt d μ' => ∀ φ' H' v, Ext φ H φ' H' → Rel K ca φ' H' μ' → At K ca φ' H' v d → D.rt v H'
  | .bk sg μ' => ∀ φ' H' σ', Ext φ H φ' H' → Rel K ca φ' H' μ' → Sl K ca φ' H' σ' sg → D.bk σ' H'
  | .ct sg μ' => ∀ φ' H' σ', Ext φ H φ' H' → Rel K ca φ' H' μ' → Sl K ca φ' H' σ' sg → D.ct σ' H'
  | .err c [] sg μ' => ∀ φ' H' σ', Ext φ H φ' H' → Rel K ca φ' H' μ' → Sl K ca φ' H' σ' sg → W (.ref (ca c)) none σ' H'
  | .err _ (_ :: _) _ _ => False
  | .bad => False
section
variable {K : PySem.W.Frag} {φ φ' : List Addr} {H H' : Hp} {D D' : Ends}
theorem PostS.ext {r : RS} (e : Ext φ H φ' H') (h : PostS K ca φ H r D W) : PostS K ca φ' H' r D W := by
  cases r with
  | nx sg μ' => exact fun φ1 H1 σ1 x y z => h φ1 H1 σ1 (e.trans x) y z
  | rt sg μ' => exact fun φ1 H1 σ1 x y z => h φ1 H1 σ1 (e.trans x) y z
  | bk sg μ' => exact fun φ1 H1 σ1 x y z => h φ1 H1 σ1 (e.trans x) y z
  | ct sg μ' => exact fun φ1 H1 σ1 x y z => h φ1 H1 σ1 (e.trans x) y z
  | err c xs sg μ' =>
    cases xs with
    | nil => exact fun φ1 H1 σ1 x y z => h φ1 H1 σ1 (e.trans x) y z
    | cons _ _ => exact h
  | bad => exact h
theorem PostS.mono {r : RS} (h : PostS K ca φ H r D W) (h1 : ∀ σ H, D.nx σ H → D'.nx σ H) (h2 : ∀ v H, D.rt v H → D'.rt v H) (h3 : ∀ σ H, D.bk σ H → D'.bk σ H) (h4 : ∀ σ H, D.ct σ H → D'.ct σ H) : PostS K ca φ H r D' W := by
  cases r with
  | nx sg μ' => exact fun φ1 H1 σ1 x y z => h1 _ _ (h φ1 H1 σ1 x y z)
  | rt sg μ' => exact fun φ1 H1 σ1 x y z => h2 _ _ (h φ1 H1 σ1 x y z)
  | bk sg μ' => exact fun φ1 H1 σ1 x y z => h3 _ _ (h φ1 H1 σ1 x y z)
  | ct sg μ' => exact fun φ1 H1 σ1 x y z => h4 _ _ (h φ1 H1 σ1 x y z)
  | err c xs sg μ' =>
    cases xs with
    | nil => exact h
    | cons _ _ => exact h
  | bad => exact h
/-- an expression, then the rest -/
theorem PostS.into {α β : Type} {rel : List Addr → Hp → β → α → Prop} {r : R α} {k : α → Mem → RS} {sg : Env} {σ : L2.St} (s : Sl K ca φ H σ sg) (h : PostS K ca φ H (r.into sg k) D W) :
    PostG K ca rel φ H r (fun b H1 => ∃ φ1 μ1 a, Ext φ H φ1 H1 ∧ Rel K ca φ1 H1 μ1 ∧ rel φ1 H1 b a ∧ PostS K ca φ1 H1 (k a μ1) D W) (fun c d H' => W c d σ H') := by
  cases r with
  | ok d μ' => exact fun φ1 H1 v x y z => ⟨φ1, μ', d, x, y, z, PostS.ext x h⟩
  | err c xs μ' =>
    cases xs with
    | nil => exact fun φ1 H1 x y => h φ1 H1 σ x y (s.ext x)
    | cons _ _ => exact h
  | bad => exact h
end
/-- a statement of the language as a reading -/
def aS (X : Cx) (ca : Nat → Addr) (W : WX) (f : Env → Mem → RS) : TS := fun D σ H => ∃ φ μ sg, Rel X.K ca φ H μ ∧ Sl X.K ca φ H σ sg ∧ PostS X.K ca φ H (f sg μ) D W
theorem PS.imp {st : Stmt} {t t' : TS} (h : PS X st t) (w : ∀ D σ H, t' D σ H → t D σ H) : PS X st t' := ⟨fun pins s σ H D I q => h.run pins s σ H D I (w _ _ _ q)⟩
theorem PSs.imp {st : List Stmt} {t t' : TS} (h : PSs X st t) (w : ∀ D σ H, t' D σ H → t D σ H) : PSs X st t' := ⟨fun pins s σ H D I q => h.run pins s σ H D I (w _ _ _ q)⟩
variable {st : Stmt} {sts : List Stmt} {fs gs : Env → Mem → RS}
theorem sa_nil : PSs X [] (aS X ca W fun σ μ => .nx σ μ) := PSs.imp pss_nil fun D σ H ⟨φ, μ, sg, r, s, q⟩ => q φ H σ (Ext.refl _ _) r s
theorem sa_cons (h1 : PS X st (aS X ca W fs)) (h2 : PSs X sts (aS X ca W gs)) : PSs X (st :: sts) (aS X ca W fun σ μ => (fs σ μ).seq gs) := PSs.imp (pss_cons h1 h2) fun D σ H ⟨φ, μ, sg, r, s, q⟩ => ⟨φ, μ, sg, r, s, by
  dsimp only at q
  cases e : fs sg μ with
  | nx sg' μ' =>
    rw [e] at q
    exact fun φ1 H1 σ1 x y z => ⟨φ1, μ', sg', y, z, PostS.ext x q⟩
  | rt d μ' => rw [e] at q; exact q
  | bk sg' μ' => rw [e] at q; exact q
  | ct sg' μ' => rw [e] at q; exact q
  | err c xs sg' μ' =>
    rw [e] at q
    cases xs with
    | nil => exact q
    | cons _ _ => exact q
  | bad => rw [e] at q; exact q⟩
theorem sa_pass : PS X (.Pass pos) (aS X ca W fun σ μ => .nx σ μ) := PS.imp ps_pass fun D σ H ⟨φ, μ, sg, r, s, q⟩ => q φ H σ (Ext.refl _ _) r s
theorem sa_break : PS X (.Break pos) (aS X ca W fun σ μ => .bk σ μ) := PS.imp ps_break fun D σ H ⟨φ, μ, sg, r, s, q⟩ => q φ H σ (Ext.refl _ _) r s
theorem sa_cont : PS X (.Continue pos) (aS X ca W fun σ μ => .ct σ μ) := PS.imp ps_continue fun D σ H ⟨φ, μ, sg, r, s, q⟩ => q φ H σ (Ext.refl _ _) r s
theorem sa_exp (ha : PE X a (aE X ca W f)) (hs : swapsWith a none pos.line X.env = pure false) : PS X (.Expr a pos) (aS X ca W fun σ μ => (f σ μ).into σ fun _ μ => .nx σ μ) := PS.imp (ps_expr ha hs) fun D σ H ⟨φ, μ, sg, r, s, q⟩ =>
  ⟨φ, μ, sg, r, s, (PostS.into s q).mono fun x H1 ⟨φ1, μ1, d1, e1, r1, a1, q1⟩ => q1 φ1 H1 σ (Ext.refl _ _) r1 (s.ext e1)⟩
theorem sa_ret (ha : PE X a (aE X ca W f)) : PS X (.Return (some a) pos) (aS X ca W fun σ μ => (f σ μ).into σ fun v μ => .rt v μ) := PS.imp (ps_ret ha) fun D σ H ⟨φ, μ, sg, r, s, q⟩ =>
  ⟨φ, μ, sg, r, s, (PostS.into s q).mono fun x H1 ⟨φ1, μ1, d1, e1, r1, a1, q1⟩ => q1 φ1 H1 x (Ext.refl _ _) r1 a1⟩
theorem sa_retN : PS X (.Return none pos) (aS X ca W fun _ μ => .rt .non μ) := PS.imp ps_retN fun D σ H ⟨φ, μ, sg, r, s, q⟩ => q φ H .non (Ext.refl _ _) r .non
theorem sa_if {t : Env → Mem → R Bool} {u v : List Stmt} (hc : PT X c (aT X ca W t)) (ha : PSs X u (aS X ca W fs)) (hb : PSs X v (aS X ca W gs)) : PS X (.If c u v pos) (aS X ca W fun σ μ => (t σ μ).into σ fun k μ => if k = true then fs σ μ else gs σ μ) :=
  PS.imp (ps_if hc ha hb) fun D σ H ⟨φ, μ, sg, r, s, q⟩ => ⟨φ, μ, sg, r, s, (PostS.into s q).mono fun x H1 ⟨φ1, μ1, d1, e1, r1, a1, q1⟩ => by
  cases a1
  cases x with
  | true => exact iteT ⟨φ1, μ1, sg, r1, s.ext e1, q1⟩
  | false => exact iteF ⟨φ1, μ1, sg, r1, s.ext e1, q1⟩⟩
/-- target = e, the target names -/
theorem sa_asg {ff : D → Env → Option Env} {sl : List Nat} (ha : PE X a (aE X ca W f)) (hg : PG X tg (aGt X ca ff sl)) (hs : swapsWithSole [tg] a pos.line X.env = pure false) (hw : swappedStores [tg] a X.env = pure none)
    (h1 : (assignEach [tg] X.env).map (·.2) = [assign tg X.env]) : PS X (.Assign [tg] a pos) (aS X ca W fun σ μ => (f σ μ).into σ fun v μ => match ff v σ with
    | some σ' => .nx σ' μ
    | none => .bad) := PS.imp (ps_asg ha hg hs hw h1) fun D σ H ⟨φ, μ, sg, r, s, q⟩ => ⟨φ, μ, sg, r, s, (PostS.into s q).mono fun x H1 ⟨φ1, μ1, d1, e1, r1, a1, q1⟩ => by
  refine ⟨φ1, μ1, sg, d1, r1, s.ext e1, a1, ?_⟩
  split at q1
  · rename_i sg' e
    (try rw [e])
    exact fun σ' s' _ => q1 φ1 H1 σ' (Ext.refl _ _) r1 s'
  · exact q1.elim⟩
/-- name = [ .. for .. ] on one line -/
theorem sa_setLc {i : Nat} {y : Str} {py : Pos} (hc : X.calm = true) (hy : X.N[i]? = some y) (h : PS X (.Assign [.Name y py] a pos) (tAsg (aE X ca W f) (gName i))) (hN : i < X.N.length) : PS X (.Assign [.Name y py] a pos) (aS X ca W fun σ μ => (f σ μ).into σ fun v μ => match asgG (.nm i) v σ with
    | some σ' => .nx σ' μ
    | none => .bad) := PS.imp h fun D σ H ⟨φ, μ, sg, r, s, q⟩ => ⟨φ, μ, sg, r, s, (PostS.into s q).mono fun x H1 ⟨φ1, μ1, d1, e1, r1, a1, q1⟩ => by
  unfold asgG at q1
  split at q1
  · rename_i sg' e
    split at e
    · cases e
      exact q1 φ1 H1 _ (Ext.refl _ _) r1 ((s.ext e1).set a1)
    · cases e
  · exact q1.elim⟩
/-! o[i] = v -/
def rSet (X : Cx) (ca : Nat → Addr) : TSet := fun o i v H Q => ∃ φ μ od id vd, Rel X.K ca φ H μ ∧ At X.K ca φ H o od ∧ At X.K ca φ H i id ∧ At X.K ca φ H v vd ∧ (match setSub od id vd μ with
  | some μ' => ∀ H', Ext φ H φ H' → Rel X.K ca φ H' μ' → Q H'
  | none => False)
theorem map_at {K : PySem.W.Frag} {φ : List Addr} {H : Hp} {k : Key} {v : V} {d : D} (hv : At K ca φ H v d) : ∀ {ks : List (Key × V)} {ds : List (D × D)}, AtP K ca φ H ks ds →
    AtP K ca φ H (ks.map fun kv => if kv.1 = k then (kv.1, v) else kv) (ds.map fun p => if eqF p.1 (keyToD k) = true then (p.1, d) else p)
  | _, _, .nil => .nil
  | _, _, .cons (k := j) s h t => by
    rw [List.map_cons, List.map_cons]
    dsimp only
    rw [eqF_key]
    by_cases e : j = k
    · rw [if_pos e, if_pos (decide_eq_true e)]
      exact .cons s hv (map_at hv t)
    · rw [if_neg e, if_neg (by rw [decide_eq_false e]; exact Bool.false_ne_true)]
      exact .cons s h (map_at hv t)
theorem AtP.append {K : PySem.W.Frag} {φ : List Addr} {H : Hp} : ∀ {vs ws : List (Key × V)} {ds es : List (D × D)}, AtP K ca φ H vs ds → AtP K ca φ H ws es → AtP K ca φ H (vs ++ ws) (ds ++ es)
  | _, _, _, _, .nil, h => h
  | _, _, _, _, .cons s a t, h => .cons s a (AtP.append t h)
theorem AtP.length {K : PySem.W.Frag} {φ : List Addr} {H : Hp} : ∀ {vs : List (Key × V)} {ds : List (D × D)}, AtP K ca φ H vs ds → vs.length = ds.length
  | _, _, .nil => rfl
  | _, _, .cons _ _ t => by rw [List.length_cons, List.length_cons, AtP.length t]
theorem putD_at {K : PySem.W.Frag} {φ : List Addr} {H : Hp} {k : Key} {v : V} {d : D} (hs : ∀ s, k = .inr s → sOk s) (hv : At K ca φ H v d) {ks : List (Key × V)} {ds : List (D × D)} (h : AtP K ca φ H ks ds) : AtP K ca φ H (putK ks k v) (putD (keyToD k) d ds) := by
  have e := (look_at k h).1
  rw [← valV_any] at e
  unfold putK putD
  rw [e]
  by_cases c : (ks.any fun kv => decide (kv.1 = k)) = true
  · rw [if_pos c, if_pos c]
    exact map_at hv h
  · rw [if_neg c, if_neg c]
    exact h.append (.cons hs hv .nil)
theorem set_ok (hu : X.A.units + 170 < cLine) : PSet X (rSet X ca) := by
  intro pins s σ H o i v ov iv u Q I ro ri rv ⟨φ, μ, od, id, vd, r, ao, ai, av, q⟩
  have hu1 : X.A.units + 1 < cLine := by omega
  split at q
  · rename_i μ' e
    unfold setSub at e
    split at e
    · rename_i m
      cases ao with
      | @loc _ pa hm =>
        split at e
        · rename_i xs k em
          cases ai
          split at e
          · rename_i j ej
            cases e
            obtain ⟨vs, h1, h2⟩ := r.ob _ _ _ em hm
            have xu : Ext φ H φ (upd H pa (.lst (vs.set j v))) := Ext.upAt (List.mem_of_getElem? hm) (nofrz h1 (fun _ _ z => nomatch z))
            exact set_list pins s σ H _ _ v ov iv u Q I ro ri rv ⟨pa, vs, k, j, rfl, rfl, h1, by rw [h2.length]; exact ej, q _ xu (r.set (ob := .lst (xs.set j vd)) hm ⟨_, upd_same, (h2.set av j).ext xu⟩)⟩
          · cases e
        · rename_i kvs em
          split at e
          · rename_i hk
            rw [Bool.and_eq_true] at hk
            cases e
            obtain ⟨ks, h1, h2⟩ := r.ob _ _ _ em hm
            obtain ⟨k, rfl, rfl, hs⟩ := keyD_at ai hk.1
            cases (show ov = Value.ref pa from ro)
            have xu : Ext φ H φ (upd H pa (.dK (putK ks k v))) := Ext.upAt (List.mem_of_getElem? hm) (nofrz h1 (fun _ _ z => nomatch z))
            have hl : ks.length < sizeLine := by rw [h2.length]; exact of_decide_eq_true hk.2
            exact d_setItem (H' := upd H pa (.dK (putK ks k v))) hu1 I (.inl ⟨ks, k, h1, rfl, hl, rfl⟩) ri rv fun s' I' => ⟨_, I', q _ xu (r.set (ob := .dct .k (putD (keyToD k) vd kvs)) hm ⟨_, upd_same, (putD_at hs av h2).ext xu⟩)⟩
          · cases e
        · cases e
    · cases e
  · exact q.elim
/-- how o[i] = v is carried out -/
abbrev SubRule (o i : Expr) (pos : Pos) (env : PySem.Env) : Prop := ∀ v, assign (.Subscript o i pos) env v = (do let q ← holding [v] (eval o env); let z ← holding [v, q] (eval i env); standAt pos; holding [v, q, z] (setItem q z v); release [v, q, z] [])
theorem sa_sub {o i : Expr} {pos' : Pos} (hu : X.A.units + 170 < cLine) (ha : PE X a (aE X ca W f)) (ho : PE X o (aE X ca W g)) (hi : PE X i (aE X ca W h)) (hs : swapsWithSole [.Subscript o i pos'] a pos.line X.env = pure false) (hw : swappedStores [.Subscript o i pos'] a X.env = pure none)
    (h1 : (assignEach [.Subscript o i pos'] X.env).map (·.2) = [assign (.Subscript o i pos') X.env])
    (h2 : SubRule o i pos' X.env) : PS X (.Assign [.Subscript o i pos'] a pos) (aS X ca W fun σ μ => (f σ μ).into σ fun v μ => (g σ μ).into σ fun x μ => (h σ μ).into σ fun k μ => match setSub x k v μ with
    | some μ' => .nx σ μ'
    | none => .bad) := PS.imp (ps_asg ha (pg_sub ho hi (set_ok (ca := ca) hu) h2) hs hw h1) fun D σ H ⟨φ, μ, sg, r, s, q⟩ => ⟨φ, μ, sg, r, s, (PostS.into s q).mono fun x H1 ⟨φ1, μ1, d1, e1, r1, a1, q1⟩ =>
    ⟨φ1, μ1, sg, r1, s.ext e1, (PostS.into (s.ext e1) q1).mono fun y H2 ⟨φ2, μ2, d2, e2, r2, a2, q2⟩ => ⟨φ2, μ2, sg, r2, (s.ext e1).ext e2, (PostS.into ((s.ext e1).ext e2) q2).mono fun z H3 ⟨φ3, μ3, d3, e3, r3, a3, q3⟩ => by
      refine ⟨φ3, μ3, d2, d3, d1, r3, a2.ext e3, a3, (a1.ext e2).ext e3, ?_⟩
      split at q3
      · rename_i μ4 em
        exact fun H' x4 r4 => q3 φ3 H' σ x4 r4 ((((s.ext e1).ext e2).ext e3).ext x4)
      · exact q3.elim⟩⟩⟩
/-- name op= e -/
theorem sa_augAdd {i : Nat} (hN : X.N.Nodup) (hi : X.N[i]? = some x) (hx : Loc X.env.scope x) (hf : X.fn x = true ∨ X.env.scope.names.lookup x = some .local) (ha : PE X a (aE X ca W f)) : PS X (.AugAssign (.Name x p) .Add a pos) (aS X ca W fun σ μ => match σ[i]? with
    | some (some x) => (f σ μ).into σ fun y μ => match x, y with
      | .int a, .int b => .nx (σ.set i (some (.int (a + b)))) μ
      | _, _ => .bad
    | _ => .bad) := PS.imp (ps_aug hN hi hx ha ip_add hf) fun D σ H ⟨φ, μ, sg, r, s, q⟩ => by
  dsimp only at q
  split at q
  · rename_i d e
    obtain ⟨v, h1, h2⟩ := s.2 i d e
    refine ⟨v, h1, φ, μ, sg, r, s, (PostS.into s q).mono fun y H1 ⟨φ1, μ1, d1, e1, r1, a1, q1⟩ => ?_⟩
    split at q1
    · cases a1
      cases h2
      exact ⟨_, _, rfl, rfl, q1 φ1 H1 _ (Ext.refl _ _) r1 ((s.ext e1).set (.int _))⟩
    · exact q1.elim
  · exact q.elim
theorem sa_augSub {i : Nat} (hN : X.N.Nodup) (hi : X.N[i]? = some x) (hx : Loc X.env.scope x) (hf : X.fn x = true ∨ X.env.scope.names.lookup x = some .local) (ha : PE X a (aE X ca W f)) : PS X (.AugAssign (.Name x p) .Sub a pos) (aS X ca W fun σ μ => match σ[i]? with
    | some (some x) => (f σ μ).into σ fun y μ => match x, y with
      | .int a, .int b => .nx (σ.set i (some (.int (a - b)))) μ
      | _, _ => .bad
    | _ => .bad) := PS.imp (ps_aug hN hi hx ha ip_sub hf) fun D σ H ⟨φ, μ, sg, r, s, q⟩ => by
  dsimp only at q
  split at q
  · rename_i d e
    obtain ⟨v, h1, h2⟩ := s.2 i d e
    refine ⟨v, h1, φ, μ, sg, r, s, (PostS.into s q).mono fun y H1 ⟨φ1, μ1, d1, e1, r1, a1, q1⟩ => ?_⟩
    split at q1
    · cases a1
      cases h2
      exact ⟨_, _, rfl, rfl, q1 φ1 H1 _ (Ext.refl _ _) r1 ((s.ext e1).set (.int _))⟩
    · exact q1.elim
  · exact q.elim
/-! ### loops -/
theorem PostS.into0 {α β : Type} {K : PySem.W.Frag} {D : Ends} {rel : List Addr → Hp → β → α → Prop} {r : R α} {k : α → Mem → RS} {sg : Env} {σ : L2.St} (s : Sl K ca φ H σ sg) (h : PostS K ca φ H (r.into sg k) D W) :
    PostG K ca rel φ H r (fun b H1 => ∃ φ1 μ1 a, Ext φ H φ1 H1 ∧ Rel K ca φ1 H1 μ1 ∧ rel φ1 H1 b a ∧ PostS K ca φ H (k a μ1) D W) (fun c d H' => W c d σ H') := by
  cases r with
  | ok d μ' => exact fun φ1 H1 v x y z => ⟨φ1, μ', d, x, y, z, h⟩
  | err c xs μ' =>
    cases xs with
    | nil => exact fun φ1 H1 x y => h φ1 H1 σ x y (s.ext x)
    | cons _ _ => exact h
  | bad => exact h
theorem sa_for {iter : Expr} {body : List Stmt} {fi : Env → Mem → R Items} {gg : G} (hp : PassesOwn (model X.prog X.w) X.A X.env X.xe) (hc : X.calm = true) (hi : L2.PI X tg iter (aI X ca W fi)) (hg : PG X tg (aGt X ca (asgG gg) (slotsG gg))) (hb : PSs X body (aS X ca W fs))
    (hs : ∀ x, foldedSetIterable iter X.env x = pure x) : PS X (.For tg iter body [] pos) (aS X ca W fun σ μ => (fi σ μ).into σ fun p μ => forGo p.2 (fun x σ μ => match asgG gg x σ with
      | some σ' => fs σ' μ
      | none => .bad) p.1 σ μ) := PS.imp (ps_un (ps_for hp hc hi hg hb hs)) fun D σ H ⟨φ, μ, sg, r, s, q⟩ => ⟨φ, μ, sg, r, s, (PostS.into0 s q).mono fun J H1 ⟨φ1, μ1, p, e1, r1, a1, q1⟩ => by
  refine ⟨fun i m σ2 H2 => ∃ φ2 μ2 sg2, Ext φ1 H1 φ2 H2 ∧ Rel X.K ca φ2 H2 μ2 ∧ Sl X.K ca φ2 H2 σ2 sg2 ∧ i ≤ p.1.length ∧ m = p.1.length - i ∧ PostS X.K ca φ H (forGo p.2 (fun x σ μ => match asgG gg x σ with
      | some σ' => fs σ' μ
      | none => .bad) (p.1.drop i) sg2 μ2) D W, ⟨_, φ1, μ1, sg, Ext.refl _ _, r1, s.ext e1, Nat.zero_le _, rfl, q1⟩, ?_⟩
  rintro i m σ2 H2 ⟨φ2, μ2, sg2, x2, r2, s2, hi2, rfl, q2⟩
  have ends : ∀ (sg4 : Env) (μ4 : Mem), PostS X.K ca φ H (endF p.2 sg4 μ4) D W → ∀ (φ4 : List Addr) (H4 : Hp) (σ4 : L2.St), Ext φ1 H1 φ4 H4 → Rel X.K ca φ4 H4 μ4 → Sl X.K ca φ4 H4 σ4 sg4 → ∃ H5, Unl X H4 H5 ∧ D.nx σ4 H5 := fun sg4 μ4 q4 φ4 H4 σ4 x4 r4 s4 => by
    unfold endF at q4
    split at q4
    · rename_i μ5 e5
      obtain ⟨H5, u5, r5, x5, y5⟩ := unl_ok a1 (e1.trans x4) x4 r4 e5
      exact ⟨H5, u5, q4 φ4 H5 σ4 x5 r5 (s4.ext0 y5)⟩
    · exact q4.elim
  cases hx : p.1[i]? with
  | none =>
    have il : i = p.1.length := by
      have := List.getElem?_eq_none_iff.mp hx
      omega
    rw [List.drop_eq_nil_of_le (by omega)] at q2
    unfold forGo at q2
    split at q2
    · rename_i st
      exact .inl ⟨(a1.ok i φ2 μ2 H2 x2 r2 st).2 il, ends _ _ q2 φ2 H2 σ2 x2 r2 s2⟩
    · exact q2.elim
  | some d =>
    have il := (List.getElem?_eq_some_iff.mp hx).1
    have ed : p.1.drop i = d :: p.1.drop (i + 1) := by
      rw [List.drop_eq_getElem_cons il]
      rw [List.getElem?_eq_getElem il] at hx
      cases hx
      rfl
    rw [ed] at q2
    unfold forGo at q2
    split at q2
    · rename_i st
      obtain ⟨g1, g2⟩ := (a1.ok i φ2 μ2 H2 x2 r2 st).1 d hx
      refine .inr ⟨g1, fun σ' H' => ∃ φ2 μ2 sg2, Ext φ1 H1 φ2 H' ∧ Rel X.K ca φ2 H' μ2 ∧ Sl X.K ca φ2 H' σ' sg2 ∧ PostS X.K ca φ H (forGo p.2 (fun x σ μ => match asgG gg x σ with
        | some σ' => fs σ' μ
        | none => .bad) (p.1.drop (i + 1)) sg2 μ2) D W, fun σ' H' ⟨φ3, μ3, sg3, x3, r3, s3, q3⟩ => ⟨p.1.length - (i + 1), by omega, φ3, μ3, sg3, x3, r3, s3, by omega, rfl, q3⟩, fun x H3 y => ?_⟩
      obtain ⟨x3, r3, ax⟩ := g2 x H3 y
      refine ⟨φ2, μ2, sg2, d, r3, s2.ext x3, ax, ?_⟩
      have q3 := q2
      cases ea : asgG gg d sg2 with
      | none =>
        rw [ea] at q3
        exact q3.elim
      | some sg' =>
        rw [ea] at q3
        dsimp only at q3 ⊢
        intro σ' s' _
        refine ⟨φ2, μ2, sg', r3, s', ?_⟩
        have x13 := x2.trans x3
        cases ef : fs sg' μ2 with
        | nx sg4 μ4 =>
          rw [ef] at q3
          exact fun φ4 H4 σ4 x4 r4 s4 => ⟨φ4, μ4, sg4, x13.trans x4, r4, s4, q3⟩
        | ct sg4 μ4 =>
          rw [ef] at q3
          exact fun φ4 H4 σ4 x4 r4 s4 => ⟨φ4, μ4, sg4, x13.trans x4, r4, s4, q3⟩
        | bk sg4 μ4 =>
          rw [ef] at q3
          exact fun φ4 H4 σ4 x4 r4 s4 => ends _ _ q3 φ4 H4 σ4 (x13.trans x4) r4 s4
        | rt d4 μ4 =>
          rw [ef] at q3
          refine fun φ4 H4 v4 x4 r4 a4 => ?_
          unfold RS.turnF at q3
          dsimp only at q3
          split at q3
          · rename_i μ5 e5
            obtain ⟨H5, u5, r5, x5, y5⟩ := unl_ok a1 (e1.trans (x13.trans x4)) (x13.trans x4) r4 e5
            exact ⟨H5, u5, q3 φ4 H5 v4 x5 r5 (a4.ext0 y5)⟩
          · exact q3.elim
        | err cc xs sg4 μ4 =>
          rw [ef] at q3
          cases xs with
          | nil => exact fun φ4 H4 σ4 x4 r4 s4 => q3 φ4 H4 σ4 (e1.trans (x13.trans x4)) r4 s4
          | cons _ _ => exact q3
        | bad => rw [ef] at q3; exact q3
    · exact q2.elim⟩
theorem sa_while {body : List Stmt} {t : Env → Mem → R Bool} (hp : PassesOwn (model X.prog X.w) X.A X.env X.xe) (hc : PT X c (aT X ca W t)) (hb : PSs X body (aS X ca W fs)) : PS X (.While c body [] pos) (aS X ca W (whRun t fs)) := PS.imp (ps_while hp hc hb) fun D σ H ⟨φ, μ, sg, r, s, q⟩ => by
  unfold whRun at q
  split at q
  · rename_i hn
    obtain ⟨r0, hr0⟩ := Classical.choose_spec hn
    rw [hr0] at q
    refine ⟨fun n σ2 H2 => ∃ φ2 μ2 sg2 r2, Rel X.K ca φ2 H2 μ2 ∧ Sl X.K ca φ2 H2 σ2 sg2 ∧ whGo t fs n sg2 μ2 = some r2 ∧ PostS X.K ca φ2 H2 r2 D W, ⟨_, φ, μ, sg, r0, r, s, hr0, q⟩, ?_⟩
    rintro n σ2 H2 ⟨φ2, μ2, sg2, res, r2, s2, e2, q2⟩
    cases n with
    | zero => unfold whGo at e2; cases e2
    | succ n =>
      unfold whGo at e2
      refine ⟨φ2, μ2, sg2, r2, s2, ?_⟩
      cases et : t sg2 μ2 with
      | bad => rw [et] at e2; cases e2; exact q2
      | err cc xs μ3 =>
        rw [et] at e2
        cases e2
        cases xs with
        | nil => exact fun φ3 H3 x3 r3 => q2 φ3 H3 σ2 x3 r3 (s2.ext x3)
        | cons _ _ => exact q2
      | ok k μ3 =>
        rw [et] at e2
        intro φ3 H3 k' x3 r3 ek
        cases ek
        cases k with
        | false =>
          cases e2
          exact iteF (q2 φ3 H3 σ2 x3 r3 (s2.ext x3))
        | true =>
          refine iteT ⟨fun σ4 H4 => ∃ φ4 μ4 sg4 r4, Rel X.K ca φ4 H4 μ4 ∧ Sl X.K ca φ4 H4 σ4 sg4 ∧ whGo t fs n sg4 μ4 = some r4 ∧ PostS X.K ca φ4 H4 r4 D W, fun σ4 H4 h4 => ⟨n, Nat.lt_succ_self n, h4⟩, φ3, μ3, sg2, r3, s2.ext x3, ?_⟩
          dsimp only at e2
          cases ef : fs sg2 μ3 with
          | nx sg4 μ4 =>
            rw [ef] at e2
            exact fun φ4 H4 σ4 x4 r4 s4 => ⟨φ4, μ4, sg4, res, r4, s4, e2, PostS.ext (x3.trans x4) q2⟩
          | ct sg4 μ4 =>
            rw [ef] at e2
            exact fun φ4 H4 σ4 x4 r4 s4 => ⟨φ4, μ4, sg4, res, r4, s4, e2, PostS.ext (x3.trans x4) q2⟩
          | bk sg4 μ4 => rw [ef] at e2; cases e2; exact PostS.ext x3 q2
          | rt d4 μ4 => rw [ef] at e2; cases e2; exact PostS.ext x3 q2
          | err cc xs sg4 μ4 =>
            rw [ef] at e2
            cases e2
            cases xs with
            | nil => exact PostS.ext x3 q2
            | cons _ _ => exact q2
          | bad => rw [ef] at e2; cases e2; exact q2
  · exact q.elim
end
end PI

/-! isinstance, dicts, their walks -/
namespace PI
open PySem PySem.Spec PyProof.Rows L2
section
variable {X : Cx} {ca : Nat → Addr} {W : WX} {pos p : Pos} {a b c tg : Expr} {es rest : List Expr} {f g h : Env → Mem → R D} {fl : Env → Mem → R (List D)} {φ : List Addr} {H : Hp} {μ : Mem} {sg : Env} {σ : L2.St} {x : Str}
/-- {} -/
theorem ea_dnew : PE X (.Dict [] [] pos) (aE X ca W fun _ μ => .ok (.loc μ.length) (μ ++ [.dct .k []])) := PE.imp pe_dnewK fun σ H Q ⟨φ, μ, sg, r, s, q⟩ q1 hq =>
  q (φ ++ [q1]) _ _ (Ext.add hq) (r.add hq ⟨[], upd_same, .nil⟩) (.loc (by rw [← r.len]; simp))
theorem AtP.keys {K : PySem.W.Frag} {φ : List Addr} {H : Hp} : ∀ {ks : List (Key × V)} {ds : List (D × D)}, AtP K ca φ H ks ds → AtL K ca φ H (ks.map fun kv => kV kv.1) (ds.map (·.1))
  | _, _, .nil => .nil
  | _, _, .cons (k := k) s _ t => by
    refine .cons ?_ (AtP.keys t)
    cases k with
    | inl i => exact .int i
    | inr z => exact .str z (s z rfl)
theorem AtP.get {K : PySem.W.Frag} {φ : List Addr} {H : Hp} : ∀ {ks : List (Key × V)} {ds : List (D × D)} {i : Nat} {d : D × D}, AtP K ca φ H ks ds → ds[i]? = some d → ∃ k v, ks[i]? = some (k, v) ∧ At K ca φ H (kV k) d.1 ∧ At K ca φ H v d.2
  | _, _, _, _, .nil, e => by simp at e
  | _, _, 0, _, .cons (k := k) s a t, e => by
    simp at e
    subst e
    refine ⟨k, _, rfl, ?_, a⟩
    cases k with
    | inl i => exact .int i
    | inr z => exact .str z (s z rfl)
  | _, _, i + 1, d, .cons _ _ t, e => by
    obtain ⟨k, v, h1, h2⟩ := AtP.get (i := i) (d := d) t (by simpa using e)
    exact ⟨k, v, by simpa using h1, h2⟩
/-- list(d) -/
theorem listD_ok (hc : X.calm = true) : CallR X (.type "list") (rC X ca (evBI .listD)) := by
  have hh := call_listD hc
  refine one_ok fun pins s σ H v us Q φ μ d W I rv r a q => ?_
  unfold biListD at q
  split at q
  · rename_i kvs
    cases a with
    | fd hq hn ht => exact hh pins s σ H _ us Q I rv ⟨_, _, rfl, hq, fun p hp => newL_post q r ht.keys hp⟩
  · exact q.elim
/-! ### isinstance -/
def tnS : TN → String
  | .non => "NoneType"
  | .bool => "bool"
  | .int => "int"
  | .str => "str"
  | .tuple => "tuple"
  | .list => "list"
  | .dict => "dict"
def tyS : Ty → String
  | .str => "str"
  | .tuple => "tuple"
  | .list => "list"
  | .int => "int"
  | .bool => "bool"
  | .dict => "dict"
  | .cls _ => ""
theorem kit_all {T : TN} {t : Ty} {b : Bool} (h : subT T t = some b) : kitB (tnS T) (tyS t) = some b := by
  cases T <;> cases t <;> first
    | (cases h; decide +kernel)
    | (cases h)
theorem tyD_at {K : PySem.W.Frag} {φ : List Addr} {H : Hp} {μ : Mem} (r : Rel K ca φ H μ) {v : V} {d : D} {T : TN} (a : At K ca φ H v d) (e : tyD μ d = some T) : TyX K H v (.type (tnS T)) := by
  cases a with
  | non => cases e; exact .base .non
  | bl b => cases e; exact .base (.bl b)
  | int i => cases e; exact .base (.int i)
  | str s _ => cases e; exact .base (.str s)
  | tup q _ =>
    cases e
    rcases q with ⟨q, _⟩ | ⟨o, its, n, q, cl, _⟩
    · exact .base (.tup q)
    · exact .kTuple q cl
  | fl q _ _ => cases e; exact .base (.lst q)
  | sl q _ =>
    cases e
    rcases q with ⟨q | ⟨o, q⟩, _⟩ | ⟨o, its, n, q, cl, _⟩
    · exact .base (.lst q)
    · exact .base (.frz q)
    · exact .kList q cl
  | fd q _ _ =>
    cases e
    rcases q with q | ⟨o, q⟩
    · exact .base (.dK q)
    · exact .fDict q
  | fi _ _ _ => cases e
  | loc hm =>
    simp only [tyD] at e
    split at e
    · rename_i xs em
      cases e
      obtain ⟨vs, q, _⟩ := r.ob _ _ _ em hm
      exact .base (.lst q)
    · rename_i k kvs em
      cases e
      cases k with
      | k => obtain ⟨ks, q, _⟩ := r.ob _ _ _ em hm; exact .base (.dK q)
      | t => obtain ⟨od, ks, q, _⟩ := r.ob _ _ _ em hm; exact .fDict q
    · cases e
theorem subT_cls {T : TN} {t : Ty} {b : Bool} (h : subT T t = some b) : ∀ c, t ≠ .cls c := by
  intro c z
  subst z
  cases T <;> cases h
/-- isinstance(e, T) -/
theorem ea_isi {t : Ty} {tn : Str} {p2 : Pos} (hg : Gl X "isinstance") (hm : X.mg "isinstance" = none) (hg2 : Gl X tn) (hm2 : X.mg tn = none) (hb2 : bootBuiltins tn = some (.type (tyS t))) (hn2 : tn ≠ "__name__") (hd2 : (tn == ("__debug__" : Str)) = false) (ha : PE X a (aE X ca W f))
    (hs : starEach [a, .Name tn p2] X.env = (false, eval a X.env) :: starEach [.Name tn p2] X.env) : PE X (.Call (.Name "isinstance" p) [a, .Name tn p2] [] pos) (aE X ca W fun σ μ => (f σ μ).bind fun d μ => match isTy μ t d with
      | some b => .ok (.bl b) μ
      | none => .bad) :=
  PE.imp (pe_callB call_isi hg hm PyProof.Rows.boot_isinstance (pa_cons ha (pa_cons (pe_bltn (v := V.ty (tyS t)) hg2 hm2 hb2 rfl hn2 hd2) pa_nil rfl) hs) (by decide) (by decide) hs rfl) fun σ H Q ⟨φ, μ, sg, r, s, q⟩ => ⟨φ, μ, sg, r, s, q.bindI.mono fun x H1 ⟨φ1, μ1, d, e1, r1, a1, q1⟩ => by
    dsimp only at q1
    split at q1
    · rename_i b e
      unfold isTy at e
      obtain ⟨T, e2, e3⟩ := Option.bind_eq_some_iff.mp e
      exact ⟨x, .ty (tyS t), _, _, b, rfl, .ty _, tyD_at r1 a1 e2, kit_ty (kit_all e3), q1.val r1 (.bl b)⟩
    · exact q1.elim⟩
/-! ### walks over dicts -/
/-- d is locked behind e, or not -/
def tLk (X : Cx) (t : TE) : TE := fun σ H Q => t σ H fun v H1 => Q v H1 ∨ ∃ d u, H1 d = some u ∧ Mut (some u) ∧ ∀ od, NoLk X.H_0 d → Q v (upd H1 d (.frz od u))
theorem pe_lk {e : Expr} {t : TE} (h : PE X e t) : PE X e (tLk X t) := ⟨fun pins s σ H Q I hw =>
  thn (h.run pins s σ H _ I hw) fun v s1 ⟨x, H1, I1, r, q⟩ => by
    rcases q with q | ⟨d, u, hd, mu, q⟩
    · exact ⟨x, H1, I1, r, q⟩
    · obtain ⟨od, I2⟩ := I1.lock hd mu
      exact ⟨x, _, I2, r, q od (I1.nofrz hd mu)⟩⟩
/-- what a walk of a dict needs: the dict's pairs, locked -/
def iDct (J : Addr → Obj → List (Key × V) → L2.It) (td : TE) : TI := fun σ H R => td σ H fun x H1 => ∃ d o kvs, x = .ref d ∧ H1 d = some (.frz o (.dK kvs)) ∧ R (J d o kvs) H1
theorem lk_ext {K : PySem.W.Frag} {φ : List Addr} {H : Hp} {a : Addr} {od : Obj} {ks : List (Key × V)} (h : H a = some (.dK ks)) : Ext φ H φ (upd H a (.frz od (.dK ks))) := by
  refine ⟨⟨⟨[], by simp⟩, fun b u q _ => ?_, fun _ q => .inl q⟩, fun b od' u q => ?_⟩
  · by_cases hb : b = a
    · subst hb
      rw [h] at q
      cases q
      exact .inr ⟨od, ks, rfl, upd_same⟩
    · rw [upd_ne hb]
      exact .inl q
  · rw [upd_ne (fun z => by rw [z, h] at q; cases q)]
    exact q
theorem ia_dct {gd : D × D → D} {J : Addr → Obj → List (Key × V) → L2.It} (ht : L2.PI X tg a (iDct J (tLk X (aE X ca W f)))) (hJ : ∀ {φ0 : List Addr} {H0 : Hp} {d : Addr} {o : Obj} {ks : List (Key × V)} {kvs : List (D × D)} {i : Nat} {φ : List Addr} {H : Hp} {μ : Mem}, H d = some (.frz o (.dK ks)) → AtP X.K ca φ H ks kvs → Rel X.K ca φ H μ →
      (∀ z, (kvs.map gd)[i]? = some z → (J d o ks).go i H ∧ ∀ x H', (J d o ks).yld i H x H' → Ext φ H φ H' ∧ Rel X.K ca φ H' μ ∧ At X.K ca φ H' x z) ∧ (i = (kvs.map gd).length → (J d o ks).stop i H))
    : L2.PI X tg a (aI X ca W fun σ μ => (f σ μ).bind fun d μ => itDct gd μ d) := PI.imp' ht fun σ H R ⟨φ, μ, sg, r, s, q⟩ =>
  ⟨φ, μ, sg, r, s, q.bind0.mono fun x H1 ⟨φ1, μ1, d, e1, r1, a1, q1⟩ => by
    unfold itDct at q1
    dsimp only at q1
    split at q1
    · -- it stands still
      rename_i kvs
      cases a1 with
      | @fd a ks _ hq hn ht =>
        -- at the locked one
        have fin : ∀ (H2 : Hp) (o : Obj), Ext φ1 H1 φ1 H2 → H2 a = some (.frz o (.dK ks)) → Rel X.K ca φ1 H2 μ1 → R (J a o ks) H2 := fun H2 o x2 h2 r2 => by
          refine q1 φ1 H2 _ (e1.trans x2) r2 ⟨fun i φ3 μ3 H3 x3 r3 _ => ?_, fun m kvs z => nomatch z⟩
          exact hJ (φ0 := φ1) (H0 := H2) (x3.lk _ _ _ h2) ((ht.ext x2).ext x3) r3
        rcases hq with hq | ⟨o, hq⟩
        · refine .inr ⟨a, _, hq, trivial, fun od _ => ⟨a, od, ks, rfl, upd_same, ?_⟩⟩
          have x2 : Ext φ1 H1 φ1 (upd H1 a (.frz od (.dK ks))) := lk_ext (K := X.K) hq
          exact fin _ od x2 upd_same (r1.keep x2 fun b hb => upd_ne (fun z => hn (by rw [← z]; exact hb)))
        · exact .inl ⟨a, o, ks, rfl, hq, fin H1 o (Ext.refl _ _) hq r1⟩
    · rename_i m
      cases a1 with
      | @loc _ a hm =>
        split at q1
        · rename_i kvs em
          obtain ⟨ks, hq, ht⟩ := r1.ob _ _ _ em hm
          refine .inr ⟨a, _, hq, trivial, fun od n0 => ⟨a, od, ks, rfl, upd_same, ?_⟩⟩
          have x2 : Ext φ1 H1 φ1 (upd H1 a (.frz od (.dK ks))) := lk_ext (K := X.K) hq
          refine q1 φ1 _ _ (e1.trans x2) (r1.set hm ⟨od, ks, upd_same, ht.ext x2⟩) ⟨fun i φ3 μ3 H3 x3 r3 st => ?_, fun m' kvs' z => ?_⟩
          · have h3 := x3.lk _ _ _ (upd_same (H := H1) (a := a) (o := .frz od (.dK ks)))
            exact hJ (φ0 := φ1) (H0 := H1) h3 ((ht.ext x2).ext x3) r3
          · cases z
            exact ⟨a, hm, n0, fun od' u z => by rw [e1.lk _ _ _ z] at hq; cases hq⟩
        · exact q1.elim
    · exact q1.elim⟩
theorem lk_mono {Q Q' : V → Hp → Prop} (h : tLk X (aE X ca W f) σ H Q) (k : ∀ v H, Q v H → Q' v H) : tLk X (aE X ca W f) σ H Q' := by
  obtain ⟨φ, μ, sg, r, s, q⟩ := h
  exact ⟨φ, μ, sg, r, s, q.mono fun v H1 z => z.imp (k _ _) fun ⟨d, u, h1, h2, h3⟩ => ⟨d, u, h1, h2, fun od n => k _ _ (h3 od n)⟩⟩
theorem ia_keys (ha : PE X a (aE X ca W f)) : L2.PI X tg a (aI X ca W fun σ μ => (f σ μ).bind fun d μ => itDct (·.1) μ d) :=
  ia_dct (J := Itk) (PI.imp' (pi_keys (pe_lk ha)) fun σ H R h => lk_mono h fun x H1 ⟨d, o, kvs, e, h1, h2⟩ => ⟨d, o, e, .inl ⟨kvs, h1, h2⟩⟩) (fun {φ0 H0 d o ks kvs i φ H μ} hd hk r => ⟨fun z hz => by
      rw [List.getElem?_map] at hz
      obtain ⟨p, hp, rfl⟩ := Option.map_eq_some_iff.mp hz
      obtain ⟨k, v, h1, h2, h3⟩ := hk.get hp
      refine ⟨⟨hd, (List.getElem?_eq_some_iff.mp h1).1⟩, fun x H' y => ?_⟩
      obtain ⟨rfl, k', v', e, rfl⟩ := y
      rw [h1] at e
      cases e
      exact ⟨Ext.refl _ _, r, h2⟩, fun e => ⟨hd, by rw [e, List.length_map, hk.length]; exact Nat.le_refl _⟩⟩)
theorem ia_items {elts : List Expr} {kk : Nat} {tpos ap cp : Pos} (ha : PE X a (aE X ca W f)) (hbase : attributeBase a "items" X.env (eval a X.env) = eval a X.env) (hline : (ap.endLine == cp.line) = true) :
    L2.PI X (.Tuple elts kk tpos) (.Call (.Attribute a "items" ap) [] [] cp) (aI X ca W fun σ μ => (f σ μ).bind fun d μ => itDct (fun p => .tup [p.1, p.2]) μ d) :=
  ia_dct (J := Iti) (pi_items (pe_lk ha) hbase hline) (fun {φ0 H0 d o ks kvs i φ H μ} hd hk r => ⟨fun z hz => by
      rw [List.getElem?_map] at hz
      obtain ⟨p, hp, rfl⟩ := Option.map_eq_some_iff.mp hz
      obtain ⟨k, v, h1, h2, h3⟩ := hk.get hp
      refine ⟨⟨hd, (List.getElem?_eq_some_iff.mp h1).1⟩, fun x H' y => ?_⟩
      obtain ⟨T, k', v', e, rfl, hT, rfl⟩ := y
      rw [h1] at e
      cases e
      have x2 : Ext φ H φ (upd H T (.tup [kV k, v])) := Ext.side hT
      exact ⟨x2, r.side hT, .tup (.inl ⟨upd_same, r.fresh hT⟩) (.cons (h2.ext x2) (.cons (h3.ext x2) .nil))⟩, fun e => ⟨hd, by rw [e, List.length_map, hk.length]; exact Nat.le_refl _⟩⟩)
end
end PI

/-! sets of tuples of flat keys (the library has them for ints alone): a set made from a list, its items sorted -/
namespace PI
open PySem PySem.Spec PyProof.Rows L2
/-- what the questions about class statements and about hashing by value say of the keys -/
structure Flt {P : Program} {w : World} {κ : Type} [DecidableEq κ] (kd : KeyKind P w κ) : Prop where
  cls : ∀ (n : Nat) (k : κ) (v : Value), kd.is k v = true → ofAClassStatement n v = pure false
  hby : ∀ (n : Nat) (k : κ) (v : Value), kd.is k v = true → hashByValue n v = pure (plainKind v)
theorem flt_str (P : Program) (w : World) : Flt (PySem.strKind P w) := by
  refine ⟨fun n k v h => ?_, fun n k v h => ?_⟩
  · obtain ⟨tk, rfl⟩ := Value.isStrOf_shape h
    cases n <;> rfl
  · obtain ⟨tk, rfl⟩ := Value.isStrOf_shape h
    exact hashByValue_scannable n rfl
section
variable {P : Program} {w : World} {κ : Type} [DecidableEq κ] {kd : KeyKind P w κ} {A : Around} {E : Value → Shared → Prop} {s : Shared}
theorem ia_mem {ks : List κ} {vs : List Value} (h : ItemsAre kd ks vs) : ∀ v ∈ vs, ∃ k, kd.is k v = true := by
  induction h with
  | nil => exact fun v m => absurd m List.not_mem_nil
  | cons q _ ih => exact fun v m => (List.mem_cons.mp m).elim (fun e => by subst e; exact ⟨_, q⟩) (ih v)
/-- a walk over a tuple's items that finds nothing -/
theorem all_same {α : Type} {xs : List α} {ok : α → Prop} {B : Type} {body : α → Option B × Unit → Sem (ForInStep (Option B × Unit))} {fin : Option B × Unit → Sem Bool} {Q : Bool → Shared → Prop}
    (hx : ∀ x ∈ xs, ok x) (hb : ∀ x, ok x → ∀ (R : ForInStep (Option B × Unit) → Shared → Prop), R (.yield (none, ())) s → wpAny (model P w) A (body x (none, ())) R E s) (hf : wpAny (model P w) A (fin (none, ())) Q E s) :
    wpAny (model P w) A (forIn xs (none, ()) body) (fun r s' => wpAny (model P w) A (fin r) Q E s') E s := by
  refine wpAny_forIn_list _ (fun r z s' => z = (none, ()) ∧ s' = s ∧ ∀ x ∈ r, ok x) _ ?_ ?_ _ _ ⟨rfl, rfl, hx⟩
  · rintro x r z s' ⟨rfl, rfl, h⟩
    exact hb x (h x List.mem_cons_self) _ ⟨rfl, rfl, fun y m => h y (List.mem_cons_of_mem _ m)⟩
  · rintro z s' ⟨rfl, rfl, _⟩
    exact hf
theorem no_cls (F : Flt kd) {k : List κ} {b : Addr} {Q : Bool → Shared → Prop} (x : IsTupleKey kd s.heap k b) (h : Q false s) : wpAny (model P w) A (ofAClassStatement 8 (.ref b)) Q E s := by
  have ty := x.typeIs
  obtain ⟨ob, its, n, h1, _, h2, h3⟩ := x
  unfold ofAClassStatement
  refine wpAny_bind (wpAny_typeOf ty ?_)
  simp only [show (("tuple" : String) == "tuple") = true by decide, if_true, Bool.not_true, Bool.false_eq_true, if_false]
  show wpAny _ _ (seqItems? (.ref b) >>= _) _ _ s
  refine wpAny_bind (wpAny_seqItems h1 h2 (wpAny_bind ?_))
  show wpAny _ _ (forIn its _ _) _ _ s
  rw [← Array.forIn_toList]
  refine all_same (ok := fun v => ∃ k, kd.is k v = true) (ia_mem h3) (fun v ⟨k, hv⟩ R hR => ?_) ?_
  rotate_left
  · exact wpAny_pure h
  rw [F.cls _ k v hv]
  refine wpAny_bind (wpAny_pure ?_)
  simp only [Bool.false_eq_true, if_false]
  exact wpAny_pure hR
/-- is it hashed by its value? some answer -/
theorem some_hby (F : Flt kd) {k : List κ} {b : Addr} {Q : Bool → Shared → Prop} (x : IsTupleKey kd s.heap k b) (h : ∀ r, Q r s) : wpAny (model P w) A (hashByValue 8 (.ref b)) Q E s := by
  have ty := x.typeIs
  obtain ⟨ob, its, n, h1, _, h2, h3⟩ := x
  unfold hashByValue
  refine wpAny_bind (wpAny_specialOf ty PySem.F.slot_tuple_hash.lookup ?_)
  show wpAny _ _ (seqItems? (.ref b) >>= _) _ _ s
  refine wpAny_bind (wpAny_seqItems h1 h2 (wpAny_bind ?_))
  show wpAny _ _ (forIn its _ _) _ _ s
  rw [← Array.forIn_toList]
  refine wpAny_forIn_list _ (fun r z s' => z.1 = none ∧ s' = s ∧ ∀ v ∈ r, ∃ k, kd.is k v = true) _ ?_ ?_ _ _ ⟨rfl, rfl, ia_mem h3⟩
  · rintro v r ⟨z1, z2⟩ s' ⟨hz, rfl, hr⟩
    obtain ⟨k, hv⟩ := hr v List.mem_cons_self
    rw [F.hby _ k v hv]
    refine wpAny_bind (wpAny_pure ?_)
    cases plainKind v with
    | true =>
      simp only [Bool.not_true, Bool.false_eq_true, if_false]
      exact wpAny_pure ⟨rfl, rfl, fun u m => hr u (List.mem_cons_of_mem _ m)⟩
    | false =>
      simp only [Bool.not_false, if_true]
      exact wpAny_pure (wpAny_pure (h false))
  · rintro ⟨z1, z2⟩ s' ⟨hz, rfl, _⟩
    simp only at hz
    subst hz
    exact wpAny_pure (h true)
theorem not_seen (F : Flt kd) {k : List κ} {b : Addr} {Q : Bool → Shared → Prop} (x : IsTupleKey kd s.heap k b) {ys : List Value} (hy : ∀ y ∈ ys, ∃ k' c, y = Value.ref c ∧ IsTupleKey kd s.heap k' c) (h : Q false s) :
    wpAny (model P w) A (searchCouldBeSeen (.ref b) ys) Q E s := by
  unfold searchCouldBeSeen
  refine wpAny_bind (all_same (ok := fun y => ∃ k' c, y = Value.ref c ∧ IsTupleKey kd s.heap k' c) hy (fun v ⟨k', c, e, hc⟩ R hR => ?_) ?_)
  rotate_left
  · exact wpAny_pure h
  subst e
  by_cases hv : (b == c || (carriedByValue (.ref b) && carriedByValue (.ref c))) = true
  · exact wp_if_pos hv (wpAny_pure hR)
  · refine wp_if_neg hv (wpAny_bind (wpAny_eqIsQuiet_tuple x ?_))
    simp only [Bool.not_true, Bool.false_eq_true, if_false]
    refine wpAny_bind (wpAny_eqIsQuiet_tuple hc ?_)
    simp only [Bool.not_true, Bool.false_eq_true, if_false]
    refine wpAny_bind (no_cls F x ?_)
    simp only [Bool.false_eq_true, if_false]
    refine wpAny_bind (no_cls F hc ?_)
    simp only [Bool.false_eq_true, if_false]
    exact wpAny_pure hR
/-! ### the set at a: its rows, in the table's order -/
abbrev kh (kd : KeyKind P w κ) (k : List κ) : Int := tupleKeyHash kd k
def rowV (kd : KeyKind P w κ) (p : Addr × List κ) : Int × Value := (kh kd p.2, Value.ref p.1)
structure SetR (kd : KeyKind P w κ) (h : Heap) (a : Addr) (L : List (Addr × List κ)) (es : Array (Int × Value)) (ep : Nat) (t : SetTable) : Prop where
  ob : ∃ o, h.get? a = some o ∧ o.ExactSet ∧ o.data = .set es ep t
  rows : es.toList = L.map (rowV kd)
  tab : TabOk t (L.map fun p => kh kd p.2)
  nd : (L.map (·.2)).Nodup
  tup : ∀ p ∈ L, IsTupleKey kd h p.2 p.1
  led : w.params.followText "set-order" = true ∨ t.led = true
  room : L.length * 5 < t.mask * 3
  few : L.length < 64
variable {a : Addr} {L : List (Addr × List κ)} {es : Array (Int × Value)} {ep : Nat} {t : SetTable}
theorem rows_size (rw_ : es.toList = L.map (rowV kd)) : es.size = L.length := by
  have z := congrArg List.length rw_
  rwa [Array.length_toList, List.length_map] at z
theorem rows_get (rw_ : es.toList = L.map (rowV kd)) {i : Nat} {p : Addr × List κ} (h : L[i]? = some p) : es[i]? = some (kh kd p.2, Value.ref p.1) := by
  rw [← Array.getElem?_toList, rw_, List.getElem?_map, h]
  rfl
theorem tab_fits {hs : List Int} {n : Nat} (T : TabOk t hs) (hn : n = hs.length) (h : n ≤ t.mask) : t.fits n = true := by
  have z := T.sz
  unfold SetTable.fits SetTable.fill
  rw [T.dm, Bool.and_eq_true, beq_iff_eq, decide_eq_true_eq]
  show t.place.size = n ∧ t.place.size + 0 ≤ t.mask
  omega
theorem SetR.fit (R : SetR kd s.heap a L es ep t) : t.fits es.size = true := by
  have z := R.room
  have y := rows_size R.rows
  exact tab_fits R.tab (by rw [List.length_map]; exact y) (by omega)
/-- the c-th step of a search -/
abbrev stp (t : SetTable) (h : Int) (c : Nat) : SetTable.Probe := nth t.mask (runAt t.mask (SetTable.bits h % (t.mask + 1)) (SetTable.bits h)) c
theorem stp_dummy (h : Int) (c : Nat) : (stp t h c).dummy = none := by
  have z : ∀ (n : Nat) (p : SetTable.Probe), p.dummy = none → (nth t.mask p n).dummy = none := fun n => by
    induction n with
    | zero => exact fun p q => q
    | succ n ih =>
      intro p q
      refine ih (adv t.mask p) ?_
      unfold adv
      split <;> exact q
  exact z c _ rfl
theorem stp_add (h : Int) (c q : Nat) : nth t.mask (stp t h c) q = stp t h (c + q) := (nth_add t.mask c _ q).symm
theorem stp_way (h : Int) (c q : Nat) : (nth t.mask (stp t h c) q).j = way t.mask h (c + q) := congrArg SetTable.Probe.j (stp_add h c q)
/-- what a candidate's entry comes to: it is the one, or the search goes on behind it -/
theorem at_cand (F : Flt kd) (R : SetR kd s.heap a L es ep t) {x : Addr} {k : List κ} (hx : IsTupleKey kd s.heap k x) (hu : A.units < cLine) {i j fuel : Nat} {p : Addr × List κ} {nx : SetTable.Probe} {Q : SetFound → Shared → Prop}
    (hp : L[i]? = some p) (hj : t.slot j = .live i) (yes : p.2 = k → Q (.there none) s) (no : p.2 ≠ k → wpAny (model P w) A (setSearchFrom a (.ref x) (kh kd k) true fuel (some nx)) Q E s) :
    wpAny (model P w) A (searchRest a (.ref x) (kh kd k) true fuel es t j i nx) Q E s := by
  obtain ⟨ob, h1, h2, h3⟩ := R.ob
  have hm : p ∈ L := List.mem_of_getElem? hp
  have he := rows_get R.rows hp
  unfold searchRest
  rw [he]
  dsimp only
  refine wpAny_bind (wpAny_holding (wpAny_eqBool_tuple hu (R.tup p hm) hx (wpAny_bind (wpAny_setState_of h1 h3 R.fit ?_))))
  dsimp only
  by_cases e : p.2 = k
  · exact wp_if_pos (by simp [e]) (wpAny_pure (yes e))
  · refine wp_if_neg (by simp [e]) ?_
    try refine wpAny_bind (wpAny_pure ?_)
    rw [sameMem]
    dsimp only
    simp only [if_true, hj, he]
    refine wpAny_bind (wpAny_isSame_ref_self (wpAny_bind (wpAny_pure ?_)))
    simp only [if_true]
    exact wp_if_neg (by simp [e]) (no e)
theorem find_from (F : Flt kd) (R : SetR kd s.heap a L es ep t) {x : Addr} {k : List κ} (hx : IsTupleKey kd s.heap k x) (hu : A.units < cLine) {K : Nat} (b1 : K < 10 * SetTable.turns t.mask)
    (b2 : way t.mask (kh kd k) K ∉ t.place.toList) (b3 : ∀ c, c < K → way t.mask (kh kd k) c ∈ t.place.toList) {Q : SetFound → Shared → Prop}
    (yes : k ∈ L.map (·.2) → Q (.there none) s) (no : k ∉ L.map (·.2) → Q (.free (way t.mask (kh kd k) K) false) s) :
    ∀ (fuel c : Nat) (st : Option SetTable.Probe), st.getD (t.probeStart (kh kd k)) = stp t (kh kd k) c → c ≤ K → K - c < fuel →
      (∀ (i : Nat) p, L[i]? = some p → p.2 = k → ∃ c', c ≤ c' ∧ c' < K ∧ t.place.toList[i]? = some (way t.mask (kh kd k) c')) →
      wpAny (model P w) A (setSearchFrom a (.ref x) (kh kd k) true fuel st) Q E s
  | 0, _, _, _, _, z, _ => absurd z (Nat.not_lt_zero _)
  | fuel + 1, c, st, hst, hc, hfu, hre => by
    obtain ⟨ob, h1, h2, h3⟩ := R.ob
    have hlen : t.place.toList.length = L.length := by
      have z := R.tab.sz
      rw [List.length_map] at z
      rw [Array.length_toList]
      exact z
    rw [setSearchFrom_succ]
    refine wpAny_bind (wpAny_setState_of h1 h3 R.fit ?_)
    dsimp only
    refine wp_if_neg (by unfold SetTable.gaveWay; rw [mask_odd R.tab.mok]; decide) ?_
    try refine wpAny_bind (wpAny_pure ?_)
    have hash_of : ∀ (i : Nat) (p : Addr × List κ), L[i]? = some p → ((es[i]?.map (·.1)).getD 0) = kh kd p.2 := fun i p hp => by
      rw [rows_get R.rows hp]
      rfl
    rcases go_spec t R.tab.ris R.tab.dm (fun i => (es[i]?.map (·.1)).getD 0) (kh kd k) (10 * SetTable.turns t.mask) (K - c) (stp t (kh kd k) c) (stp_dummy _ c) (by omega)
      (fun q hq => by rw [stp_way]; exact b3 (c + q) (by omega)) (by rw [stp_way, show c + (K - c) = K by omega]; exact b2) with ⟨q, i, hq, hi, hh, hno, hpr⟩ | ⟨hno, hpr⟩
    · have pr : t.probe (fun i => (es[i]?.map (·.1)).getD 0) (kh kd k) (st.getD (t.probeStart (kh kd k))) = some (.candidate (way t.mask (kh kd k) (c + q)) i (stp t (kh kd k) (c + (q + 1)))) := by
        rw [hst, ← stp_way, ← stp_add]
        exact hpr
      rw [pr]
      dsimp only
      rw [stp_way] at hi
      have hil : i < L.length := by rw [← hlen]; exact (List.getElem?_eq_some_iff.mp hi).1
      obtain ⟨p, hp⟩ : ∃ p, L[i]? = some p := ⟨_, List.getElem?_eq_getElem hil⟩
      have hsl := slot_live R.tab.ris hi
      have rest : wpAny (model P w) A (searchRest a (.ref x) (kh kd k) true fuel es t (way t.mask (kh kd k) (c + q)) i (stp t (kh kd k) (c + (q + 1)))) Q E s :=
        at_cand F R hx hu hp hsl (fun e => yes (List.mem_map.mpr ⟨p, List.mem_of_getElem? hp, e⟩)) fun ne =>
          find_from F R hx hu b1 b2 b3 yes no fuel (c + (q + 1)) _ rfl (by omega) (by omega) fun i0 p0 h0 e0 => by
            obtain ⟨c', a1, a2, a3⟩ := hre i0 p0 h0 e0
            refine ⟨c', ?_, a2, a3⟩
            rcases Nat.lt_trichotomy c' (c + q) with z | z | z
            · exfalso
              refine hno (c' - c) i0 (by omega) (by rw [stp_way, show c + (c' - c) = c' by omega]; exact a3) ?_
              rw [← e0]
              exact hash_of i0 p0 h0
            · exfalso
              rw [z] at a3
              have s0 := slot_live R.tab.ris a3
              rw [hsl] at s0
              injection s0 with s0
              rw [← s0, hp] at h0
              cases h0
              exact ne e0
            · omega
      by_cases hl : t.led = true
      · refine wp_if_neg (by simp [hl]) ?_
        try refine wpAny_bind (wpAny_pure ?_)
        exact rest
      · refine wp_if_pos (by simp [hl]) (wpAny_bind (not_seen F hx (fun y hy => ?_) ?_))
        · obtain ⟨e, he, rfl⟩ := List.mem_map.mp hy
          have he1 : e ∈ es ∧ e.1 = kh kd k := by simpa using he
          have he2 : e ∈ es.toList := Array.mem_toList_iff.mpr he1.1
          rw [R.rows] at he2
          obtain ⟨p2, m2, rfl⟩ := List.mem_map.mp he2
          exact ⟨p2.2, p2.1, rfl, R.tup p2 m2⟩
        · refine wp_if_neg (by decide) ?_
          try refine wpAny_bind (wpAny_pure ?_)
          exact rest
    · have pr : t.probe (fun i => (es[i]?.map (·.1)).getD 0) (kh kd k) (st.getD (t.probeStart (kh kd k))) = some (.empty (way t.mask (kh kd k) K) none) := by
        rw [hst, ← show c + (K - c) = K by omega, ← stp_way]
        exact hpr
      rw [pr]
      dsimp only
      refine wpAny_pure (no fun hm => ?_)
      obtain ⟨p0, m0, e0⟩ := List.mem_map.mp hm
      obtain ⟨i0, hi0⟩ := List.mem_iff_getElem?.mp m0
      obtain ⟨c', a1, a2, a3⟩ := hre i0 p0 hi0 e0
      refine hno (c' - c) i0 (by omega) (by rw [stp_way, show c + (c' - c) = c' by omega]; exact a3) ?_
      rw [← e0]
      exact hash_of i0 p0 hi0
theorem find_ok (F : Flt kd) (R : SetR kd s.heap a L es ep t) {x : Addr} {k : List κ} (hx : IsTupleKey kd s.heap k x) (hu : A.units < cLine) {Q : SetFound → Shared → Prop} (yes : k ∈ L.map (·.2) → Q (.there none) s)
    (no : ∀ K, k ∉ L.map (·.2) → way t.mask (kh kd k) K ∉ t.place.toList → (∀ c, c < K → way t.mask (kh kd k) c ∈ t.place.toList) → Q (.free (way t.mask (kh kd k) K) false) s) :
    wpAny (model P w) A (setSearch a (.ref x) (kh kd k) true) Q E s := by
  have hr := R.room
  obtain ⟨K, b1, b2, b3⟩ := R.tab.first (by rw [List.length_map]; omega) (kh kd k)
  have hK : K < 100000 := by
    have z : 10 * SetTable.turns t.mask ≤ 1420 := by
      unfold SetTable.turns
      rcases R.tab.mok with e | e | e <;> omega
    omega
  unfold setSearch
  refine find_from F R hx hu b1 b2 b3 yes (fun hn => no K hn b2 b3) 100000 0 none rfl (Nat.zero_le _) (by omega) fun i p hp e => ?_
  have hh : (L.map fun p => kh kd p.2)[i]? = some (kh kd k) := by rw [List.getElem?_map, hp, ← e]; rfl
  have hil : i < t.place.toList.length := by
    have z := R.tab.sz
    rw [List.length_map] at z
    rw [Array.length_toList, z]
    exact (List.getElem?_eq_some_iff.mp hp).1
  have hj := List.getElem?_eq_getElem hil
  obtain ⟨c, c1, c2⟩ := R.tab.before b2 hh hj
  exact ⟨c, Nat.zero_le _, c1, by rw [hj, c2]⟩
/-! ### a key put in -/
theorem tup_stay {h h' : Heap} {k : List κ} {b : Addr} {o : Obj} (x : IsTupleKey kd h k b) (ho : h.get? a = some o) (hd : o.data = .set es ep t) (sb : Heap.SameBut a h h') : IsTupleKey kd h' k b := by
  obtain ⟨ob, its, n, h1, h2, h3, h4⟩ := x
  have nb : b ≠ a := fun z => by
    rw [z, ho] at h1
    cases h1
    rw [hd] at h3
    cases h3
  exact ⟨ob, its, n, (sb.2 b nb).trans h1, h2, h3, h4⟩
/-- the entries taken in another order -/
theorem rows_pick (hr : es.toList = L.map (rowV kd)) : ∀ (l : List Nat), (∀ i ∈ l, i < L.length) → ∃ M : List (Addr × List κ), M = l.filterMap (fun i => L[i]?) ∧ l.filterMap (fun i => es[i]?) = M.map (rowV kd) ∧ (M.map fun p => kh kd p.2) = l.map fun i => (es.map (·.1)).getD i 0
  | [], _ => ⟨[], rfl, rfl, rfl⟩
  | i :: l, h => by
    have hi := h i List.mem_cons_self
    obtain ⟨M, e1, e2, e3⟩ := rows_pick hr l fun j m => h j (List.mem_cons_of_mem _ m)
    have g1 : L[i]? = some L[i] := List.getElem?_eq_getElem hi
    have g2 := rows_get hr g1
    refine ⟨L[i] :: M, by rw [List.filterMap_cons_some g1, e1], by rw [List.filterMap_cons_some g2, e2]; rfl, ?_⟩
    have g3 : (es.map (·.1))[i]? = some (kh kd (L[i]).2) := by rw [Array.getElem?_map, g2]; rfl
    rw [List.map_cons, List.map_cons, e3, Array.getD_eq_getD_getElem?, g3]
    rfl
theorem range_all (L : List (Addr × List κ)) : (List.range L.length).filterMap (fun i => L[i]?) = L := by
  have z : ∀ n, n ≤ L.length → (List.range n).filterMap (fun i => L[i]?) = L.take n := fun n => by
    induction n with
    | zero => exact fun _ => rfl
    | succ n ih =>
      intro hn
      have g : L[n]? = some L[n] := List.getElem?_eq_getElem hn
      rw [List.range_succ, List.filterMap_append, ih (by omega), List.filterMap_cons_some g, List.take_succ, g]
      rfl
  rw [z _ (Nat.le_refl _), List.take_length]
/-- the table laid anew -/
theorem relay_ok {o : Obj} (ho : s.heap.get? a = some o) (hx : o.ExactSet) (hd : o.data = .set es ep t) (hr : es.toList = L.map (rowV kd)) (T0 : TabOk t (L.map fun p => kh kd p.2)) (hm : L.length ≤ t.mask)
    (nd : (L.map (·.2)).Nodup) (tp : ∀ p ∈ L, IsTupleKey kd s.heap p.2 p.1) (ld : w.params.followText "set-order" = true ∨ t.led = true) (fw : L.length < 64) {wanted M : Nat}
    (w1 : SetTable.sizeAbove wanted - 1 = M) (w2 : MaskOk M) (w3 : SetTable.sizeAbove wanted ≤ 128) (w4 : L.length * 5 < M * 3) {Q : Unit → Shared → Prop}
    (hQ : ∀ h' L' es' ep' t', Heap.SameBut a s.heap h' → SetR kd h' a L' es' ep' t' → L'.Perm L → Q () { s with heap := h' }) : wpAny (model P w) A (setRelay a wanted) Q E s := by
  have sz := rows_size hr
  have ft : t.fits es.size = true := tab_fits T0 (by rw [List.length_map]; exact sz) (by omega)
  obtain ⟨t', order, e, hp, T, em, el, _, ed⟩ := relaid_ok t (hs := es.map (·.1)) (wanted := wanted) w1 w2 (by rw [Array.size_map, sz]; omega)
  rw [Array.size_map, sz] at hp
  obtain ⟨M', m1, m2, m3⟩ := rows_pick hr order.toList fun i hi => List.mem_range.mp (hp.mem_iff.mp hi)
  have pm : M'.Perm L := by
    have z := hp.filterMap fun i => L[i]?
    rw [range_all, ← m1] at z
    exact z
  rw [← m3] at T
  have r2 : (order.filterMap (es[·]?)).toList = M'.map (rowV kd) := by first | (rw [Array.toList_filterMap]; exact m2) | simpa using m2
  have sz2 : (order.filterMap (es[·]?)).size = es.size := by rw [rows_size r2, pm.length_eq, sz]
  rw [setRelay_eq]
  refine wpAny_bind (wpAny_setState_of ho hd ft ?_)
  dsimp only
  refine wp_if_neg (by rw [sizeLine_eq]; omega) ?_
  try refine wpAny_bind (wpAny_pure ?_)
  rw [e]
  dsimp only
  refine wpAny_bind (wp_if_neg (by rw [sz2]; simp) ?_)
  try refine wpAny_bind (wpAny_pure ?_)
  refine wpAny_pure ?_
  dsimp only
  refine wpAny_storeSet_of ho hd ?_ (by rw [sz2, sz, sizeLine_eq]; omega)
  have sb : Heap.SameBut a s.heap (s.heap.update a (Obj.putSet (order.filterMap (es[·]?)) t')) := Heap.SameBut.update ..
  exact hQ _ M' _ (ep + 1) t' sb ⟨⟨_, store_at ho hd, ⟨hx.1, hx.2.1, hx.2.2⟩, rfl⟩, r2, T, (pm.map (·.2)).nodup_iff.mpr nd, fun p m => tup_stay (tp p (pm.mem_iff.mp m)) ho hd sb, by rw [el]; exact ld, by rw [pm.length_eq, em]; exact w4, by rw [pm.length_eq]; exact fw⟩ pm
theorem tab_plain {hs : List Int} (T : TabOk t hs) (b : Bool) : TabOk { t with plain := b } hs := ⟨T.ris, T.dm, T.sz, T.mok, T.bd, T.reach⟩
/-- a key put in -/
theorem put_ok (F : Flt kd) (R : SetR kd s.heap a L es ep t) {x : Addr} {k : List κ} (hx : IsTupleKey kd s.heap k x) (hu : A.units < cLine) (fw : k ∉ L.map (·.2) → L.length + 1 < 64) {Q : Bool → Shared → Prop}
    (hQ : ∀ b h' L' es' ep' t', Heap.SameBut a s.heap h' → SetR kd h' a L' es' ep' t' → (k ∈ L.map (·.2) → L' = L) → (k ∉ L.map (·.2) → L'.Perm ((x, k) :: L)) → Q b { s with heap := h' }) :
    wpAny (model P w) A (setAddHashed a (.ref x) (kh kd k)) Q E s := by
  obtain ⟨o, ho, hex, hd⟩ := R.ob
  have sz := rows_size R.rows
  have rm := R.room
  unfold setAddHashed
  refine wpAny_holding ?_
  rw [show (100000 : Nat) = 99999 + 1 from rfl, setAddHashedIn_succ]
  refine wpAny_bind (wpAny_setState_of ho hd R.fit ?_)
  dsimp only
  refine wp_if_neg (by simp [byScan, Value.scannable]) ?_
  try refine wpAny_bind (wpAny_pure ?_)
  refine wpAny_bind (find_ok F R hx hu (fun hm => ?_) fun K hm b2 b3 => ?_)
  · dsimp only
    exact wpAny_pure (hQ false s.heap L es ep t (Heap.SameBut.refl a s.heap) R (fun _ => rfl) fun z => absurd hm z)
  · have fw := fw hm
    dsimp only
    refine wpAny_bind (wpAny_setState_of ho hd R.fit ?_)
    dsimp only
    obtain ⟨q1, q2, q3, q4, q5, q6, q7, q8, q9⟩ := R.tab.put b2 b3
    generalize t.put (way t.mask (kh kd k) K) = pt at q1 q3 q4 q5 q6 q7 q8 q9 ⊢
    obtain ⟨t1, p⟩ := pt
    dsimp only at q1 q3 q4 q5 q6 q7 q8 q9 ⊢
    subst q1
    generalize SetTable.below t.place (way t.mask (kh kd k) K) = p at q2 q3 ⊢
    have pm := put_perm L p (x, k)
    have hrow : (SetTable.insertAt es p (kh kd k, Value.ref x)).toList = (L.take p ++ (x, k) :: L.drop p).map (rowV kd) := by
      rw [SetTable.toList_insertAt, R.rows, List.map_append, List.map_cons, List.map_take, List.map_drop]
      rfl
    have hhs : (L.map fun p => kh kd p.2).take p ++ kh kd k :: (L.map fun p => kh kd p.2).drop p = (L.take p ++ (x, k) :: L.drop p).map (fun p => kh kd p.2) := by
      rw [List.map_append, List.map_cons, List.map_take, List.map_drop]
    rw [hhs] at q3
    generalize L.take p ++ (x, k) :: L.drop p = L1 at pm q3 hrow
    have len1 : L1.length = L.length + 1 := pm.length_eq
    have nd1 : (L1.map (·.2)).Nodup := by
      refine (pm.map (·.2)).nodup_iff.mpr ?_
      rw [List.map_cons]
      exact List.nodup_cons.mpr ⟨hm, R.nd⟩
    have sz1 := rows_size hrow
    generalize SetTable.insertAt es p (kh kd k, Value.ref x) = es1 at hrow sz1 ⊢
    -- whatever is said of its hash
    have go : ∀ t2 : SetTable, t2.place = t1.place → t2.mask = t1.mask → t2.led = t1.led → TabOk t2 (L1.map fun p => kh kd p.2) → t2.tooFull = t1.tooFull → wpAny (model P w) A (do
        storeSet a es1 t2
        if !false && t2.tooFull then setRelay a (SetTable.grown (es.size + 1))
        return true) Q E s := fun t2 e1 e2 e3 T2 e4 => by
      refine wpAny_bind (wpAny_storeSet_of ho hd ?_ (by rw [sz1, len1, sizeLine_eq]; omega))
      have sb : Heap.SameBut a s.heap (s.heap.update a (Obj.putSet es1 t2)) := Heap.SameBut.update ..
      have ho1 := store_at (es' := es1) (t' := t2) ho hd
      generalize s.heap.update a (Obj.putSet es1 t2) = h1 at sb ho1 ⊢
      have tp1 : ∀ p ∈ L1, IsTupleKey kd h1 p.2 p.1 := fun p m => by
        rcases List.mem_cons.mp (pm.mem_iff.mp m) with e | m
        · rw [e]; exact tup_stay hx ho hd sb
        · exact tup_stay (R.tup p m) ho hd sb
      have ld1 : w.params.followText "set-order" = true ∨ t2.led = true := by rw [e3, q5]; exact R.led
      have hfull : t2.tooFull = true ↔ (L.length + 1) * 5 ≥ t.mask * 3 := by
        rw [e4]
        unfold SetTable.tooFull
        rw [decide_eq_true_eq, q9, List.length_map, q4]
      by_cases hf : t2.tooFull = true
      · have hge := hfull.mp hf
        have two : (t.mask = 7 ∧ L.length = 4) ∨ (t.mask = 31 ∧ L.length = 18) := by
          rcases R.tab.mok with e | e | e
          · left; rw [e] at hge rm; exact ⟨e, by omega⟩
          · right; rw [e] at hge rm; exact ⟨e, by omega⟩
          · exfalso; rw [e] at hge; omega
        have on : ∀ M, SetTable.sizeAbove (SetTable.grown (L.length + 1)) - 1 = M → MaskOk M → SetTable.sizeAbove (SetTable.grown (L.length + 1)) ≤ 128 → (L.length + 1) * 5 < M * 3 →
            wpAny (model P w) A (setRelay a (SetTable.grown (L.length + 1))) (fun _ s' => wpAny (model P w) A (pure true) Q E s') E { s with heap := h1 } := fun M m1 m2 m3 m4 =>
          relay_ok (s := { s with heap := h1 }) ho1 ⟨hex.1, hex.2.1, hex.2.2⟩ rfl hrow T2 (by rw [len1, e2, q4]; rcases two with ⟨z, z2⟩ | ⟨z, z2⟩ <;> omega) nd1 tp1 ld1 (by rw [len1]; exact fw) m1 m2 m3 (by rw [len1]; exact m4)
            fun h2 L2 es2 ep2 t3 sb2 R2 pm2 => wpAny_pure (hQ true h2 L2 es2 ep2 t3 (sb.trans sb2) R2 (fun z => absurd z hm) fun _ => pm2.trans pm)
        rw [sz]
        first
          | (refine wpAny_bind ?_; refine wp_if_pos (by simp [hf]) ?_)
          | (refine wp_if_pos (by simp [hf]) ?_; refine wpAny_bind ?_)
        rcases two with ⟨_, e⟩ | ⟨_, e⟩
        · exact on 31 (by rw [e, size_20]) (.inr (.inl rfl)) (by rw [e, size_20]; decide) (by omega)
        · exact on 127 (by rw [e, size_76]) (.inr (.inr rfl)) (by rw [e, size_76]; decide) (by omega)
      · have hlt : ¬ (L.length + 1) * 5 ≥ t.mask * 3 := fun z => hf (hfull.mpr z)
        first
          | refine wp_if_neg (by simp [hf]) ?_
          | (refine wpAny_bind ?_; refine wp_if_neg (by simp [hf]) ?_; refine wpAny_pure ?_)
        exact wpAny_pure (hQ true h1 L1 es1 (ep + 1) t2 sb ⟨⟨_, ho1, ⟨hex.1, hex.2.1, hex.2.2⟩, rfl⟩, hrow, T2, nd1, tp1, ld1, by rw [len1, e2, q4]; omega, by rw [len1]; exact fw⟩ (fun z => absurd z hm) fun _ => pm)
    have fin : ∀ b : Bool, wpAny (model P w) A (do
        let t := if b then t1 else { t1 with plain := false }
        storeSet a es1 t
        if !false && t.tooFull then setRelay a (SetTable.grown (es.size + 1))
        return true) Q E s := fun b => by
      cases b with
      | true => exact go t1 rfl rfl rfl q3 rfl
      | false => exact go { t1 with plain := false } rfl rfl rfl (tab_plain q3 false) rfl
    by_cases hp1 : t1.plain = true
    · first
        | (refine wpAny_bind ?_; refine wp_if_pos hp1 ?_; exact some_hby F hx fin)
        | exact wp_if_pos hp1 (wpAny_bind (some_hby F hx fin))
    · first
        | (refine wpAny_bind ?_; refine wp_if_neg hp1 ?_; exact wpAny_pure (fin true))
        | exact wp_if_neg hp1 (wpAny_bind (wpAny_pure (fin true)))
/-! ### the loop that fills the set -/
theorem nodup_len {α : Type} [DecidableEq α] : ∀ {l m : List α}, l.Nodup → (∀ x ∈ l, x ∈ m) → l.length ≤ m.length
  | [], _, _, _ => Nat.zero_le _
  | x :: l, m, nd, h => by
    have hx := h x List.mem_cons_self
    obtain ⟨n1, n2⟩ := List.nodup_cons.mp nd
    have z := nodup_len (m := m.erase x) n2 fun y hy => (List.mem_erase_of_ne (fun e => n1 (by rw [← e]; exact hy))).mpr (h y (List.mem_cons_of_mem _ hy))
    rw [List.length_erase_of_mem hx] at z
    have := List.length_pos_of_mem hx
    rw [List.length_cons]
    omega
/-- what the set has of the first i items -/
structure Had (ks : List (Addr × List κ)) (i : Nat) (L : List (Addr × List κ)) : Prop where
  sub : ∀ p ∈ L, p ∈ ks
  all : ∀ p ∈ ks.take i, p.2 ∈ L.map (·.2)
theorem take_one {α : Type} {l : List α} {i : Nat} {x : α} (h : l[i]? = some x) : l.take (i + 1) = l.take i ++ [x] := by
  rw [List.take_succ, h]
  rfl
theorem tup_kept {h h' : Heap} {k : List κ} {b : Addr} (x : IsTupleKey kd h k b) (hk : ∀ c o, h.get? c = some o → h'.get? c = some o) : IsTupleKey kd h' k b := by
  obtain ⟨o, its, n, h1, r⟩ := x
  exact ⟨o, its, n, hk b o h1, r⟩
theorem SetR.kept {h h' : Heap} (R : SetR kd h a L es ep t) (ha : ∀ o, h.get? a = some o → h'.get? a = some o) (ht : ∀ p ∈ L, IsTupleKey kd h' p.2 p.1) : SetR kd h' a L es ep t := by
  obtain ⟨o, ho, r⟩ := R.ob
  exact ⟨⟨o, ha o ho, r⟩, R.rows, R.tab, R.nd, ht, R.led, R.room, R.few⟩
theorem fresh_set {h : Heap} {b : Bool} (hb : w.params.followText "set-order" = true ∨ b = true) (ho : h.get? a = some { cls := .type "set", dict := none, data := .set #[] 0 (.fresh 0 0 b) }) : SetR kd h a [] #[] 0 (.fresh 0 0 b) := by
  refine ⟨⟨_, ho, ⟨rfl, rfl, rfl⟩, rfl⟩, rfl, ⟨List.Pairwise.nil, rfl, rfl, .inl rfl, fun x hx => absurd hx List.not_mem_nil, fun i h j hi => by simp at hi⟩, List.nodup_nil, fun p hp => absurd hp List.not_mem_nil, hb, ?_, ?_⟩
  · show 0 * 5 < 7 * 3
    decide
  · show 0 < 64
    decide
theorem fill_loop (F : Flt kd) {I : Addr} {fp wr : List Addr} {G : Array GenState → Array GenState → Prop} {n : Nat} {Pv : Nat → Value → Prop} {St : Nat → Shared → Prop} {R : Result → Shared → Prop}
    (W : WalksS P w A.in1 I fp wr G n Pv St) (S : Addr) (hSf : S ∉ fp) (ks : List (Addr × List κ)) (hn : n = ks.length) (few : (dd (ks.map (·.2))).length < 64) (hval : ∀ i v, Pv i v → ∃ p, ks[i]? = some p ∧ v = .ref p.1)
    (h0 : Heap) (hk : ∀ p ∈ ks, IsTupleKey kd h0 p.2 p.1) (hS0 : h0.get? S = none) (hw0 : ∀ b ∈ wr, h0.get? b = none) (hu : A.in1.units < cLine) :
    ∀ (m i : Nat) (s : Shared), n - i = m → i ≤ n → St i s → (∀ b o, h0.get? b = some o → s.heap.get? b = some o) → (∃ L es ep t, SetR kd s.heap S L es ep t ∧ Had ks i L) →
      (∀ s' L es ep t, Moved (S :: wr) G s s' → SetR kd s'.heap S L es ep t → Had ks n L → (∀ b o, h0.get? b = some o → s'.heap.get? b = some o) → R (.ok (.ret .none)) s') →
      codeAny (model P w) A (.builtin "set.update.loop" ⟨[.ref S, .ref I], []⟩) R s := by
  have sw : S ∉ wr := fun z => hSf (W.sub _ z)
  have up : ∀ b ∈ wr, b ∈ S :: wr := fun b m => List.mem_cons_of_mem _ m
  have still : ∀ {s s' : Shared}, Moved wr G s s' → (∀ b o, h0.get? b = some o → s.heap.get? b = some o) → ∀ b o, h0.get? b = some o → s'.heap.get? b = some o := fun hm q b o e =>
    hm.heap b o (fun m => by rw [hw0 b m] at e; cases e) (q b o e)
  intro m
  induction m with
  | zero =>
    intro i s hm hi st q ⟨L, es, ep, t, hS, g⟩ hR
    obtain rfl : i = n := by omega
    refine codeAny_builtin PyProof.Rows.F.entry_set_update_loop ?_
    rw [Around.under_plainId PyProof.Rows.F.plain_set_update_loop _]
    show wpAny _ A.in1 (pyNext (.ref I) >>= _) _ _ s
    refine wpAny_bind (W.done s _ _ st fun s' mv => ?_)
    show wpAny _ A.in1 (ret Value.none) _ _ s'
    have q' := still mv q
    exact wpAny_pure (hR s' L es ep t (mv.mono up) (hS.kept (fun o e => mv.heap S o sw e) fun p hp => tup_kept (hk p (g.sub p hp)) q') g q')
  | succ m ih =>
    intro i s hm hi st q ⟨L, es, ep, t, hS, g⟩ hR
    have lt : i < n := by omega
    refine codeAny_builtin PyProof.Rows.F.entry_set_update_loop ?_
    rw [Around.under_plainId PyProof.Rows.F.plain_set_update_loop _]
    show wpAny _ A.in1 (pyNext (.ref I) >>= _) _ _ s
    refine wpAny_bind (W.item i s _ _ lt st fun v s' hP st' mv => ?_)
    obtain ⟨p, hp, rfl⟩ := hval i v hP
    have q' := still mv q
    have pm : p ∈ ks := List.mem_of_getElem? hp
    have hS' : SetR kd s'.heap S L es ep t := hS.kept (fun o e => mv.heap S o sw e) fun r hr => tup_kept (hk r (g.sub r hr)) q'
    have hx : IsTupleKey kd s'.heap p.2 p.1 := tup_kept (hk p pm) q'
    show wpAny _ A.in1 (holding [Value.ref p.1] (setAdd S (.ref p.1)) >>= _) _ _ s'
    refine wpAny_bind (wpAny_holding ?_)
    unfold setAdd
    refine wpAny_holding (wpAny_bind (wpAny_pyHash_tuple hu hx ?_))
    refine put_ok (s := { s' with toks := s'.toks + (p.2.length + 1) }) F hS' hx hu (fun nm => ?_) fun b h' L' es' ep' t' sb hS2 c1 c2 => ?_
    · have z := nodup_len (l := p.2 :: L.map (·.2)) (m := dd (ks.map (·.2))) (List.nodup_cons.mpr ⟨nm, hS'.nd⟩) fun y hy => by
        rcases List.mem_cons.mp hy with e | hy
        · rw [e]; exact dd_mem.mpr (List.mem_map.mpr ⟨p, pm, rfl⟩)
        · obtain ⟨r, hr, e⟩ := List.mem_map.mp hy
          exact dd_mem.mpr (List.mem_map.mpr ⟨r, g.sub r hr, e⟩)
      rw [List.length_cons, List.length_map] at z
      omega
    have g' : Had ks (i + 1) L' := by
      by_cases c : p.2 ∈ L.map (·.2)
      · rw [c1 c]
        refine ⟨g.sub, fun r hr => ?_⟩
        rw [take_one hp] at hr
        exact (List.mem_append.mp hr).elim (g.all r) fun z => by rw [List.mem_singleton.mp z]; exact c
      · have pe := c2 c
        refine ⟨fun r hr => (List.mem_cons.mp (pe.mem_iff.mp hr)).elim (fun e => by rw [e]; exact pm) (g.sub r), fun r hr => ?_⟩
        rw [(pe.map (·.2)).mem_iff, List.map_cons]
        rw [take_one hp] at hr
        exact (List.mem_append.mp hr).elim (fun z => List.mem_cons_of_mem _ (g.all r z)) fun z => by rw [List.mem_singleton.mp z]; exact List.mem_cons_self
    have q2 : ∀ b o, h0.get? b = some o → h'.get? b = some o := fun b o e => (sb.2 b (fun z => by rw [z, hS0] at e; cases e)).trans (q' b o e)
    refine wpAny_pure ⟨plainId_quiet PyProof.Rows.F.plain_set_update_loop _, ih (i + 1) _ (by omega) lt (W.frame _ s' _ _ st' (Nat.le_add_right _ _) fun b hb o e => ?_) q2 ⟨L', es', ep', t', hS2, g'⟩ fun s2 L2 es2 ep2 t2 mv2 hS3 g3 q3 => ?_⟩
    · rw [sb.2 b (fun z : b = S => hSf (by rw [← z]; exact hb))]
      exact e
    · refine hR s2 L2 es2 ep2 t2 (Moved.trans W.gtrans ((mv.mono up).then_heap (Nat.le_add_right _ _) fun b o hb e => ?_) mv2) hS3 g3 q3
      rw [sb.2 b (fun z : b = S => hb (by rw [z]; exact List.mem_cons_self))]
      exact e
/-! ### set(xs) -/
abbrev emptySet (b : Bool) : Obj := { cls := .type "set", dict := none, data := .set #[] 0 (.fresh 0 0 b) }
set_option maxHeartbeats 4000000 in
theorem set_call (FK : Flt kd) {l : Addr} {its : Array Value} (ks : List (Addr × List κ)) {Q : Value → Shared → Prop} (hh : A.handled = none) (hl : s.heap.IsList l its) (hit : its.toList = ks.map fun p => Value.ref p.1)
    (hk : ∀ p ∈ ks, IsTupleKey kd s.heap p.2 p.1) (few : (dd (ks.map (·.2))).length < 64) (hu : A.units + 3 < cLine)
    (h : ∀ (h' : Heap) (tk : Nat) L es ep t, SetR kd h' s.heap.objs.size L es ep t → Had ks ks.length L → (∀ b o, s.heap.get? b = some o → h'.get? b = some o) → Q (.ref s.heap.objs.size) { s with heap := h', toks := tk }) :
    wpAny (model P w) A (call (.type "set") [.ref l]) Q E s := by
  have isz : its.size = ks.length := by
    have z := congrArg List.length hit
    rwa [Array.length_toList, List.length_map] at z
  obtain ⟨cc, tl, hmro⟩ := F.called_set.mro
  have g1 := F.called_set.made
  have g2 := F.called_set.sub
  refine wpAny_call (codeAny_of_tree ?_)
  show wpAny _ _ (callAny (.type "set") _) _ _ _
  refine wpAny_pure ⟨Code.quiet_builtin _ (by decide +kernel), codeAny_builtin F.entry_type_call ?_⟩
  rw [Around.under_plain (weight_type_call_type "set" [.ref l] []) rfl]
  have g3 := F.called_set.notType
  have g4 := F.called_set.canCreate
  have g5 := F.typeCall_set_1 (.ref l)
  repeat (any_goals (first | assumption | wp_step))
  refine codeAny_mono (code_set_led1 (.ref l) (E := E) (Q₁ := fun ob s₁ => ob = .ref s.heap.objs.size ∧ s₁ = { s with heap := s.heap.push (emptySet (!w.params.followText "set-order")) }) ⟨rfl, rfl⟩) fun r s₁ hr => ?_
  cases r with
  | error e => exact hr
  | ok fl =>
    cases fl with
    | ret ob =>
      obtain ⟨rfl, rfl⟩ := hr
      have hS : (s.heap.push (emptySet (!w.params.followText "set-order"))).get? s.heap.objs.size = some (emptySet (!w.params.followText "set-order")) := Heap.get?_push_size _ rfl
      have hT : Shared.TypeIs { s with heap := s.heap.push (emptySet (!w.params.followText "set-order")) } (.ref s.heap.objs.size) "set" := ⟨_, hS, rfl⟩
      have i1 := F.called_set.init.lookup
      have i2 := F.called_set.init.bind (.ref s.heap.objs.size)
      repeat (any_goals (first | assumption | wp_step))
      refine codeAny_mono (codeAny_call_builtin (R := wants (fun r s₂ => r = .none ∧ ∃ h' tk L es ep t, s₂ = { s with heap := h', toks := tk } ∧ SetR kd h' s.heap.objs.size L es ep t ∧ Had ks ks.length L ∧
          (∀ b o, s.heap.get? b = some o → h'.get? b = some o)) E) F.called_set.init.plain F.entry_set_init (check_set_init_1 hT ?_)) fun r₂ s₂ hr₂ => ?_
      · obtain ⟨ol, hol, hcl, nl, hdl⟩ := hl
        obtain ⟨ocls, odict, odata, oslots⟩ := ol
        simp only at hcl hdl
        subst hcl
        subst hdl
        have hol' : (s.heap.push (emptySet (!w.params.followText "set-order"))).get? l = some { cls := .type "list", dict := odict, data := .seq its nl, slots := oslots } := Heap.get?_push_of_some _ hol
        have k1 := F.sub_list_set
        have k2 := F.sub_list_frozenset
        have k3 : (Value.type "list" == Value.type "dict") = false := by decide
        have hl1 : (s.heap.push (emptySet (!w.params.followText "set-order"))).IsList l its := ⟨_, hol', rfl, nl, rfl⟩
        unfold Builtin.«set.__init__» noKeywords Builtin.Frozenset.updateFrom
        generalize hPI : pyIter = PI0
        wp_walk
        subst hPI
        refine wpAny_pyIter_list hl1 (wpAny_bind (wpAny_runValue ?_))
        have lS : l < s.heap.objs.size := Heap.lt_size hol
        have h3 : A.in1.in1.in1.handled = none := by simp [hh]
        have zS : (s.heap.push (emptySet (!w.params.followText "set-order"))).objs.size = s.heap.objs.size + 1 := Heap.size_push ..
        have nI : l ≠ (s.heap.push (emptySet (!w.params.followText "set-order"))).objs.size := by rw [zS]; exact Nat.ne_of_lt (Nat.lt_succ_of_lt lS)
        have nS : s.heap.objs.size ∉ [(s.heap.push (emptySet (!w.params.followText "set-order"))).objs.size, l] := by
          rw [zS]
          simp only [List.mem_cons, List.not_mem_nil, or_false, not_or]
          exact ⟨Nat.ne_of_lt (Nat.lt_succ_self _), Nat.ne_of_gt lS⟩
        have hval : ∀ (i : Nat) (v : Value), its[i]? = some v → ∃ p, ks[i]? = some p ∧ v = .ref p.1 := fun i v hv => by
          rw [← Array.getElem?_toList, hit, List.getElem?_map] at hv
          obtain ⟨p, hp, e⟩ := Option.map_eq_some_iff.mp hv
          exact ⟨p, hp, e.symm⟩
        have new : ∀ b, s.heap.objs.size ≤ b → s.heap.get? b = none := fun b hb => by
          cases q : s.heap.get? b with
          | none => rfl
          | some o => exact absurd (Nat.lt_of_lt_of_le (Heap.lt_size q) hb) (Nat.lt_irrefl _)
        refine fill_loop FK ((Walks.list h3 _ l nI its).toS) s.heap.objs.size nS ks isz few hval s.heap hk (new _ (Nat.le_refl _)) (fun b hb => new b (by rw [List.mem_singleton.mp hb, zS]; exact Nat.le_succ _)) hu (its.size - 0) 0 _ (by omega) (Nat.zero_le _)
          ⟨⟨_, Heap.get?_push_size _ rfl, rfl, rfl⟩, (hl1.push _)⟩ (fun b o e => Heap.get?_push_of_some _ (Heap.get?_push_of_some _ e)) ?first ?last
        case first =>
          have hg : ((s.heap.push (emptySet (!w.params.followText "set-order"))).push { cls := .type "list_iterator", data := .fields #[.ref l, .int 0 0] }).get? s.heap.objs.size = some (emptySet (!w.params.followText "set-order")) := Heap.get?_push_of_some _ hS
          exact ⟨[], #[], 0, _, fresh_set (by cases w.params.followText "set-order" <;> simp) hg, ⟨fun p m => absurd m List.not_mem_nil, fun p m => by simp at m⟩⟩
        case last =>
          intro s' L es ep t mv hS' g' keep
          obtain ⟨hp, ge, dr, tk, os⟩ := s'
          have e1 : ge = s.gens := mv.gens
          have e2 : dr = s.drawn := mv.drawn
          have e3 : os = s.os := mv.os
          subst e1
          subst e2
          subst e3
          show wpAny _ _ _ _ _ _
          refine wpAny_pure ?_
          show wpAny _ _ (ret Value.none) _ _ _
          rw [isz] at g'
          exact wpAny_pure ⟨rfl, hp, tk, L, es, ep, t, rfl, hS', g', keep⟩
      · cases r₂ with
        | error e => exact hr₂
        | ok fl₂ =>
          cases fl₂ with
          | ret r =>
            obtain ⟨rfl, hp, tk, L, es, ep, t, rfl, hS', g', keep⟩ := hr₂
            repeat (any_goals (first | assumption | wp_step))
            exact h _ _ _ _ _ _ hS' g' keep
          | _ => exact hr₂.elim
    | _ => exact hr.elim
/-! ### sorted(s) -/
theorem alike_strs : ∀ (x y : List Str), PySem.W.alikeAll (x.map PyData.str) (y.map PyData.str) = true
  | [], _ => by rw [List.map_nil, PySem.W.alikeAll]
  | _ :: _, [] => by rw [List.map_cons, List.map_nil, PySem.W.alikeAll]
  | a :: x, b :: y => by
    rw [List.map_cons, List.map_cons, PySem.W.alikeAll, alike_strs x y, PySem.W.alike]
    rfl
theorem reads_strs {h : Heap} : ∀ {k : List Str} {vs : List Value}, ItemsAre (PySem.strKind P w) k vs → ReadsAll h vs (k.map PyData.str) []
  | [], _, .nil => .nil
  | x :: k, _, .cons q t => by
    obtain ⟨tk, rfl⟩ := Value.isStrOf_shape q
    exact .cons (as := []) (bs := []) (.str x tk) (reads_strs t)
theorem reads_tup {h : Heap} {k : List Str} {b : Addr} (x : IsTupleKey (PySem.strKind P w) h k b) : Reads h (.ref b) (tupS k) [] := by
  obtain ⟨o, its, n, h1, h2, h3, h4⟩ := x
  exact .tuple h1 h2 h3 (reads_strs h4)
theorem depth_tup (k : List Str) : (tupS k).depth ≤ 3 := by
  have z : ∀ k : List Str, PyData.depthAll (k.map PyData.str) ≤ 2 := fun k => by
    induction k with
    | nil => simp [PyData.depthAll]
    | cons a k ih =>
      rw [List.map_cons, PyData.depthAll]
      have : (PyData.str a).depth ≤ 2 := by simp [PyData.depth]
      omega
  unfold tupS
  rw [PyData.depth]
  have := z k
  omega
abbrev rowLe (p q : Addr × List Str) : Bool := PySem.W.sortLe (PyProof.Rows.listOrd PyProof.Rows.itemOrd) false (fun b : Addr × List Str => PySem.W.keyToks (tupS b.2)) p q
theorem each_refs : ∀ M : List (Addr × List Str), PySem.W.EachIs (fun v b => v = Value.ref b.1) (M.map fun p => Value.ref p.1) M
  | [] => .nil
  | _ :: M => .cons rfl (each_refs M)
theorem refs_each : ∀ {vs : List Value} {M : List (Addr × List Str)}, PySem.W.EachIs (fun v b => v = Value.ref b.1) vs M → vs = M.map fun p => Value.ref p.1
  | _, _, .nil => rfl
  | _, _, .cons e t => by rw [e, refs_each t]; rfl
/-- list.sort of a list of tuples of texts -/
theorem sort_call {b : Addr} {M : List (Addr × List Str)} {n : Nat} {Q : Value → Shared → Prop} (ho : s.heap.get? b = some (seqObj "list" (M.map fun p => Value.ref p.1).toArray n)) (hM : ∀ p ∈ M, p.1 ≠ b ∧ p.2 ≠ [] ∧ IsTupleKey (PySem.strKind P w) s.heap p.2 p.1)
    (hz : M.length ≤ sizeLine) (hu : A.units + 10 < cLine) (h : Q .none { s with heap := sortedHeap s.heap b (M.map fun p => Value.ref p.1) ((M.mergeSort rowLe).map fun p => Value.ref p.1).toArray }) :
    wpAny (model P w) A (call (.builtin "list.sort") [.ref b]) Q E s := by
  have ty : ∀ p ∈ M, Reads (PySem.W.sortingHeap s.heap b (M.map fun p => Value.ref p.1)) (.ref p.1) (tupS p.2) [] := fun p m => by
    obtain ⟨n1, _, x⟩ := hM p m
    obtain ⟨o, its, c, h1, h2, h3, h4⟩ := x
    exact reads_tup ⟨o, its, c, PySem.W.sortingHeap_old n1 h1, h2, h3, h4⟩
  have ea : ∀ M' : List (Addr × List Str), (∀ p ∈ M', p ∈ M) → PySem.W.EachIs (fun v d => ∃ as, Reads (PySem.W.sortingHeap s.heap b (M.map fun p => Value.ref p.1)) v d as) (M'.map fun p => Value.ref p.1) (M'.map fun p => tupS p.2) := fun M' => by
    induction M' with
    | nil => exact fun _ => .nil
    | cons p M' ih => exact fun q => .cons ⟨[], ty p (q p List.mem_cons_self)⟩ (ih fun r m => q r (List.mem_cons_of_mem _ m))
  have al : PySem.W.AllAlike (M.map fun p => tupS p.2) := fun d hd d' hd' => by
    obtain ⟨p, _, rfl⟩ := List.mem_map.mp hd
    obtain ⟨q, _, rfl⟩ := List.mem_map.mp hd'
    unfold tupS
    rw [PySem.W.alike]
    exact alike_strs p.2 q.2
  have so : PySem.W.Sortable (M.map fun p => tupS p.2) := .inl fun d hd => by
    obtain ⟨p, m, rfl⟩ := List.mem_map.mp hd
    obtain ⟨_, ne, _⟩ := hM p m
    unfold tupS
    cases e : p.2 with
    | nil => exact absurd e ne
    | cons x r => exact ⟨_, _, rfl⟩
  refine wpAny_call_entry slot_list_sort ⟨_, ho, rfl⟩ entry_list_sort (PySem.W.list_sort_vals ho (PySem.W.SortsAt.data (s := { s with heap := PySem.W.sortingHeap s.heap b (M.map fun p => Value.ref p.1) }) (ea M fun _ m => m) al so fun d hd => ?_) (by rw [List.length_map]; exact hz) ⟨_, rfl, ?_⟩) (args_list_sort _)
  · obtain ⟨p, _, rfl⟩ := List.mem_map.mp hd
    have z := depth_tup p.2
    show A.in1.units + _ < _
    have : A.in1.units = A.units + 1 := rfl
    omega
  · have ks : PySem.W.EachIs (fun v b' => (PySem.W.dataKind (PySem.W.sortingHeap s.heap b (M.map fun p => Value.ref p.1)) (M.map fun p => tupS p.2)).keyOf v = some (PySem.W.keyToks (tupS b'.2))) (M.map fun p => Value.ref p.1) M := by
      have z : ∀ M' : List (Addr × List Str), (∀ p ∈ M', p ∈ M) → PySem.W.EachIs (fun v b' => (PySem.W.dataKind (PySem.W.sortingHeap s.heap b (M.map fun p => Value.ref p.1)) (M.map fun p => tupS p.2)).keyOf v = some (PySem.W.keyToks (tupS b'.2))) (M'.map fun p => Value.ref p.1) M' := fun M' => by
        induction M' with
        | nil => exact fun _ => .nil
        | cons p M' ih => exact fun q => .cons (PySem.W.dataKind_some al (List.mem_map.mpr ⟨p, q p List.mem_cons_self, rfl⟩) (ty p (q p List.mem_cons_self))) (ih fun r m => q r (List.mem_cons_of_mem _ m))
      exact z M fun _ m => m
    have e := refs_each (PySem.W.sortVals_each (κ := PySem.W.dataKind (PySem.W.sortingHeap s.heap b (M.map fun p => Value.ref p.1)) (M.map fun p => tupS p.2)) (rev := false) (fun b' : Addr × List Str => PySem.W.keyToks (tupS b'.2)) (each_refs M) ks)
    rw [e]
    exact h
/-- values that are rows' addresses, in some order -/
theorem pick_refs {L : List (Addr × List Str)} : ∀ {vs : List Value}, (∀ v ∈ vs, ∃ q ∈ L, v = Value.ref q.1) → ∃ M : List (Addr × List Str), vs = M.map (fun p => Value.ref p.1) ∧ ∀ q ∈ M, q ∈ L
  | [], _ => ⟨[], rfl, fun q m => absurd m List.not_mem_nil⟩
  | v :: vs, h => by
    obtain ⟨q, hq, e⟩ := h v List.mem_cons_self
    obtain ⟨M, e1, e2⟩ := pick_refs (vs := vs) fun u m => h u (List.mem_cons_of_mem _ m)
    exact ⟨q :: M, by rw [List.map_cons, e, e1], fun r m => (List.mem_cons.mp m).elim (fun z => by rw [z]; exact hq) (e2 r)⟩
theorem nodup_back {α β : Type} {f : α → β} {l : List α} (h : (l.map f).Nodup) : l.Nodup := List.Pairwise.of_map f (fun _ _ ne e => ne (congrArg f e)) h
/-- the rows behind a rearrangement of their addresses -/
theorem perm_rows {L M : List (Addr × List Str)} (nL : (L.map (·.2)).Nodup) (one : ∀ q ∈ L, ∀ r ∈ L, q.1 = r.1 → q = r) (hM : ∀ q ∈ M, q ∈ L) (pm : (M.map fun q => Value.ref q.1).Perm (L.map fun q => Value.ref q.1)) : M.Perm L := by
  have n1 : (L.map fun q => Value.ref q.1).Nodup := by
    refine List.pairwise_map.mpr (List.Pairwise.imp_of_mem (fun {q r} hq hr ne e => ?_) (nodup_back nL))
    injection e with e
    exact ne (one q hq r hr e)
  have n2 : M.Nodup := nodup_back (pm.nodup_iff.mpr n1)
  refine (List.perm_ext_iff_of_nodup n2 (nodup_back nL)).mpr fun q => ⟨hM q, fun hq => ?_⟩
  obtain ⟨r, hr, e⟩ := List.mem_map.mp (pm.mem_iff.mpr (List.mem_map.mpr ⟨q, hq, rfl⟩))
  injection e with e
  rw [← one r (hM r hr) q hq e]
  exact hr
theorem sorted_call {a : Addr} {L : List (Addr × List Str)} {es : Array (Int × Value)} {ep : Nat} {t : SetTable} {Q : Value → Shared → Prop} (R : SetR (PySem.strKind P w) s.heap a L es ep t) (hh : A.handled = none) (ne : ∀ p ∈ L, p.2 ≠ []) (hu : A.units + 20 < cLine)
    (hQ : ∀ s' p (c : Nat) (M : List (Addr × List Str)), (∀ b o, s.heap.get? b = some o → s'.heap.get? b = some o) → s'.gens = s.gens → s'.os = s.os → s.heap.objs.size ≤ p →
      s'.heap.get? p = some (seqObj "list" ((M.mergeSort rowLe).map fun q => Value.ref q.1).toArray c) → M.Perm L → Q (.ref p) s') :
    wpAny (model P w) A (call (.builtin "sorted") [.ref a]) Q E s := by
  obtain ⟨o, ho, hex, hd⟩ := R.ob
  have sz := rows_size R.rows
  have few := R.few
  refine Calls.call_function_entry kind_sorted plain_sorted entry_sorted (args_sorted1 _) ?_
  unfold Builtin.«sorted»
  refine wpAny_bind (m := checkCount "sorted" 1 1 _) (wpAny_pure ?_)
  refine wpAny_bind (collect_set (A := A.in1) hh ⟨o, ho, hex.1, hd⟩ R.fit (by unfold scanBound; omega) R.tab.ris R.led fun s1 vs k1 hz g1 o1 pm => ?_)
  have er : es.toList.map (·.2) = L.map fun q => Value.ref q.1 := by
    rw [R.rows, List.map_map]
    rfl
  rw [er] at pm
  obtain ⟨M, rfl, hM⟩ := pick_refs fun v hv => by
    obtain ⟨q, hq, e⟩ := List.mem_map.mp (pm.mem_iff.mp hv)
    exact ⟨q, hq, e.symm⟩
  have pL : M.Perm L := perm_rows R.nd (fun q hq r hr e => by
    have x1 := R.tup q hq
    have x2 := R.tup r hr
    rw [e] at x1
    exact Prod.ext e (x1.inj x2)) hM pm
  have lM : M.length < 64 := by rw [pL.length_eq]; exact few
  refine wpAny_bind (wpAny_newList ?_ (by rw [List.length_map, sizeLine_eq]; omega))
  have hoL : (s1.heap.push (seqObj "list" (M.map fun p => Value.ref p.1).toArray 0)).get? s1.heap.objs.size = some (seqObj "list" (M.map fun p => Value.ref p.1).toArray 0) := Heap.get?_push_size _ rfl
  refine wpAny_bind (wpAny_holding (sort_call (s := { s1 with heap := s1.heap.push (seqObj "list" (M.map fun p => Value.ref p.1).toArray 0) }) hoL (fun p m => ?_) (by rw [sizeLine_eq]; omega) ?_ ?_))
  · have x := tup_kept (R.tup p (hM p m)) k1
    refine ⟨?_, ne p (hM p m), tup_kept x fun b u e => Heap.get?_push_of_some _ e⟩
    obtain ⟨ob, its, n, h1, _⟩ := x
    exact Nat.ne_of_lt (Heap.lt_size h1)
  · have : A.in1.units = A.units + 1 := rfl
    omega
  · obtain ⟨c, hc⟩ := sortedHeap_at (vs := M.map fun p => Value.ref p.1) (out := ((M.mergeSort rowLe).map fun p => Value.ref p.1).toArray) hoL
    refine wpAny_pure ⟨_, rfl, hQ _ s1.heap.objs.size c M (fun b u e => ?_) g1 o1 hz hc pL⟩
    have q := k1 b u e
    have hlt := Heap.lt_size q
    show (sortedHeap (s1.heap.push (seqObj "list" (M.map fun p => Value.ref p.1).toArray 0)) s1.heap.objs.size (M.map fun p => Value.ref p.1) ((M.mergeSort rowLe).map fun p => Value.ref p.1).toArray).get? b = some u
    rw [sortedHeap_old (Nat.ne_of_lt hlt) (by rw [size_push']; exact Nat.lt_succ_of_lt hlt)]
    exact Heap.get?_push_of_some _ q
/-! ### the order is one of tuples: a list sorted is one and the same -/
theorem toks_inj : ∀ {x y : List Str}, PySem.W.keyToksAll (x.map PyData.str) = PySem.W.keyToksAll (y.map PyData.str) → x = y
  | [], [], _ => rfl
  | [], b :: y, h => by
    rw [List.map_nil, List.map_cons, PySem.W.keyToksAll, PySem.W.keyToksAll] at h
    injection h with h
    cases h
  | a :: x, [], h => by
    rw [List.map_nil, List.map_cons, PySem.W.keyToksAll, PySem.W.keyToksAll] at h
    injection h with h
    cases h
  | a :: x, b :: y, h => by
    rw [List.map_cons, List.map_cons, PySem.W.keyToksAll, PySem.W.keyToksAll, PySem.W.keyToks, PySem.W.keyToks] at h
    injection h with _ h
    injection h with h1 h2
    injection h1 with h1
    rw [PySem.W.str_of_cps h1, toks_inj h2]
theorem leK_eq (x y : List Str) : leK x y = PySem.W.sortLe (PyProof.Rows.listOrd PyProof.Rows.itemOrd) false (fun k : List Str => PySem.W.keyToks (tupS k)) x y := rfl
theorem leK_anti {x y : List Str} (h1 : leK x y = true) (h2 : leK y x = true) : x = y := by
  have a1 : PyProof.Rows.lexLt PyProof.Rows.itemOrd (PySem.W.keyToks (tupS y)) (PySem.W.keyToks (tupS x)) = false := by
    unfold leK PySem.W.dataLt at h1
    exact Bool.not_eq_true' _ |>.mp h1
  have a2 : PyProof.Rows.lexLt PyProof.Rows.itemOrd (PySem.W.keyToks (tupS x)) (PySem.W.keyToks (tupS y)) = false := by
    unfold leK PySem.W.dataLt at h2
    exact Bool.not_eq_true' _ |>.mp h2
  have e := (PyProof.Rows.listOrd PyProof.Rows.itemOrd).total _ _ a2 a1
  unfold tupS at e
  rw [PySem.W.keyToks, PySem.W.keyToks] at e
  exact toks_inj e
theorem one_sorted : ∀ {l m : List (List Str)}, l.Pairwise (fun a b => leK a b = true) → m.Pairwise (fun a b => leK a b = true) → l.Perm m → l = m
  | [], m, _, _, p => (List.Perm.eq_nil p.symm).symm
  | x :: l, [], _, _, p => absurd p.length_eq (by simp)
  | x :: l, y :: m, hl, hm, p => by
    have hx : y = x ∨ leK x y = true := (List.mem_cons.mp (p.mem_iff.mpr (List.mem_cons_self (a := y) (l := m)))).imp id fun z => (List.pairwise_cons.mp hl).1 y z
    have hy : x = y ∨ leK y x = true := (List.mem_cons.mp (p.mem_iff.mp (List.mem_cons_self (a := x) (l := l)))).imp id fun z => (List.pairwise_cons.mp hm).1 x z
    have e : x = y := by
      rcases hx with e | h1
      · exact e.symm
      · rcases hy with e | h2
        · exact e
        · exact leK_anti h1 h2
    subst e
    rw [one_sorted (List.pairwise_cons.mp hl).2 (List.pairwise_cons.mp hm).2 p.cons_inv]
theorem leK_total : PySem.W.TotalLe leK := PySem.W.sortLe_total (PyProof.Rows.listOrd PyProof.Rows.itemOrd) false (fun k : List Str => PySem.W.keyToks (tupS k))
theorem sort_perm {l m : List (List Str)} (p : l.Perm m) : l.mergeSort leK = m.mergeSort leK :=
  one_sorted (PySem.W.sort_pairwise leK_total l) (PySem.W.sort_pairwise leK_total m) ((List.mergeSort_perm l leK).trans (p.trans (List.mergeSort_perm m leK).symm))
/-- what sorted(set(..)) gives hangs on what is in it alone -/
theorem sortK_same {l m : List (List Str)} (h : ∀ x, x ∈ l ↔ x ∈ m) : sortK l = sortK m :=
  sort_perm ((List.perm_ext_iff_of_nodup (dd_nodup l) (dd_nodup m)).mpr fun x => by rw [dd_mem, dd_mem]; exact h x)
theorem rows_sorted (M : List (Addr × List Str)) : (M.mergeSort rowLe).map (·.2) = (M.map (·.2)).mergeSort leK := PySem.W.sort_maps (r := rowLe) (s := leK) (fun p : Addr × List Str => p.2) fun _ _ _ _ => rfl
end
end PI

/-! sorted(set(e)) as a rule -/
namespace PI
open PySem PySem.Spec PyProof.Rows L2
/-- the set at a, its tuples apart -/
def SetS (P : Program) (w : World) (h : Heap) (a : Addr) (L : List (Addr × List Str)) : Prop :=
  ∃ (es : Array (Int × Value)) (ep : Nat) (t : SetTable), (∃ o, h.get? a = some o ∧ o.ExactSet ∧ o.data = .set es ep t) ∧ es.toList = L.map (rowV (PySem.strKind P w)) ∧ TabOk t (L.map fun p => kh (PySem.strKind P w) p.2) ∧ (L.map (·.2)).Nodup ∧
    (w.params.followText "set-order" = true ∨ t.led = true) ∧ L.length * 5 < t.mask * 3 ∧ L.length < 64
def SetH (P : Program) (w : World) (a : Addr) (L : List (Addr × List Str)) : HO := .ext fun h => SetS P w h a L
theorem setS_of {P : Program} {w : World} {h : Heap} {a : Addr} {L : List (Addr × List Str)} {es : Array (Int × Value)} {ep : Nat} {t : SetTable} (R : SetR (PySem.strKind P w) h a L es ep t) : SetS P w h a L :=
  ⟨es, ep, t, R.ob, R.rows, R.tab, R.nd, R.led, R.room, R.few⟩
theorem setS_new {P : Program} {w : World} {H : Hp} {h : Heap} {a : Addr} {L : List (Addr × List Str)} (R : SetS P w h a L) : ObjOk P w H h a (SetH P w a L) := by
  have ⟨_, _, _, ⟨o, ho, _⟩, _⟩ := R
  refine ⟨R, ⟨o, ho⟩, fun h1 h2 p k => ?_⟩
  have ⟨es, ep, t, ⟨o', ho', r'⟩, q⟩ := (show SetS P w h1 a L from p)
  exact ⟨es, ep, t, ⟨o', k o' ho', r'⟩, q⟩
theorem str_items {P : Program} {w : World} : ∀ {k : List Str} {us : List Value}, Vals (k.map V.str) us → ItemsAre (PySem.strKind P w) k us
  | [], _, .nil => .nil
  | x :: k, _, .cons r t => by
    obtain ⟨tk, rfl⟩ := (show ∃ t, _ = Value.str x t from r)
    exact .cons (strKind_is P w x tk) (str_items t)
theorem ref_vals : ∀ {ks : List (Addr × List Str)} {us : List Value}, Vals (ks.map fun p => V.ref p.1) us → us = ks.map fun p => Value.ref p.1
  | [], _, .nil => rfl
  | _ :: _, _, .cons r t => by
    cases r
    rw [ref_vals t]
    rfl
theorem vals_ref : ∀ ks : List (Addr × List Str), Vals (ks.map fun p => V.ref p.1) (ks.map fun p => Value.ref p.1)
  | [] => .nil
  | _ :: ks => .cons rfl (vals_ref ks)
section
variable {X : Cx} {ca : Nat → Addr} {W : WX}
theorem inv_tup {pins : List (Addr × Obj)} {σ : L2.St} {H : Hp} {s : Shared} {b : Addr} {k : List Str} (I : Inv X pins σ H s) (h : SqT X.K H b (k.map V.str)) : IsTupleKey (PySem.strKind X.prog X.w) s.heap k b := by
  obtain ⟨its, r, ⟨o, ho, hc, n, hd⟩, _⟩ := I.tuple h
  exact ⟨o, its.toArray, n, ho, hc, hd, by simpa using str_items r⟩
def rSetS (X : Cx) : List V → Hp → VK → Prop := fun xs H Q => ∃ (l : Addr) (ks : List (Addr × List Str)), xs = [V.ref l] ∧ SqL X.K H l (ks.map fun p => V.ref p.1) ∧ (∀ p ∈ ks, SqT X.K H p.1 (p.2.map V.str)) ∧ (dd (ks.map (·.2))).length < 64 ∧
  ∀ a L, H a = none → (∀ p ∈ L, p ∈ ks) → (∀ p ∈ ks, p.2 ∈ L.map (·.2)) → (L.map (·.2)).Nodup → Q (.ref a) (upd H a (SetH X.prog X.w a L))
theorem set_rule (hc : X.calm = true) (hu : X.A.units + 64 < cLine) : CallR X (.type "set") (rSetS X) := by
  intro pins s σ H xs us Q I r h
  obtain ⟨l, ks, rfl, hl, hk, few, q⟩ := h
  rw [Vals.ref1 r]
  obtain ⟨its, rv, pl, _⟩ := I.list hl
  refine set_call (P := X.prog) (w := X.w) (flt_str _ _) ks (I.ok.hd hc) pl.isList (by simpa using ref_vals rv) (fun p m => inv_tup I (hk p m)) few (by omega) fun h' tk L es ep t R g keep => ?_
  refine ⟨.ref s.heap.objs.size, _, I.laid (t' := tk) keep (Nat.le_refl _) (setS_new (setS_of R)), rfl, q _ L (I.hok.fresh (Nat.le_refl _)) g.sub (fun p m => g.all p (by rw [List.take_length]; exact m)) R.nd⟩
def rSortS (X : Cx) : List V → Hp → VK → Prop := fun vs H Q => ∃ (a : Addr) (L : List (Addr × List Str)), vs = [V.ref a] ∧ H a = some (SetH X.prog X.w a L) ∧ (∀ p ∈ L, p.2 ≠ [] ∧ SqT X.K H p.1 (p.2.map V.str)) ∧
  ∀ (M : List (Addr × List Str)) (p : Addr), M.Perm L → H p = none → Q (.ref p) (upd H p (.lst ((M.mergeSort rowLe).map fun q => V.ref q.1)))
theorem sort_rule (hc : X.calm = true) (hu : X.A.units + 64 < cLine) : CallR X (.builtin "sorted") (rSortS X) := by
  intro pins s σ H vs us Q I r h
  obtain ⟨a, L, rfl, ha, hk, q⟩ := h
  obtain ⟨es, ep, t, h1, h2, h3, h4, h5, h6, h7⟩ : SetS X.prog X.w s.heap a L := (I.hok a _ ha).1
  have R : SetR (PySem.strKind X.prog X.w) s.heap a L es ep t := ⟨h1, h2, h3, h4, fun p m => inv_tup I (hk p m).2, h5, h6, h7⟩
  rw [Vals.ref1 r]
  refine sorted_call R (I.ok.hd hc) (fun p m => (hk p m).1) (by omega) fun s' p c M k g o hp hg pm => ?_
  have hn : H p = none := I.hok.fresh hp
  have hl : ((M.mergeSort rowLe).map fun q => V.ref q.1).length ≤ sizeLine := by
    rw [List.length_map, (List.mergeSort_perm M rowLe).length_eq, pm.length_eq, sizeLine_eq]
    omega
  have J : Inv X pins σ (upd H p (.lst ((M.mergeSort rowLe).map fun q => V.ref q.1))) { s with heap := s'.heap, gens := s'.gens, drawn := s'.drawn, toks := s'.toks } :=
    I.call (ch := []) (Un.laid k hp hn) (I.hok.laid k hp ⟨hl, _, c, vals_ref _, hg⟩) (by rw [g]; exact I.bare) (fun _ z => nomatch z)
  have e : s' = { s with heap := s'.heap, gens := s'.gens, drawn := s'.drawn, toks := s'.toks } := by
    cases s'
    cases s
    cases o
    rfl
  rw [e]
  exact ⟨.ref p, _, J, rfl, q M p pm hn⟩
/-! ### by values -/
theorem strs_at {K : PySem.W.Frag} {φ : List Addr} {H : Hp} : ∀ {vs : List V} {ds : List D} {k : List Str}, AtL K ca φ H vs ds → strsOf ds = some k → vs = k.map V.str ∧ ds = k.map D.str
  | _, _, _, .nil, e => by unfold strsOf at e; cases e; exact ⟨rfl, rfl⟩
  | _, _, _, .cons h t, e => by
    cases h with
    | str s _ =>
      unfold strsOf at e
      obtain ⟨k, e1, rfl⟩ := Option.map_eq_some_iff.mp e
      obtain ⟨e2, e3⟩ := strs_at t e1
      rw [e2, e3]
      exact ⟨rfl, rfl⟩
    | _ => unfold strsOf at e; cases e
theorem tups_at {K : PySem.W.Frag} {φ : List Addr} {H : Hp} : ∀ {vs : List V} {ds : List D} {ks : List (List Str)}, AtL K ca φ H vs ds → tupsOf ds = some ks → ∃ rs : List (Addr × List Str), vs = rs.map (fun p => V.ref p.1) ∧ rs.map (·.2) = ks ∧ ∀ p ∈ rs, p.2 ≠ [] ∧ SqT K H p.1 (p.2.map V.str) ∧ At K ca φ H (.ref p.1) (.tup (p.2.map D.str))
  | _, _, _, .nil, e => by unfold tupsOf at e; cases e; exact ⟨[], rfl, rfl, fun p m => absurd m List.not_mem_nil⟩
  | _, _, _, .cons h t, e => by
    unfold tupsOf at e
    split at e
    · rename_i e0; cases e0
    · rename_i x r xs e0
      cases e0
      split at e
      · rename_i k ks' e1 e2
        cases e
        cases h with
        | @tup b ws _ q t1 =>
          obtain ⟨e3, e4⟩ := strs_at t1 e1
          obtain ⟨rs, r1, r2, r3⟩ := tups_at t e2
          refine ⟨(b, k) :: rs, by rw [List.map_cons, r1], by rw [List.map_cons, r2], fun p m => ?_⟩
          rcases List.mem_cons.mp m with rfl | m
          · refine ⟨fun z => ?_, by rw [← e3]; exact q.sq, by rw [← e4]; exact .tup q t1⟩
            dsimp only at z
            rw [z] at e4
            cases e4
          · exact r3 p m
      · cases e
    · cases e
theorem ea_sortedSet {b : Expr} {fl : Env → Mem → R (List D)} {p p2 pos pos2 : Pos} (hc : X.calm = true) (hu : X.A.units + 64 < cLine) (hg : Gl X "sorted") (hm : X.mg "sorted" = none) (hg2 : Gl X "set") (hm2 : X.mg "set" = none) (ha : PA X [b] (aL X ca W fl))
    (hs : starEach [b] X.env = (false, eval b X.env) :: starEach [] X.env) : PE X (.Call (.Name "sorted" p) [.Call (.Name "set" p2) [b] [] pos2] [] pos) (aE X ca W fun σ μ => (fl σ μ).bind fun ds μ => evBI .sortedSet ds μ) :=
  PE.imp (pe_callB (sort_rule hc hu) hg hm boot_sorted (pa_cons (pe_callTy (set_rule hc hu) hg2 hm2 boot_set ha (by decide) (by decide) hs rfl) pa_nil rfl) (by decide) (by decide) rfl rfl) fun σ H Q ⟨φ, μ, sg, r, s, q⟩ => ⟨φ, μ, sg, r, s, q.bindI.mono fun x H1 ⟨φ1, μ1, ds, e1, r1, a0, q1⟩ => by
    obtain ⟨d, rfl⟩ : ∃ d, ds = [d] := by
      cases ds with
      | nil => exact q1.elim
      | cons d r0 =>
        cases r0 with
        | nil => exact ⟨d, rfl⟩
        | cons _ _ => exact q1.elim
    have q1 : Post X.K ca φ1 H1 (biSortedSet d μ1) Q (fun c d H' => W c d σ H') := q1
    obtain ⟨v0, rfl, a1⟩ := a0.one
    unfold biSortedSet at q1
    split at q1
    · rename_i ks e
      split at q1
      · rename_i few
        obtain ⟨xs, e2, e3⟩ := Option.bind_eq_some_iff.mp e
        obtain ⟨l, vs, rfl, hl, ht⟩ := lstOf_at r1 a1 e2
        obtain ⟨rs, rfl, rfl, hr⟩ := tups_at ht e3
        refine ⟨l, rs, rfl, .inl (.inl hl), fun p m => (hr p m).2.1, few, fun a L hn sub all nd => ?_⟩
        have x1 : Ext φ1 H1 φ1 (upd H1 a (SetH X.prog X.w a L)) := Ext.side hn
        have keepT : ∀ p ∈ L, p.2 ≠ [] ∧ At X.K ca φ1 (upd H1 a (SetH X.prog X.w a L)) (.ref p.1) (.tup (p.2.map D.str)) := fun p m => ⟨(hr p (sub p m)).1, (hr p (sub p m)).2.2.ext x1⟩
        have sq : ∀ (k : List Str) (b : Addr) (H2 : Hp), At X.K ca φ1 H2 (.ref b) (.tup (k.map D.str)) → SqT X.K H2 b (k.map V.str) := fun k b H2 z => by
          cases z with
          | @tup _ ws _ q t1 =>
            have e5 : strsOf (k.map D.str) = some k := by
              clear q t1
              induction k with
              | nil => rfl
              | cons y k ih => rw [List.map_cons, strsOf, ih]; rfl
            obtain ⟨e6, _⟩ := strs_at t1 e5
            rw [← e6]
            exact q.sq
        refine ⟨a, L, rfl, upd_same, fun p m => ⟨(keepT p m).1, sq _ _ _ (keepT p m).2⟩, fun M p pm hp => ?_⟩
        have r2 := r1.side (o := SetH X.prog X.w a L) hn
        have lst : AtL X.K ca φ1 (upd H1 a (SetH X.prog X.w a L)) ((M.mergeSort rowLe).map fun q => V.ref q.1) ((sortK (rs.map (·.2))).map fun k => D.tup (k.map D.str)) := by
          have e7 : sortK (rs.map (·.2)) = (M.mergeSort rowLe).map (·.2) := by
            rw [rows_sorted]
            refine sort_perm ?_
            refine (List.perm_ext_iff_of_nodup (dd_nodup _) ((pm.map (·.2)).nodup_iff.mpr nd)).mpr fun k => ?_
            rw [dd_mem, (pm.map (·.2)).mem_iff]
            constructor
            · intro m
              obtain ⟨p', m', rfl⟩ := List.mem_map.mp m
              exact all p' m'
            · intro m
              obtain ⟨p', m', rfl⟩ := List.mem_map.mp m
              exact List.mem_map.mpr ⟨p', sub p' m', rfl⟩
          rw [e7]
          have z : ∀ N : List (Addr × List Str), (∀ p ∈ N, p ∈ L) → AtL X.K ca φ1 (upd H1 a (SetH X.prog X.w a L)) (N.map fun q => V.ref q.1) ((N.map (·.2)).map fun k => D.tup (k.map D.str)) := fun N => by
            induction N with
            | nil => exact fun _ => .nil
            | cons p' N ih => exact fun h => .cons (keepT p' (h p' List.mem_cons_self)).2 (ih fun q m => h q (List.mem_cons_of_mem _ m))
          exact z _ fun q m => pm.mem_iff.mp ((List.mergeSort_perm M rowLe).mem_iff.mp m)
        exact newL_post (PostG.ext x1 q1) r2 lst hp
      · exact q1.elim
    · exact q1.elim⟩
end
end PI

/-! the check of a text against a text of the language -/
namespace PI
open PySem PySem.Spec PyProof.Rows L2
structure Tab where
  fns : List (Option Str)
  gcs : List Str
/-- where a piece stands -/
structure Lc where
  N : List Str
  sc : Scope
  blk : Option Scope
def Lc.fv (c : Lc) (x : Str) : Bool := match c.blk with
  | none => true
  | some s => s.names.lookup x == some .cell
def Lc.vis (c : Lc) (x : Str) : Bool := match c.sc.names.lookup x with
  | some .local => true
  | some .cell => true
  | some .free => true
  | _ => false
def Lc.loc (c : Lc) (x : Str) : Bool := match c.sc.names.lookup x with
  | some .local => true
  | some .cell => c.fv x
  | _ => false
def Lc.gl (c : Lc) (x : Str) : Bool := match c.sc.names.lookup x with
  | some .globalImplicit => true
  | _ => false
def nmOk (x : Str) : Bool := !(x == ("__debug__" : Str)) && !(x == ("__classdict__" : Str))
def plainE : Expr → Bool
  | .Starred _ _ => false
  | _ => true
def notSet : Expr → Bool
  | .Set _ _ _ => false
  | _ => true
def notSlice : Expr → Bool
  | .Slice _ _ _ _ => false
  | _ => true
def notComp : Expr → Bool
  | .ListComp _ _ _ _ => false
  | .SetComp _ _ _ _ => false
  | .DictComp _ _ _ _ _ => false
  | _ => true
def notTup : Expr → Bool
  | .Tuple _ _ _ => false
  | .List _ _ => false
  | _ => true
def notCall0 : Expr → Bool
  | .Call _ [] [] _ => false
  | _ => true
def binOf : Operator → Option Bin
  | .Add => some .add
  | .Sub => some .sub
  | .Mult => some .mul
  | .FloorDiv => some .div
  | .Mod => some .mod
  | .Pow => some .pow
  | _ => none
def cmpOf : CmpOp → Option Cmp
  | .Eq => some .eq
  | .NotEq => some .ne
  | .Lt => some .lt
  | .LtE => some .le
  | .Gt => some .gt
  | .GtE => some .ge
  | .In => some .in_
  | .NotIn => some .nin
  | _ => none
theorem binOf_eq {op : Operator} {o : Bin} (h : binOf op = some o) : op = binOp o := by
  cases op <;> first
    | (cases h; rfl)
    | (unfold binOf at h; cases h)
theorem cmpOf_eq {op : CmpOp} {o : Cmp} (h : cmpOf op = some o) : op = cmpOp o := by
  cases op <;> first
    | (cases h; rfl)
    | (unfold cmpOf at h; cases h)
/-- a built-in's name; is it a type -/
def biName : BI → Str × Bool
  | .len => ("len", false)
  | .list => ("list", true)
  | .listD => ("list", true)
  | .tuple => ("tuple", true)
  | .all => ("all", false)
  | .any => ("any", false)
  | .sum => ("sum", false)
  | .int => ("int", true)
  | .max2 => ("max", false)
  | .min2 => ("min", false)
  | .abs => ("abs", false)
  | .sortedSet => ("sorted", false)
def bmName : BM → Str
  | .append => "append"
  | .extend => "extend"
  | .pop => "pop"
  | .popAt => "pop"
  | .index => "index"
  | .reverse => "reverse"
  | .clear => "clear"
def bmAr : BM → Nat
  | .append => 1
  | .extend => 1
  | .pop => 0
  | .popAt => 1
  | .index => 1
  | .reverse => 0
  | .clear => 0
def tyName : Ty → Option Str
  | .str => some "str"
  | .tuple => some "tuple"
  | .list => some "list"
  | .int => some "int"
  | .bool => some "bool"
  | .dict => some "dict"
  | .cls _ => none
def Lc.own (c : Lc) (own : List Nat) : List (Str × Nat) := own.map fun i => (c.N.getD i Str.empty, i)
def Lc.into (c : Lc) (scope : Scope) : Lc := ⟨c.N, relS scope c.sc, some scope⟩
mutual
def chkG (c : Lc) : G → Expr → Bool
  | .nm i, e => match e with
    | .Name x _ => nmOk x && decide (c.N[i]? = some x) && c.loc x
    | _ => false
  | .tup gs, e => match e with
    | .Tuple es _ _ => chkGs c gs es
    | _ => false
def chkGs (c : Lc) : List G → List Expr → Bool
  | [], es => es.isEmpty
  | g :: gs, es => match es with
    | e :: es => chkG c g e && plainE e && chkGs c gs es
    | [] => false
end
mutual
/-- may stand as a test -/
def tstOk : E → Bool
  | .ifx _ _ _ => false
  | .not_ a => tstOk a
  | .and_ es => tstOkL es
  | .or_ es => tstOkL es
  | .val _ => false
  | _ => true
def tstOkL : List E → Bool
  | [] => true
  | e :: es => tstOk e && tstOkL es
end
section
variable (t : Tab)
mutual
def chkE : E → Lc → Expr → Bool
  | .var i, c, e => match e with
    | .Name x _ => nmOk x && decide (c.N[i]? = some x) && c.vis x
    | _ => false
  | .ci i, c, e => match e with
    | .Constant (.int j) _ _ => decide (i = j)
    | _ => false
  | .cs s, c, e => match e with
    | .Constant (.str z) _ _ => decide (s = z) && s.cps.toList.all (fun c => decide (c < 0x110000))
    | _ => false
  | .cb b, c, e => match e with
    | .Constant (.bool z) _ _ => b == z
    | _ => false
  | .cn, c, e => match e with
    | .Constant .none _ _ => true
    | _ => false
  | .gl i, c, e => match e with
    | .Name x _ => nmOk x && c.gl x && decide (t.gcs[i]? = some x)
    | _ => false
  | .and_ es, c, e => match e with
    | .BoolOp .And vs _ => !vs.isEmpty && chkL es c vs
    | _ => false
  | .or_ es, c, e => match e with
    | .BoolOp .Or vs _ => !vs.isEmpty && chkL es c vs
    | _ => false
  | .not_ a, c, e => match e with
    | .UnaryOp .Not x _ => chkE a c x
    | _ => false
  | .isN a, c, e => match e with
    | .Compare x [.Is] [.Constant .none _ _] _ => chkE a c x
    | _ => false
  | .notN a, c, e => match e with
    | .Compare x [.IsNot] [.Constant .none _ _] _ => chkE a c x
    | _ => false
  | .bin o a b, c, e => match e with
    | .BinOp x op y _ => decide (binOf op = some o) && chkE a c x && chkE b c y
    | _ => false
  | .cmp o a b, c, e => match e with
    | .Compare x [op] [y] _ => decide (cmpOf op = some o) && notSet y && chkE a c x && chkE b c y
    | _ => false
  | .chain o o' a b d, c, e => match e with
    | .Compare x [op, op'] [y, z] _ => decide (cmpOf op = some o) && decide (cmpOf op' = some o') && notSet y && notSet z && chkE a c x && chkE b c y && chkE d c z
    | _ => false
  | .ifx k a b, c, e => match e with
    | .IfExp z x y _ => tstOk k && chkE k c z && chkE a c x && chkE b c y
    | _ => false
  | .tup es, c, e => match e with
    | .Tuple xs _ _ => chkL es c xs
    | _ => false
  | .lst es, c, e => match e with
    | .List xs _ => chkL es c xs
    | _ => false
  | .dnew k, c, e => match e with
    | .Dict [] [] _ => decide (k = .k)
    | _ => false
  | .idx a b, c, e => match e with
    | .Subscript x y _ => notSlice y && chkE a c x && chkE b c y
    | _ => false
  | .slc a lo hi, c, e => match e with
    | .Subscript x (.Slice l h none _) _ => chkE a c x && chkO lo c l && chkO hi c h
    | _ => false
  | .call f es _, c, e => match e with
    | .Call (.Name x _) xs [] _ => nmOk x && c.gl x && decide (t.fns[f]? = some (some x)) && chkL es c xs
    | _ => false
  | .fld _ _, _, _ => false
  | .meth _ _ _ _, _, _ => false
  | .make _ _ _, _, _ => false
  | .bi b es, c, e => match b with
    | .sortedSet => (match e with
      | .Call (.Name x _) [.Call (.Name y _) [z] [] _] [] _ => c.gl x && decide (x = ("sorted" : Str)) && c.gl y && decide (y = ("set" : Str)) && chkL es c [z]
      | _ => false)
    | b => match e with
      | .Call (.Name x _) xs [] _ => c.gl x && decide (x = (biName b).1) && !xs.isEmpty && chkL es c xs
      | _ => false
  | .isi a ty, c, e => match e with
    | .Call (.Name x _) [y, .Name z _] [] _ => c.gl x && decide (x = ("isinstance" : Str)) && c.gl z && decide (tyName ty = some z) && plainE y && chkE a c y
    | _ => false
  | .bm b o es, c, e => match e with
    | .Call (.Attribute x m ap) xs [] cp => !(b == .popAt) && decide (m = bmName b) && decide (xs.length = bmAr b) && notCall0 x && (ap.endLine == cp.line) && chkE o c x && chkL es c xs
    | _ => false
  | .lc elt g it ifs own, c, e => match e with
    | .ListComp el [⟨tg, iter, fs, as⟩] scope _ => decide (as = 0) && chkI it c tg iter && notSet iter && blkC c.N c.sc scope (c.own own) && chkG (c.into scope) g tg && (slotsG g).all (fun i => decide (i ∈ own)) && decide (fs.length ≤ 1) && tstOkL ifs && chkL ifs (c.into scope) fs && chkE elt (c.into scope) el
    | _ => false
  | .val a, c, e => chkE a c e
def chkL : List E → Lc → List Expr → Bool
  | [], _, xs => xs.isEmpty
  | e :: es, c, xs => match xs with
    | x :: xs => plainE x && chkE e c x && chkL es c xs
    | [] => false
def chkO : Option E → Lc → Option Expr → Bool
  | none, _, x => x.isNone
  | some e, c, x => match x with
    | some x => chkE e c x
    | none => false
def chkI : It → Lc → Expr → Expr → Bool
  | .seq a, c, _, e => chkE a c e
  | .str a, c, _, e => chkE a c e
  | .rng es, c, _, e => match e with
    | .Call (.Name x _) xs [] _ => c.gl x && decide (x = ("range" : Str)) && (decide (xs.length = 1) || decide (xs.length = 2)) && chkL es c xs
    | _ => false
  | .zip _ _, _, _, _ => false
  | .enum _, _, _, _ => false
  | .rev _, _, _, _ => false
  | .keys a, c, _, e => chkE a c e
  | .items a, c, tg, e => match tg, e with
    | .Tuple _ _ _, .Call (.Attribute x m ap) [] [] cp => decide (m = ("items" : Str)) && notCall0 x && (ap.endLine == cp.line) && chkE a c x
    | _, _ => false
end
/-- name = [ .. for .. ] on one line, the name a local -/
def swapT (c : Lc) (x a : Expr) : Bool := match x, a with
  | .Name y py, .ListComp _ _ scope pos => (match c.sc.kind with | .function => true | _ => false) && decide (c.sc.names.lookup y = some .local) && (py.line == pos.line) && !(scope.names.any fun (n, k) => n == y && (k == .local || k == .cell))
  | _, _ => false
def lcNm : E → G → Bool
  | .lc _ _ _ _ _, .nm _ => true
  | _, _ => false
mutual
def chkS : S → Lc → Stmt → Bool
  | .asg tg e, c, s => match s with
    | .Assign [x] a p => (match tg with
      | .g g => chkG c g x && chkE t e c a && (notTup x || notTup a) && plainE x && (notComp a || (lcNm e g && swapT c x a))
      | .sub o i => (match x with
        | .Subscript xo xi _ => chkE t e c a && notComp a && chkE t o c xo && chkE t i c xi && notSlice xi
        | _ => false)
      | .fld _ _ => false)
    | _ => false
  | .aug i o e, c, s => match s with
    | .AugAssign (.Name x _) op a _ => nmOk x && decide (c.N[i]? = some x) && c.loc x && decide (binOf op = some o) && (decide (o = .add) || decide (o = .sub)) && chkE t e c a
    | _ => false
  | .exp e, c, s => match s with
    | .Expr a _ => notComp a && chkE t e c a
    | _ => false
  | .ret e, c, s => match s with
    | .Return (some a) _ => chkE t e c a
    | _ => false
  | .retN, c, s => match s with
    | .Return none _ => true
    | _ => false
  | .ifs k a b, c, s => match s with
    | .If x u v _ => tstOk k && chkE t k c x && chkSs a c u && chkSs b c v
    | _ => false
  | .for_ g it b, c, s => match s with
    | .For tg iter body [] _ => chkG c g tg && chkI t it c tg iter && notSet iter && chkSs b c body
    | _ => false
  | .whl k b, c, s => match s with
    | .While x body [] _ => tstOk k && chkE t k c x && chkSs b c body
    | _ => false
  | .pas, c, s => match s with
    | .Pass _ => true
    | _ => false
  | .brk, c, s => match s with
    | .Break _ => true
    | _ => false
  | .cnt, c, s => match s with
    | .Continue _ => true
    | _ => false
  | .rai _, _, _ => false
  | .try_ _ _ _, _, _ => false
def chkSs : List S → Lc → List Stmt → Bool
  | [], _, xs => xs.isEmpty
  | s :: ss, c, xs => match xs with
    | x :: xs => chkS s c x && chkSs ss c xs
    | [] => false
end
end
end PI

/-! soundness: what passes the check, does what the language says. Expressions -/
namespace PI
open PySem PySem.Spec PyProof.Rows L2
def bltNames : List Str := ["len", "list", "tuple", "all", "any", "sum", "int", "max", "min", "abs", "sorted", "set", "range", "isinstance", "zip", "enumerate", "reversed", "str", "bool", "dict"]
/-- what the program's top has left, and the defs' promises at a level -/
structure Glob (t : Tab) (pr : Pr) (cl : Calls) (ca : Nat → Addr) (k : Nat) (P : Program) (w : World) (K : PySem.W.Frag) (mg : Str → Option Value) (base : Heap) : Prop where
  fns : ∀ (fid : Nat) (x : Str), t.fns[fid]? = some (some x) → ∃ fa fd ps, FnOk P w K mg base (L2.CX P w) k fa fd ps (spF K ca cl fid) ∧ mg x = some (.ref fa) ∧ PySem.W.keepIn K (.ref fa) = true ∧ Binds K fd ps []
  gcs : ∀ (i : Nat) (x : Str) (d : D), t.gcs[i]? = some x → pr.gcs[i]? = some d → ∃ v u, mg x = some u ∧ RelV v u ∧ ∀ φ H, At K ca φ H v d
  blt : ∀ x ∈ bltNames, mg x = none
structure CtxOk (t : Tab) (pr : Pr) (cl : Calls) (ca : Nat → Addr) (k : Nat) (c : Lc) (X : Cx) (W : WX) : Prop where
  gb : Glob t pr cl ca k X.prog X.w X.K X.mg X.base
  N : X.N = c.N
  nd : c.N.Nodup
  sc : X.env.scope = c.sc
  fn : ∀ x, c.fv x = true → X.fn x = true
  calm : X.calm = true
  room : Room k X.A
  tk : Takes X W
  ps : PassesOwn (model X.prog X.w) X.A X.env X.xe
section
variable {t : Tab} {pr : Pr} {cl : Calls} {ca : Nat → Addr} {k : Nat} {c : Lc} {X : Cx} {W : WX}
theorem CtxOk.hu (C : CtxOk t pr cl ca k c X W) : X.A.units + 170 < cLine := by have := C.room.un; omega
theorem vis_of (C : CtxOk t pr cl ca k c X W) {x : Str} (h : c.vis x = true) : Vis X.env.scope x := by
  unfold Lc.vis at h
  rw [← C.sc] at h
  split at h
  · rename_i e; exact .inl e
  · rename_i e; exact .inr (.inl e)
  · rename_i e; exact .inr (.inr e)
  · cases h
theorem loc_of (C : CtxOk t pr cl ca k c X W) {x : Str} (h : c.loc x = true) : Loc X.env.scope x ∧ (X.fn x = true ∨ X.env.scope.names.lookup x = some .local) := by
  unfold Lc.loc at h
  rw [← C.sc] at h
  split at h
  · rename_i e; exact ⟨.inl e, .inr e⟩
  · rename_i e; exact ⟨.inr e, .inl (C.fn x h)⟩
  · cases h
theorem gl_of (C : CtxOk t pr cl ca k c X W) {x : Str} (h : c.gl x = true) : Gl X x := by
  unfold Lc.gl at h
  rw [← C.sc] at h
  split at h
  · rename_i e; exact e
  · cases h
theorem nm_of {x : Str} (h : nmOk x = true) : (x == ("__debug__" : Str)) = false ∧ (x == ("__classdict__" : Str)) = false := by
  unfold nmOk at h
  rw [Bool.and_eq_true, Bool.not_eq_true', Bool.not_eq_true'] at h
  exact h
theorem star_cons {e : Expr} {es : List Expr} {env : PySem.Env} (h : plainE e = true) : starEach (e :: es) env = (false, eval e env) :: starEach es env := by
  cases e <;> first
    | rfl
    | (cases h)
theorem no_stars {pos : Pos} {env : PySem.Env} : ∀ {es : List Expr}, es.all plainE = true → (backTo pos (starEach es env)).any (·.1) = false
  | [], _ => rfl
  | e :: es, h => by
    rw [List.all_cons, Bool.and_eq_true] at h
    rw [star_cons h.1]
    exact no_stars h.2
theorem all_stars {pos : Pos} {env : PySem.Env} : ∀ {es : List Expr}, es.all plainE = true → (backTo pos (starEach es env)).all (fun x => !x.1) = true
  | [], _ => rfl
  | e :: es, h => by
    rw [List.all_cons, Bool.and_eq_true] at h
    rw [star_cons h.1]
    exact all_stars h.2
theorem chkL_plain {c : Lc} : ∀ {es : List E} {xs : List Expr}, chkL t es c xs = true → xs.all plainE = true
  | [], xs, h => by
    unfold chkL at h
    rw [List.isEmpty_iff.mp h]
    rfl
  | e :: es, xs, h => by
    unfold chkL at h
    cases xs with
    | nil => cases h
    | cons x xs =>
      simp only [Bool.and_eq_true] at h
      rw [List.all_cons, h.1.1, chkL_plain h.2]
      rfl
theorem chkL_len {c : Lc} : ∀ {es : List E} {xs : List Expr}, chkL t es c xs = true → es.length = xs.length
  | [], xs, h => by
    unfold chkL at h
    rw [List.isEmpty_iff.mp h]
    rfl
  | e :: es, xs, h => by
    unfold chkL at h
    cases xs with
    | nil => cases h
    | cons x xs =>
      simp only [Bool.and_eq_true] at h
      rw [List.length_cons, List.length_cons, chkL_len h.2]
theorem evL_len {σ : Env} : ∀ {es : List E} {μ μ' : Mem} {ds : List D}, evL pr cl es σ μ = .ok ds μ' → ds.length = es.length
  | [], _, _, _, h => by unfold evL at h; cases h; rfl
  | e :: es, μ, μ', ds, h => by
    unfold evL at h
    cases e1 : evE pr cl e σ μ with
    | ok d μ1 =>
      rw [e1] at h
      unfold R.bind at h
      dsimp only at h
      cases e2 : evL pr cl es σ μ1 with
      | ok ds2 μ2 =>
        rw [e2] at h
        cases h
        rw [List.length_cons, List.length_cons, evL_len e2]
      | err _ _ _ => rw [e2] at h; cases h
      | bad => rw [e2] at h; cases h
    | err _ _ _ => rw [e1] at h; cases h
    | bad => rw [e1] at h; cases h
theorem plain_ix {e : Expr} (h : notSlice e = true) : PlainIx e := by
  intro o i
  cases e <;> first
    | rfl
    | (cases h)
theorem no_mark {e : Expr} {op : CmpOp} (h : notSet e = true) : behindInMarks op e = false := by
  cases e <;> first
    | rfl
    | (cases h)
theorem no_fold {e : Expr} (h : notSet e = true) (env : PySem.Env) : ∀ x, foldedSetIterable e env x = pure x := by
  intro x
  cases e <;> first
    | rfl
    | (cases h)
theorem no_base {o : Expr} {m : Str} {env : PySem.Env} (h : notCall0 o = true) : attributeBase o m env (eval o env) = eval o env := by
  cases o with
  | Call f args kws p =>
    cases args with
    | nil =>
      cases kws with
      | nil => cases h
      | cons _ _ => cases f <;> rfl
    | cons _ _ => cases f <;> rfl
  | _ => rfl
theorem no_swap {e : Expr} {tg : Option Expr} {l : Nat} {env : PySem.Env} (h : notComp e = true) : swapsWith e tg l env = pure false := by
  cases e <;> first
    | rfl
    | (cases h)
theorem no_swap1 {e tg : Expr} {l : Nat} {env : PySem.Env} (h : notComp e = true) : swapsWithSole [tg] e l env = pure false := no_swap h
theorem no_stores {e tg : Expr} {env : PySem.Env} (h : (notTup tg || notTup e) = true) : swappedStores [tg] e env = pure none := by
  rw [Bool.or_eq_true] at h
  rcases h with h | h
  · cases tg <;> first
      | rfl
      | (cases h)
  · cases tg <;> (cases e <;> first
      | rfl
      | (cases h))
theorem each1 {tg : Expr} {env : PySem.Env} (h : plainE tg = true) : (assignEach [tg] env).map (·.2) = [assign tg env] := by
  cases tg <;> first
    | rfl
    | (cases h)
theorem sub_rule {o i : Expr} {pos : Pos} {env : PySem.Env} (hi : notSlice i = true) : SubRule o i pos env := by
  intro v
  cases i <;> first
    | rfl
    | (cases hi)
/-! ### targets -/
theorem each_cons {e : Expr} {es : List Expr} {env : PySem.Env} (h : plainE e = true) : (assignEach (e :: es) env).map (·.2) = assign e env :: (assignEach es env).map (·.2) := by
  cases e <;> first
    | rfl
    | (cases h)
theorem each_len {env : PySem.Env} : ∀ {es : List Expr}, es.all plainE = true → (assignEach es env).length = es.length
  | [], _ => rfl
  | e :: es, h => by
    rw [List.all_cons, Bool.and_eq_true] at h
    have ih := each_len (env := env) h.2
    cases e <;> first
      | (show (assignEach es env).length + 1 = es.length + 1; rw [ih])
      | (cases h.1)
theorem each_star {env : PySem.Env} : ∀ {es : List Expr}, es.all plainE = true → (assignEach es env).findIdx? (·.1) = none
  | [], _ => rfl
  | e :: es, h => by
    rw [List.all_cons, Bool.and_eq_true] at h
    have ih := each_star (env := env) h.2
    cases e <;> first
      | (show List.findIdx? _ ((false, _) :: assignEach es env) = none; rw [List.findIdx?_cons]; simp [ih])
      | (cases h.1)
theorem chkGs_plain {c : Lc} : ∀ {gs : List G} {es : List Expr}, chkGs c gs es = true → es.all plainE = true ∧ es.length = gs.length
  | [], es, h => by
    unfold chkGs at h
    rw [List.isEmpty_iff.mp h]
    exact ⟨rfl, rfl⟩
  | g :: gs, es, h => by
    unfold chkGs at h
    cases es with
    | nil => cases h
    | cons e es =>
      simp only [Bool.and_eq_true] at h
      have z := chkGs_plain h.2
      exact ⟨by rw [List.all_cons, h.1.2, z.1]; rfl, by rw [List.length_cons, List.length_cons, z.2]⟩
mutual
theorem sndG (C : CtxOk t pr cl ca k c X W) : ∀ (g : G) (e : Expr), chkG c g e = true → PG X e (aGt X ca (asgG g) (slotsG g))
  | .nm i, e, h => by
    unfold chkG at h
    split at h
    · simp only [Bool.and_eq_true, decide_eq_true_eq] at h
      obtain ⟨⟨h1, h2⟩, h3⟩ := h
      exact ga_nm (by rw [C.N]; exact C.nd) (by rw [C.N]; exact h2) (loc_of C h3).1 (loc_of C h3).2
    · cases h
  | .tup gs, e, h => by
    unfold chkG at h
    split at h
    · rename_i es kk p
      have z := chkGs_plain h
      exact ga_tup C.calm (sndGs C gs es h) (by rw [each_len z.1, z.2]) (each_star z.1)
    · cases h
theorem sndGs (C : CtxOk t pr cl ca k c X W) : ∀ (gs : List G) (es : List Expr), chkGs c gs es = true → PGs X es (aGts X ca (asgL gs) (slotsL gs))
  | [], es, h => by
    unfold chkGs at h
    rw [List.isEmpty_iff.mp h]
    exact ga_nil
  | g :: gs, es, h => by
    unfold chkGs at h
    cases es with
    | nil => cases h
    | cons e es =>
      simp only [Bool.and_eq_true] at h
      exact ga_cons (sndG C g e h.1.1) (sndGs C gs es h.2) (each_cons h.1.2)
end
end
end PI

/-! soundness of expressions -/
namespace PI
open PySem PySem.Spec PyProof.Rows L2
section
variable {t : Tab} {pr : Pr} {cl : Calls} {ca : Nat → Addr} {k : Nat}
theorem CtxOk.blk {c : Lc} {X : Cx} {W : WX} {scope : Scope} (C : CtxOk t pr cl ca k c X W) (s : Shared) (H : Hp) (Cc : Addr) (cs : List (Str × Addr)) (fp : List Addr) :
    CtxOk t pr cl ca k (c.into scope) (X.blk s H scope (compEnvC scope cs Cc X.env) fp) (fun _ _ _ _ => False) where
  gb := C.gb
  N := C.N
  nd := C.nd
  sc := by
    show relS scope X.env.scope = relS scope c.sc
    rw [C.sc]
  fn := fun x h => h
  calm := C.calm
  room := C.room
  tk := takes0
  ps := PassesOwn.never
theorem marks2 {a b : Expr} {o o' : CmpOp} (h : notSet a = true) (h' : notSet b = true) : lastMarks [o, o'] [a, b] = false := by
  show behindInMarks o' b = false
  exact no_mark h'
theorem own_map {c : Lc} (own : List Nat) : (c.own own).map (·.2) = own := by
  unfold Lc.own
  rw [List.map_map]
  exact List.map_id' own
/-- what is shown of a list of expressions -/
structure LOk (pr : Pr) (cl : Calls) (ca : Nat → Addr) (X : Cx) (W : WX) (es : List E) (xs : List Expr) : Prop where
  pa : PA X xs (aL X ca W (evL pr cl es))
  and_ : xs ≠ [] → ∀ pos, PE X (.BoolOp .And xs pos) (aE X ca W (evAnd pr cl es)) ∧ (tstOkL es = true → PW X (.BoolOp .And xs pos) (aT X ca W (tst (evAnd pr cl es))))
  or_ : xs ≠ [] → ∀ pos, PE X (.BoolOp .Or xs pos) (aE X ca W (evOr pr cl es)) ∧ (tstOkL es = true → PW X (.BoolOp .Or xs pos) (aT X ca W (tst (evOr pr cl es))))
  ts : xs.length ≤ 1 → tstOkL es = true → PTs X xs (aT X ca W (evAll pr cl es))
theorem R.bind_ok {α : Type} (r : R α) : (r.bind fun a μ => .ok a μ) = r := by cases r <;> rfl
section
variable {X : Cx} {W : WX} {f : Env → Mem → R D}
theorem tst_not (f : Env → Mem → R D) : tst (fun σ μ => (f σ μ).bind fun d μ => match truth μ d with
    | some b => .ok (.bl (!b)) μ
    | none => .bad) = fun σ μ => (tst f σ μ).bind fun b μ => .ok (!b) μ := by
  funext σ μ
  unfold tst
  dsimp only
  cases f σ μ with
  | ok d μ1 =>
    show R.bind (match truth μ1 d with
      | some b => R.ok (D.bl (!b)) μ1
      | none => .bad) trB = (trB d μ1).bind _
    unfold trB
    cases truth μ1 d <;> rfl
  | err _ _ _ => rfl
  | bad => rfl
theorem tst_and (f g : Env → Mem → R D) : tst (fun σ μ => (f σ μ).bind fun d μ => match truth μ d with
    | some true => g σ μ
    | some false => .ok d μ
    | none => .bad) = fun σ μ => (tst f σ μ).bind fun b μ => if b = true then tst g σ μ else .ok false μ := by
  funext σ μ
  unfold tst
  dsimp only
  cases f σ μ with
  | ok d μ1 =>
    show R.bind (match truth μ1 d with
      | some true => g σ μ1
      | some false => R.ok d μ1
      | none => .bad) trB = (trB d μ1).bind _
    unfold trB
    cases e : truth μ1 d with
    | none => rfl
    | some b =>
      cases b with
      | true => rfl
      | false =>
        show (match truth μ1 d with
          | some b => R.ok b μ1
          | none => .bad) = _
        rw [e]
        rfl
  | err _ _ _ => rfl
  | bad => rfl
theorem tst_or (f g : Env → Mem → R D) : tst (fun σ μ => (f σ μ).bind fun d μ => match truth μ d with
    | some false => g σ μ
    | some true => .ok d μ
    | none => .bad) = fun σ μ => (tst f σ μ).bind fun b μ => if b = true then .ok true μ else tst g σ μ := by
  funext σ μ
  unfold tst
  dsimp only
  cases f σ μ with
  | ok d μ1 =>
    show R.bind (match truth μ1 d with
      | some false => g σ μ1
      | some true => R.ok d μ1
      | none => .bad) trB = (trB d μ1).bind _
    unfold trB
    cases e : truth μ1 d with
    | none => rfl
    | some b =>
      cases b with
      | false => rfl
      | true =>
        show (match truth μ1 d with
          | some b => R.ok b μ1
          | none => .bad) = _
        rw [e]
        rfl
  | err _ _ _ => rfl
  | bad => rfl
theorem LOk.nil : LOk pr cl ca X W [] [] where
  pa := by
    have e : evL pr cl [] = fun _ μ => .ok [] μ := by funext σ μ; unfold evL; rfl
    rw [e]
    exact la_nil
  and_ := fun h => absurd rfl h
  or_ := fun h => absurd rfl h
  ts := fun _ _ => by
    have e : evAll pr cl [] = fun _ μ => .ok true μ := by funext σ μ; unfold evAll; rfl
    rw [e]
    exact ⟨fun pins s σ H Q I ⟨φ, μ, sg, r, sl, q⟩ => pts_nil.run pins s σ H Q I (q φ H true (Ext.refl _ _) r rfl)⟩
theorem LOk.cons {e : E} {es : List E} {x : Expr} {xs : List Expr} (hx : plainE x = true) (hl : es.length = xs.length) (h : PE X x (aE X ca W (evE pr cl e)) ∧ (tstOk e = true → PT X x (aT X ca W (tst (evE pr cl e))))) (t : LOk pr cl ca X W es xs) : LOk pr cl ca X W (e :: es) (x :: xs) where
  pa := by
    have e1 : evL pr cl (e :: es) = fun σ μ => (evE pr cl e σ μ).bind fun d μ => (evL pr cl es σ μ).bind fun ds μ => .ok (d :: ds) μ := by funext σ μ; rw [evL]
    rw [e1]
    exact la_cons h.1 t.pa (star_cons hx)
  and_ := fun _ pos => by
    cases xs with
    | nil =>
      cases es with
      | cons _ _ => cases hl
      | nil =>
        have e1 : evAnd pr cl [e] = evE pr cl e := by
          funext σ μ
          rw [evAnd]
          exact R.bind_ok _
        rw [e1]
        refine ⟨pe_one h.1, fun hh => pw_and1 (h.2 ?_)⟩
        unfold tstOkL at hh
        exact (Bool.and_eq_true _ _ |>.mp hh).1
    | cons y ys =>
      cases es with
      | nil => cases hl
      | cons e' es =>
        have e1 : evAnd pr cl (e :: e' :: es) = fun σ μ => (evE pr cl e σ μ).bind fun d μ => match truth μ d with
            | some true => evAnd pr cl (e' :: es) σ μ
            | some false => .ok d μ
            | none => .bad := by
          funext σ μ
          rw [evAnd]
          rfl
        rw [e1]
        have z := t.and_ (by simp) pos
        refine ⟨ea_and h.1 z.1, fun hh => ?_⟩
        unfold tstOkL at hh
        rw [Bool.and_eq_true] at hh
        rw [tst_and]
        exact tw_and (h.2 hh.1) (z.2 hh.2)
  or_ := fun _ pos => by
    cases xs with
    | nil =>
      cases es with
      | cons _ _ => cases hl
      | nil =>
        have e1 : evOr pr cl [e] = evE pr cl e := by
          funext σ μ
          rw [evOr]
          exact R.bind_ok _
        rw [e1]
        refine ⟨pe_one h.1, fun hh => pw_or1 (h.2 ?_)⟩
        unfold tstOkL at hh
        exact (Bool.and_eq_true _ _ |>.mp hh).1
    | cons y ys =>
      cases es with
      | nil => cases hl
      | cons e' es =>
        have e1 : evOr pr cl (e :: e' :: es) = fun σ μ => (evE pr cl e σ μ).bind fun d μ => match truth μ d with
            | some false => evOr pr cl (e' :: es) σ μ
            | some true => .ok d μ
            | none => .bad := by
          funext σ μ
          rw [evOr]
          rfl
        rw [e1]
        have z := t.or_ (by simp) pos
        refine ⟨ea_or h.1 z.1, fun hh => ?_⟩
        unfold tstOkL at hh
        rw [Bool.and_eq_true] at hh
        rw [tst_or]
        exact tw_or (h.2 hh.1) (z.2 hh.2)
  ts := fun h1 hh => by
    cases xs with
    | cons _ _ => simp at h1
    | nil =>
      cases es with
      | cons _ _ => cases hl
      | nil =>
        have e1 : evAll pr cl [e] = tst (evE pr cl e) := by
          funext σ μ
          rw [evAll]
          unfold tst
          congr 1
          funext d μ1
          unfold trB
          cases truth μ1 d with
          | none => rfl
          | some b => cases b <;> (first | rfl | (rw [evAll] <;> rfl))
        rw [e1]
        unfold tstOkL at hh
        exact pts_one (h.2 (Bool.and_eq_true _ _ |>.mp hh).1)
/-- both from the value, where the expression is no and, or, not .. -/
theorem both {x : Expr} (h : PE X x (aE X ca W f)) (hp : ∀ whole, isTrue x X.env whole = (do let v ← whole; standAt x.pos; holding [v] (truthy v))) : PE X x (aE X ca W f) ∧ PT X x (aT X ca W (tst f)) := ⟨h, ta_plain h hp⟩
end
end
end PI

/-! soundness of expressions, all forms -/
namespace PI
open PySem PySem.Spec PyProof.Rows L2
section
variable {t : Tab} {pr : Pr} {cl : Calls} {ca : Nat → Addr} {k : Nat}
section
variable {X : Cx} {W : WX} {f : Env → Mem → R D} {fl : Env → Mem → R (List D)} {b : BM} {id : String} {name : Str} {o e : Expr} {ap cp : Pos}
theorem tyV_list {K : PySem.W.Frag} {H : Hp} {φ : List Addr} {μ : Mem} {v : V} {d : D} {xs : List D} (r : Rel K ca φ H μ) (a : At K ca φ H v d) (e : lstS μ d = some xs) : tyV K "list" v H := by
  obtain ⟨p, vs, rfl, q, _⟩ := lstS_at r a e
  exact .inl ⟨rfl, vs, q⟩
theorem ea_bm0 (slot : Slot "list" name id) (hty : typeOf (.builtin id) = pure (.type "method_descriptor")) (hm : MtR X id (rM X ca (evBM b))) (ho : PE X o (aE X ca W f))
    (hbase : attributeBase o name X.env (eval o X.env) = eval o X.env) (hline : (ap.endLine == cp.line) = true) :
    PE X (.Call (.Attribute o name ap) [] [] cp) (aE X ca W fun σ μ => (f σ μ).bind fun o μ => match lstS μ o with
      | some _ => evBM b o [] μ
      | none => .bad) :=
  PE.imp (pe_bm0 PySem.F.plainAttrs_list slot hty hm ho hbase hline) fun σ H Q ⟨φ, μ, sg, r, s, q⟩ => ⟨φ, μ, sg, r, s, q.bindI.mono fun x H1 ⟨φ1, μ1, d1, e1, r1, a1, q1⟩ => by
    dsimp only at q1
    split at q1
    · rename_i e
      exact ⟨tyV_list r1 a1 e, φ1, μ1, d1, [], _, r1, a1, .nil, q1⟩
    · exact q1.elim⟩
theorem ea_bm1 (slot : Slot "list" name id) (hty : typeOf (.builtin id) = pure (.type "method_descriptor")) (hm : MtR X id (rM X ca (evBM b))) (ho : PE X o (aE X ca W f)) (ha : PA X [e] (aL X ca W fl))
    (hbase : attributeBase o name X.env (eval o X.env) = eval o X.env) (hline : (ap.endLine == cp.line) = true) (hs : starEach [e] X.env = (false, eval e X.env) :: starEach [] X.env) :
    PE X (.Call (.Attribute o name ap) [e] [] cp) (aE X ca W fun σ μ => (f σ μ).bind fun o μ => match lstS μ o with
      | some _ => (fl σ μ).bind fun ds μ => evBM b o ds μ
      | none => .bad) :=
  PE.imp (pe_bm PySem.F.plainAttrs_list slot hty hm ho ha hbase (by rw [hs]; rfl) hline hs rfl) fun σ H Q ⟨φ, μ, sg, r, s, q⟩ => ⟨φ, μ, sg, r, s, q.bindI.mono fun x H1 ⟨φ1, μ1, d1, e1, r1, a1, q1⟩ => by
    dsimp only at q1
    split at q1
    · rename_i e
      exact ⟨tyV_list r1 a1 e, φ1, μ1, sg, r1, s.ext e1, q1.bindI.mono fun y H2 ⟨φ2, μ2, d2, e2, r2, a2, q2⟩ => ⟨φ2, μ2, d1, d2, _, r2, a1.ext e2, a2, q2⟩⟩
    · exact q1.elim⟩
end
/-- a built-in of ours by its name -/
theorem snd_bi {X : Cx} {W : WX} {c : Lc} (C : CtxOk t pr cl ca k c X W) {b : BI} {fl : Env → Mem → R (List D)} {x : Str} {p pos : Pos} {a : Expr} {es : List Expr} (hb : b ≠ .sortedSet) (hx : x = (biName b).1) (hg : Gl X x) (ha : PA X (a :: es) (aL X ca W fl))
    (he : starEach (a :: es) X.env = (false, eval a X.env) :: starEach es X.env) (hpl : (backTo pos (starEach es X.env)).any (·.1) = false) : PE X (.Call (.Name x p) (a :: es) [] pos) (aE X ca W fun σ μ => (fl σ μ).bind fun ds μ => evBI b ds μ) := by
  subst hx
  have bl : ∀ y ∈ bltNames, X.mg y = none := C.gb.blt
  cases b with
  | len => exact ea_bi len_ok hg (bl _ (by decide)) rfl ha (by decide) (by decide) he hpl
  | list => exact ea_bt list_ok hg (bl _ (by decide)) rfl ha (by decide) (by decide) he hpl
  | listD => exact ea_bt (listD_ok C.calm) hg (bl _ (by decide)) rfl ha (by decide) (by decide) he hpl
  | tuple => exact ea_bt tuple_ok hg (bl _ (by decide)) rfl ha (by decide) (by decide) he hpl
  | all => exact ea_bi (all_ok C.calm) hg (bl _ (by decide)) rfl ha (by decide) (by decide) he hpl
  | any => exact ea_bi (any_ok C.calm) hg (bl _ (by decide)) rfl ha (by decide) (by decide) he hpl
  | sum => exact ea_bi (sum_ok C.calm) hg (bl _ (by decide)) rfl ha (by decide) (by decide) he hpl
  | int => exact ea_bt int_ok hg (bl _ (by decide)) rfl ha (by decide) (by decide) he hpl
  | max2 => exact ea_bi (max2_ok C.calm) hg (bl _ (by decide)) rfl ha (by decide) (by decide) he hpl
  | min2 => exact ea_bi (min2_ok C.calm) hg (bl _ (by decide)) rfl ha (by decide) (by decide) he hpl
  | abs => exact ea_bi abs_ok hg (bl _ (by decide)) rfl ha (by decide) (by decide) he hpl
  | sortedSet => exact absurd rfl hb
/-- the methods with no argument, with one -/
theorem snd_bm0 {X : Cx} {W : WX} {f : Env → Mem → R D} {b : BM} {o : Expr} {ap cp : Pos} (hb : bmAr b = 0) (ho : PE X o (aE X ca W f)) (hbase : attributeBase o (bmName b) X.env (eval o X.env) = eval o X.env) (hline : (ap.endLine == cp.line) = true) :
    PE X (.Call (.Attribute o (bmName b) ap) [] [] cp) (aE X ca W fun σ μ => (f σ μ).bind fun o μ => match lstS μ o with
      | some _ => evBM b o [] μ
      | none => .bad) := by
  cases b with
  | pop => exact ea_bm0 PySem.F.slot_list_pop PySem.F.type_list_pop pop_ok ho hbase hline
  | reverse => exact ea_bm0 PySem.F.slot_list_reverse PySem.F.type_list_reverse reverse_ok ho hbase hline
  | clear => exact ea_bm0 PySem.F.slot_list_clear PySem.F.type_list_clear clear_ok ho hbase hline
  | _ => cases hb
theorem snd_bm1 {X : Cx} {W : WX} {f : Env → Mem → R D} {fl : Env → Mem → R (List D)} {b : BM} {o e : Expr} {ap cp : Pos} (hb : bmAr b = 1) (hb' : b ≠ .popAt) (ho : PE X o (aE X ca W f)) (ha : PA X [e] (aL X ca W fl)) (hbase : attributeBase o (bmName b) X.env (eval o X.env) = eval o X.env) (hline : (ap.endLine == cp.line) = true) (hs : starEach [e] X.env = (false, eval e X.env) :: starEach [] X.env) :
    PE X (.Call (.Attribute o (bmName b) ap) [e] [] cp) (aE X ca W fun σ μ => (f σ μ).bind fun o μ => match lstS μ o with
      | some _ => (fl σ μ).bind fun ds μ => evBM b o ds μ
      | none => .bad) := by
  cases b with
  | append => exact ea_bm1 PySem.F.slot_list_append PySem.F.type_list_append append_ok ho ha hbase hline hs
  | extend => exact ea_bm1 PySem.F.slot_list_extend PySem.F.type_list_extend extend_ok ho ha hbase hline hs
  | index => exact ea_bm1 PySem.F.slot_list_index PySem.F.type_list_index index_ok ho ha hbase hline hs
  | popAt => exact absurd rfl hb'
  | _ => cases hb
theorem ty_facts {ty : Ty} {z : Str} (h : tyName ty = some z) : bootBuiltins z = some (.type (tyS ty)) ∧ z ∈ bltNames ∧ z ≠ "__name__" ∧ (z == ("__debug__" : Str)) = false := by
  cases ty <;> first
    | (cases h; exact ⟨by decide +kernel, by decide, by decide, by decide⟩)
    | (cases h)
theorem sOk_list {s : Str} (h : s.cps.toList.all (fun c => decide (c < 0x110000)) = true) : sOk s := by
  show s.cps.all (fun x => decide (x < 0x110000)) = true
  rw [← Array.all_toList]
  exact h
theorem nil_of_len {α : Type} {xs : List α} (h : xs.length = 0) : xs = [] := List.length_eq_zero_iff.mp h
mutual
theorem sndE : ∀ (e : E) {c : Lc} {X : Cx} {W : WX}, CtxOk t pr cl ca k c X W → ∀ x, chkE t e c x = true → PE X x (aE X ca W (evE pr cl e)) ∧ (tstOk e = true → PT X x (aT X ca W (tst (evE pr cl e))))
  | .var i, c, X, W, C, x, h => by
    unfold chkE at h
    split at h
    · simp only [Bool.and_eq_true, decide_eq_true_eq] at h
      obtain ⟨⟨h1, h2⟩, h3⟩ := h
      have z := nm_of h1
      have e1 : evE pr cl (.var i) = fun σ μ => match σ[i]? with
        | some (some d) => .ok d μ
        | _ => .bad := by funext σ μ; rw [evE] <;> rfl
      have q := both (W := W) (ca := ca) (ea_var (pos := ‹Pos›) (by rw [C.N]; exact h2) (vis_of C h3) z.1 z.2) (fun _ => rfl)
      rw [e1]
      exact ⟨q.1, fun _ => q.2⟩
    · cases h
  | .ci i, c, X, W, C, x, h => by
    unfold chkE at h
    split at h
    · cases of_decide_eq_true h
      rename_i kk pp
      have e1 : evE pr cl (.ci i) = fun _ μ => .ok (.int i) μ := by funext σ μ; rw [evE] <;> rfl
      rw [e1]
      have q := both (W := W) (ca := ca) (ea_val (X := X) (ca := ca) (W := W) (pe_int (j := kk) (pos := pp)) fun _ _ => At.int i) (fun _ => rfl)
      exact ⟨q.1, fun _ => q.2⟩
    · cases h
  | .cs s, c, X, W, C, x, h => by
    unfold chkE at h
    split at h
    · simp only [Bool.and_eq_true, decide_eq_true_eq] at h
      rename_i kk pp
      cases h.1
      have e1 : evE pr cl (.cs s) = fun _ μ => .ok (.str s) μ := by funext σ μ; rw [evE] <;> rfl
      rw [e1]
      have q := both (W := W) (ca := ca) (ea_val (X := X) (ca := ca) (W := W) (pe_str (j := kk) (pos := pp)) fun _ _ => At.str s (sOk_list h.2)) (fun _ => rfl)
      exact ⟨q.1, fun _ => q.2⟩
    · cases h
  | .cb s, c, X, W, C, x, h => by
    unfold chkE at h
    split at h
    · cases eq_of_beq h
      rename_i kk pp
      have e1 : evE pr cl (.cb s) = fun _ μ => .ok (.bl s) μ := by funext σ μ; rw [evE] <;> rfl
      rw [e1]
      have q := both (W := W) (ca := ca) (ea_val (X := X) (ca := ca) (W := W) (pe_bl (j := kk) (pos := pp)) fun _ _ => At.bl s) (fun _ => rfl)
      exact ⟨q.1, fun _ => q.2⟩
    · cases h
  | .cn, c, X, W, C, x, h => by
    unfold chkE at h
    split at h
    · rename_i kk pp
      have e1 : evE pr cl .cn = fun _ μ => .ok .non μ := by funext σ μ; rw [evE] <;> rfl
      rw [e1]
      have q := both (W := W) (ca := ca) (ea_val (X := X) (ca := ca) (W := W) (pe_non (j := kk) (pos := pp)) fun _ _ => At.non) (fun _ => rfl)
      exact ⟨q.1, fun _ => q.2⟩
    · cases h
  | .gl i, c, X, W, C, x, h => by
    unfold chkE at h
    split at h
    · simp only [Bool.and_eq_true, decide_eq_true_eq] at h
      obtain ⟨⟨h1, h2⟩, h3⟩ := h
      have z := nm_of h1
      cases e2 : pr.gcs[i]? with
      | none =>
        have e1 : evE pr cl (.gl i) = fun _ _ => .bad := by funext σ μ; rw [evE, e2]
        rw [e1]
        exact ⟨⟨fun pins s σ H Q I ⟨φ, μ, sg, r, sl, q⟩ => q.elim⟩, fun _ => ⟨fun pins s σ H Q I ⟨φ, μ, sg, r, sl, q⟩ => q.elim⟩⟩
      | some d =>
        obtain ⟨v, u, hm, hr, ha⟩ := C.gb.gcs i _ d h3 e2
        have e1 : evE pr cl (.gl i) = fun _ μ => .ok d μ := by funext σ μ; rw [evE, e2]
        rw [e1]
        have q := both (W := W) (ca := ca) (ea_val (X := X) (ca := ca) (W := W) (pe_glob (pos := ‹Pos›) (gl_of C h2) hm hr z.1) ha) (fun _ => rfl)
        exact ⟨q.1, fun _ => q.2⟩
    · cases h
  | .and_ es, c, X, W, C, x, h => by
    unfold chkE at h
    split at h
    · rename_i vs pos
      simp only [Bool.and_eq_true, Bool.not_eq_true', List.isEmpty_eq_false_iff] at h
      have L := (sndL es C vs h.2).and_ h.1 pos
      have e1 : evE pr cl (.and_ es) = evAnd pr cl es := by funext σ μ; rw [evE] <;> rfl
      rw [e1]
      exact ⟨L.1, fun hh => (L.2 (by unfold tstOk at hh; exact hh)).pt⟩
    · cases h
  | .or_ es, c, X, W, C, x, h => by
    unfold chkE at h
    split at h
    · rename_i vs pos
      simp only [Bool.and_eq_true, Bool.not_eq_true', List.isEmpty_eq_false_iff] at h
      have L := (sndL es C vs h.2).or_ h.1 pos
      have e1 : evE pr cl (.or_ es) = evOr pr cl es := by funext σ μ; rw [evE] <;> rfl
      rw [e1]
      exact ⟨L.1, fun hh => (L.2 (by unfold tstOk at hh; exact hh)).pt⟩
    · cases h
  | .not_ a, c, X, W, C, x, h => by
    unfold chkE at h
    split at h
    · have q := sndE a C _ h
      have e1 : evE pr cl (.not_ a) = fun σ μ => (evE pr cl a σ μ).bind fun d μ => match truth μ d with
        | some b => .ok (.bl (!b)) μ
        | none => .bad := by funext σ μ; rw [evE] <;> rfl
      rw [e1]
      refine ⟨ea_not q.1, fun hh => ?_⟩
      have z := ta_not (pos := ‹Pos›) (q.2 (by unfold tstOk at hh; exact hh))
      rw [← tst_not] at z
      exact z
    · cases h
  | .isN a, c, X, W, C, x, h => by
    unfold chkE at h
    split at h
    · have q := sndE a C _ h
      have e1 : evE pr cl (.isN a) = fun σ μ => (evE pr cl a σ μ).bind fun d μ => .ok (.bl (isNon d)) μ := by funext σ μ; rw [evE] <;> rfl
      rw [e1]
      exact ⟨ea_isN q.1, fun _ => ta_isN q.1⟩
    · cases h
  | .notN a, c, X, W, C, x, h => by
    unfold chkE at h
    split at h
    · have q := sndE a C _ h
      have e1 : evE pr cl (.notN a) = fun σ μ => (evE pr cl a σ μ).bind fun d μ => .ok (.bl (!isNon d)) μ := by funext σ μ; rw [evE] <;> rfl
      rw [e1]
      exact ⟨ea_notN q.1, fun _ => ta_notN q.1⟩
    · cases h
  | .bin o a b, c, X, W, C, x, h => by
    unfold chkE at h
    split at h
    · simp only [Bool.and_eq_true, decide_eq_true_eq] at h
      obtain ⟨⟨h1, h2⟩, h3⟩ := h
      rw [binOf_eq h1]
      have q := both (ea_bin (pos := ‹Pos›) (bin_ok o) (sndE a C _ h2).1 (sndE b C _ h3).1) (fun _ => rfl)
      have e1 : evE pr cl (.bin o a b) = fun σ μ => (evE pr cl a σ μ).bind fun x μ => (evE pr cl b σ μ).bind fun y μ => evBin o x y μ := by funext σ μ; rw [evE] <;> rfl
      rw [e1]
      exact ⟨q.1, fun _ => q.2⟩
    · cases h
  | .cmp o a b, c, X, W, C, x, h => by
    unfold chkE at h
    split at h
    · simp only [Bool.and_eq_true, decide_eq_true_eq] at h
      obtain ⟨⟨⟨h1, h4⟩, h2⟩, h3⟩ := h
      rw [cmpOf_eq h1]
      have e1 : evE pr cl (.cmp o a b) = fun σ μ => (evE pr cl a σ μ).bind fun x μ => (evE pr cl b σ μ).bind fun y μ => evCmp o x y μ := by funext σ μ; rw [evE] <;> rfl
      rw [e1]
      have qa := (sndE a C _ h2).1
      have qb := (sndE b C _ h3).1
      exact ⟨ea_cmp (cmp_ok C.hu o) qa qb (no_mark h4), fun _ => ta_cmp (cmp_ok C.hu o) qa qb (no_mark h4)⟩
    · cases h
  | .chain o o' a b d, c, X, W, C, x, h => by
    unfold chkE at h
    split at h
    · simp only [Bool.and_eq_true, decide_eq_true_eq] at h
      obtain ⟨⟨⟨⟨⟨⟨h1, h2⟩, h3⟩, h4⟩, h5⟩, h6⟩, h7⟩ := h
      rw [cmpOf_eq h1, cmpOf_eq h2]
      have e1 : evE pr cl (.chain o o' a b d) = chainR o o' (evE pr cl a) (evE pr cl b) (evE pr cl d) := by funext σ μ; rw [evE]; rfl
      rw [e1]
      have qa := (sndE a C _ h5).1
      have qb := (sndE b C _ h6).1
      have qd := (sndE d C _ h7).1
      have hm := marks2 (o := cmpOp o) (o' := cmpOp o') h3 h4
      exact ⟨ea_chain (cmp_ok C.hu o) (cmp_ok C.hu o') qa qb qd hm, fun _ => ta_chain (cmp_ok C.hu o) (cmp_ok C.hu o') qa qb qd hm⟩
    · cases h
  | .ifx kk a b, c, X, W, C, x, h => by
    unfold chkE at h
    split at h
    · simp only [Bool.and_eq_true] at h
      obtain ⟨⟨⟨h1, h2⟩, h3⟩, h4⟩ := h
      have e1 : evE pr cl (.ifx kk a b) = fun σ μ => (tst (evE pr cl kk) σ μ).bind fun z μ => if z = true then evE pr cl a σ μ else evE pr cl b σ μ := by
        funext σ μ
        rw [evE]
        unfold tst
        rw [R.bind_bind]
        congr 1
        funext d μ1
        unfold trB
        cases truth μ1 d with
        | none => rfl
        | some z => cases z <;> rfl
      rw [e1]
      exact ⟨ea_if ((sndE kk C _ h2).2 h1) (sndE a C _ h3).1 (sndE b C _ h4).1, fun hh => by unfold tstOk at hh; cases hh⟩
    · cases h
  | .tup es, c, X, W, C, x, h => by
    unfold chkE at h
    split at h
    · have q := both (ea_tup (x1 := ‹Nat›) (pos := ‹Pos›) (sndL es C _ h).pa) (fun _ => rfl)
      have e1 : evE pr cl (.tup es) = fun σ μ => (evL pr cl es σ μ).bind fun ds μ => if ds.length ≤ lim then .ok (.tup ds) μ else .bad := by funext σ μ; rw [evE] <;> rfl
      rw [e1]
      exact ⟨q.1, fun _ => q.2⟩
    · cases h
  | .lst es, c, X, W, C, x, h => by
    unfold chkE at h
    split at h
    · have q := both (ea_lst (pos := ‹Pos›) (sndL es C _ h).pa) (fun _ => rfl)
      have e1 : evE pr cl (.lst es) = fun σ μ => (evL pr cl es σ μ).bind fun ds μ => if ds.length ≤ lim then newL μ ds else .bad := by funext σ μ; rw [evE] <;> rfl
      rw [e1]
      exact ⟨q.1, fun _ => q.2⟩
    · cases h
  | .dnew kk, c, X, W, C, x, h => by
    unfold chkE at h
    split at h
    · cases of_decide_eq_true h
      rename_i pp
      have e1 : evE pr cl (.dnew .k) = fun _ μ => .ok (.loc μ.length) (μ ++ [.dct .k []]) := by funext σ μ; rw [evE] <;> rfl
      rw [e1]
      have q := both (W := W) (ca := ca) (ea_dnew (X := X) (ca := ca) (W := W) (pos := pp)) (fun _ => rfl)
      exact ⟨q.1, fun _ => q.2⟩
    · cases h
  | .idx a b, c, X, W, C, x, h => by
    unfold chkE at h
    split at h
    · simp only [Bool.and_eq_true] at h
      obtain ⟨⟨h1, h2⟩, h3⟩ := h
      have q := both (ea_idx (pos := ‹Pos›) C.hu (sndE a C _ h2).1 (sndE b C _ h3).1 (plain_ix h1)) (fun _ => rfl)
      have e1 : evE pr cl (.idx a b) = fun σ μ => (evE pr cl a σ μ).bind fun x μ => (evE pr cl b σ μ).bind fun y μ => evIdx x y μ := by funext σ μ; rw [evE] <;> rfl
      rw [e1]
      exact ⟨q.1, fun _ => q.2⟩
    · cases h
  | .slc a lo hi, c, X, W, C, x, h => by
    unfold chkE at h
    split at h
    · simp only [Bool.and_eq_true] at h
      obtain ⟨⟨h1, h2⟩, h3⟩ := h
      rename_i xx l hh p2 pos
      have q := both (ea_slc (pos := pos) (p2 := p2) (sndE a C _ h1).1 (sndO lo C _ h2) (sndO hi C _ h3)) (fun _ => rfl)
      have e1 : evE pr cl (.slc a lo hi) = fun σ μ => (evE pr cl a σ μ).bind fun x μ => (evO pr cl lo σ μ).bind fun l μ => (evO pr cl hi σ μ).bind fun h μ => evSlc x l h μ := by funext σ μ; rw [evE] <;> rfl
      rw [e1]
      exact ⟨q.1, fun _ => q.2⟩
    · cases h
  | .call f es nm, c, X, W, C, x, h => by
    unfold chkE at h
    split at h
    · rename_i x0 np xs pos
      simp only [Bool.and_eq_true, decide_eq_true_eq] at h
      obtain ⟨⟨⟨h1, h2⟩, h3⟩, h4⟩ := h
      obtain ⟨fa, fd, ps, F, hm, hk, hb⟩ := C.gb.fns f x0 h3
      have z := nm_of h1
      have L := (sndL es C xs h4).pa
      have pl := chkL_plain h4
      have e1 : evE pr cl (.call f es nm) = fun σ μ => (evL pr cl es σ μ).bind fun ds μ => nrm nm μ (cl f ds μ) := by funext σ μ; rw [evE] <;> rfl
      cases xs with
      | nil =>
        have e0 : es = [] := nil_of_len (chkL_len h4)
        have e2 : evE pr cl (.call f es nm) = fun σ μ => nrm nm μ (cl f [] μ) := by
          rw [e1]
          funext σ μ
          rw [e0, evL]
          rfl
        rw [e2]
        have q := both (W := W) (ea_call0 (nm := nm) (p := np) (pos := pos) F C.room (gl_of C h2) hm hk hb C.tk z.1) (fun _ => rfl)
        exact ⟨q.1, fun _ => q.2⟩
      | cons a rest =>
        rw [List.all_cons, Bool.and_eq_true] at pl
        rw [e1]
        have q := both (W := W) (ea_call (nm := nm) (p := np) (pos := pos) F C.room (gl_of C h2) hm hk hb C.tk L z.1 (star_cons pl.1) (no_stars pl.2)) (fun _ => rfl)
        exact ⟨q.1, fun _ => q.2⟩
    · cases h
  | .fld _ _, c, X, W, C, x, h => by
    unfold chkE at h
    cases h
  | .meth _ _ _ _, c, X, W, C, x, h => by
    unfold chkE at h
    cases h
  | .make _ _ _, c, X, W, C, x, h => by
    unfold chkE at h
    cases h
  | .bi b es, c, X, W, C, x, h => by
    unfold chkE at h
    split at h
    · split at h
      · rename_i x0 np y0 np2 z pos2 pos
        simp only [Bool.and_eq_true, decide_eq_true_eq] at h
        obtain ⟨⟨⟨⟨h1, h2⟩, h3⟩, h4⟩, h5⟩ := h
        subst h2
        subst h4
        have L := (sndL es C [z] h5).pa
        have pl := chkL_plain h5
        rw [List.all_cons, Bool.and_eq_true] at pl
        have e1 : evE pr cl (.bi .sortedSet es) = fun σ μ => (evL pr cl es σ μ).bind fun ds μ => evBI .sortedSet ds μ := by funext σ μ; rw [evE] <;> rfl
        rw [e1]
        have hu := C.hu
        have q := both (W := W) (ea_sortedSet (p := np) (p2 := np2) (pos := pos) (pos2 := pos2) C.calm (by omega) (gl_of C h1) (C.gb.blt _ (by decide)) (gl_of C h3) (C.gb.blt _ (by decide)) L (star_cons pl.1)) (fun _ => rfl)
        exact ⟨q.1, fun _ => q.2⟩
      · cases h
    · rename_i b' hb
      split at h
      · rename_i x0 np xs pos
        simp only [Bool.and_eq_true, decide_eq_true_eq, Bool.not_eq_true', List.isEmpty_eq_false_iff] at h
        obtain ⟨⟨⟨h1, h2⟩, h3⟩, h4⟩ := h
        have L := (sndL es C xs h4).pa
        have pl := chkL_plain h4
        have e1 : evE pr cl (.bi b es) = fun σ μ => (evL pr cl es σ μ).bind fun ds μ => evBI b ds μ := by funext σ μ; rw [evE] <;> rfl
        rw [e1]
        cases xs with
        | nil => exact absurd rfl h3
        | cons a rest =>
          rw [List.all_cons, Bool.and_eq_true] at pl
          have q := both (W := W) (snd_bi C (p := np) (pos := pos) hb h2 (gl_of C h1) L (star_cons pl.1) (no_stars pl.2)) (fun _ => rfl)
          exact ⟨q.1, fun _ => q.2⟩
      · cases h
  | .isi a ty, c, X, W, C, x, h => by
    unfold chkE at h
    split at h
    · rename_i x0 np y z zp pos
      simp only [Bool.and_eq_true, decide_eq_true_eq] at h
      obtain ⟨⟨⟨⟨⟨h1, h2⟩, h3⟩, h4⟩, h5⟩, h6⟩ := h
      subst h2
      obtain ⟨b1, b2, b3, b4⟩ := ty_facts h4
      have e1 : evE pr cl (.isi a ty) = fun σ μ => (evE pr cl a σ μ).bind fun d μ => match isTy μ ty d with
        | some b => .ok (.bl b) μ
        | none => .bad := by funext σ μ; rw [evE] <;> rfl
      rw [e1]
      have q := both (W := W) (ca := ca) (ea_isi (p := np) (p2 := zp) (pos := pos) (gl_of C h1) (C.gb.blt _ (by decide)) (gl_of C h3) (C.gb.blt _ b2) b1 b3 b4 (sndE a C y h6).1 (star_cons h5)) (fun _ => rfl)
      exact ⟨q.1, fun _ => q.2⟩
    · cases h
  | .bm b o es, c, X, W, C, x, h => by
    unfold chkE at h
    split at h
    · rename_i xo m ap xs cp
      simp only [Bool.and_eq_true, decide_eq_true_eq] at h
      obtain ⟨⟨⟨⟨⟨⟨h0, h1⟩, h2⟩, h3⟩, h4⟩, h5⟩, h6⟩ := h
      subst h1
      have qo := (sndE o C xo h5).1
      have L := (sndL es C xs h6).pa
      have pl := chkL_plain h6
      have e1 : evE pr cl (.bm b o es) = fun σ μ => (evE pr cl o σ μ).bind fun o μ => match lstS μ o with
        | some _ => (evL pr cl es σ μ).bind fun ds μ => evBM b o ds μ
        | none => .bad := by funext σ μ; rw [evE] <;> rfl
      cases xs with
      | nil =>
        have e0 : es = [] := nil_of_len (chkL_len h6)
        have e2 : evE pr cl (.bm b o es) = fun σ μ => (evE pr cl o σ μ).bind fun o μ => match lstS μ o with
          | some _ => evBM b o [] μ
          | none => .bad := by
          rw [e1]
          funext σ μ
          rw [e0]
          rfl
        rw [e2]
        have q := both (W := W) (snd_bm0 (cp := cp) h2.symm qo (no_base h3) h4) (fun _ => rfl)
        exact ⟨q.1, fun _ => q.2⟩
      | cons a rest =>
        have er : rest = [] := by
          cases rest with
          | nil => rfl
          | cons _ _ =>
            have : bmAr b ≤ 1 := by cases b <;> decide
            simp only [List.length_cons] at h2
            omega
        subst er
        rw [List.all_cons, Bool.and_eq_true] at pl
        rw [e1]
        have q := both (W := W) (snd_bm1 (cp := cp) h2.symm (by intro z; rw [z] at h0; cases h0) qo L (no_base h3) h4 (star_cons pl.1)) (fun _ => rfl)
        exact ⟨q.1, fun _ => q.2⟩
    · cases h
  | .lc elt g it ifs own, c, X, W, C, x, h => by
    unfold chkE at h
    split at h
    · rename_i el tg iter fs as scope pos
      simp only [Bool.and_eq_true, decide_eq_true_eq, List.all_eq_true] at h
      obtain ⟨⟨⟨⟨⟨⟨⟨⟨⟨h0, h1⟩, h2⟩, h3⟩, h4⟩, h5⟩, h6⟩, h7⟩, h8⟩, h9⟩ := h
      subst h0
      have q := ea_lc (pos := pos) (own := c.own own) C.calm (by rw [C.N]; exact C.nd) (sndI it C tg iter h1) (blkOk_by (by rw [C.N, C.sc]; exact h3)) (fun s H D cs fp => sndG (C.blk s H D cs fp) g tg h4) (fun s H D cs fp => (sndL ifs (C.blk s H D cs fp) fs h8).ts h6 h7) (fun s H D cs fp => (sndE elt (C.blk s H D cs fp) el h9).1) (no_fold h2 X.env) (by rw [own_map]; exact h5)
      rw [own_map] at q
      have e1 : evE pr cl (.lc elt g it ifs own) = fun σ μ => (evI pr cl it σ μ).bind fun p μ => lcGo p.2 (fun x μ => match asgG g x (wipeE σ own) with
        | some σ' => (evAll pr cl ifs σ' μ).bind fun b μ => if b = true then (evE pr cl elt σ' μ).bind fun y μ => .ok (some y) μ else .ok none μ
        | none => .bad) μ.length p.1 (μ ++ [.lst []]) := by funext σ μ; rw [evE] <;> rfl
      rw [e1]
      have z := both q (fun _ => rfl)
      exact ⟨z.1, fun _ => z.2⟩
    · cases h
  | .val a, c, X, W, C, x, h => by
    unfold chkE at h
    have q := sndE a C x h
    have e1 : evE pr cl (.val a) = fun σ μ => nrm .val μ (evE pr cl a σ μ) := by funext σ μ; rw [evE] <;> rfl
    rw [e1]
    exact ⟨ea_nrm q.1, fun hh => by unfold tstOk at hh; cases hh⟩
theorem sndL : ∀ (es : List E) {c : Lc} {X : Cx} {W : WX}, CtxOk t pr cl ca k c X W → ∀ xs, chkL t es c xs = true → LOk pr cl ca X W es xs
  | [], c, X, W, C, xs, h => by
    unfold chkL at h
    rw [List.isEmpty_iff.mp h]
    exact LOk.nil
  | e :: es, c, X, W, C, xs, h => by
    unfold chkL at h
    cases xs with
    | nil => cases h
    | cons x xs =>
      simp only [Bool.and_eq_true] at h
      exact LOk.cons h.1.1 (chkL_len h.2) (sndE e C x h.1.2) (sndL es C xs h.2)
theorem sndO : ∀ (o : Option E) {c : Lc} {X : Cx} {W : WX}, CtxOk t pr cl ca k c X W → ∀ x, chkO t o c x = true → PO X x (aO X ca W (evO pr cl o))
  | none, c, X, W, C, x, h => by
    unfold chkO at h
    rw [Option.isNone_iff_eq_none.mp h]
    have e1 : evO pr cl none = fun _ μ => .ok none μ := by funext σ μ; rw [evO] <;> rfl
    rw [e1]
    exact oa_none
  | some e, c, X, W, C, x, h => by
    unfold chkO at h
    split at h
    · have e1 : evO pr cl (some e) = fun σ μ => (evE pr cl e σ μ).bind fun d μ => match d with
        | .int i => .ok (some i) μ
        | _ => .bad := by funext σ μ; rw [evO] <;> rfl
      rw [e1]
      exact oa_some (sndE e C _ h).1
    · cases h
theorem sndI : ∀ (it : It) {c : Lc} {X : Cx} {W : WX}, CtxOk t pr cl ca k c X W → ∀ tg x, chkI t it c tg x = true → L2.PI X tg x (aI X ca W (evI pr cl it))
  | .seq a, c, X, W, C, tg, x, h => by
    unfold chkI at h
    have e1 : evI pr cl (.seq a) = fun σ μ => (evE pr cl a σ μ).bind fun d μ => itSeq μ d := by funext σ μ; rw [evI] <;> rfl
    rw [e1]
    exact ia_seq (sndE a C x h).1
  | .str a, c, X, W, C, tg, x, h => by
    unfold chkI at h
    have e1 : evI pr cl (.str a) = fun σ μ => (evE pr cl a σ μ).bind fun d μ => itStr μ d := by funext σ μ; rw [evI] <;> rfl
    rw [e1]
    exact ia_str (sndE a C x h).1
  | .rng es, c, X, W, C, tg, x, h => by
    unfold chkI at h
    split at h
    · rename_i x0 np xs pos
      simp only [Bool.and_eq_true, Bool.or_eq_true, decide_eq_true_eq] at h
      obtain ⟨⟨⟨h1, h2⟩, h3⟩, h4⟩ := h
      subst h2
      have e1 : evI pr cl (.rng es) = fun σ μ => (evL pr cl es σ μ).bind fun ds μ => itRng μ ds := by funext σ μ; rw [evI] <;> rfl
      rw [e1]
      have L := (sndL es C xs h4).pa
      have pl := chkL_plain h4
      have ll := chkL_len h4
      have hm := C.gb.blt "range" (by decide)
      match xs, h3, L, pl, ll with
      | [a], _, L, pl, ll =>
        rw [List.all_cons, Bool.and_eq_true] at pl
        exact ia_rng1 (gl_of C h1) hm L (star_cons pl.1) fun σ μ ds μ' e => by rw [evL_len e, ll]; rfl
      | [a, b], _, L, pl, ll =>
        rw [List.all_cons, List.all_cons, Bool.and_eq_true, Bool.and_eq_true] at pl
        exact ia_rng2 (gl_of C h1) hm L (by rw [star_cons pl.1, star_cons pl.2.1]; rfl) (star_cons pl.2.1) fun σ μ ds μ' e => by rw [evL_len e, ll]; rfl
      | [], h3, _, _, _ => simp at h3
      | _ :: _ :: _ :: _, h3, _, _, _ => simp at h3
    · cases h
  | .zip _ _, c, X, W, C, tg, x, h => by
    unfold chkI at h
    cases h
  | .enum _, c, X, W, C, tg, x, h => by
    unfold chkI at h
    cases h
  | .rev _, c, X, W, C, tg, x, h => by
    unfold chkI at h
    cases h
  | .keys a, c, X, W, C, tg, x, h => by
    unfold chkI at h
    have e1 : evI pr cl (.keys a) = fun σ μ => (evE pr cl a σ μ).bind fun d μ => itDct (·.1) μ d := by funext σ μ; rw [evI] <;> rfl
    rw [e1]
    exact ia_keys (sndE a C x h).1
  | .items a, c, X, W, C, tg, x, h => by
    unfold chkI at h
    split at h
    · simp only [Bool.and_eq_true, decide_eq_true_eq] at h
      obtain ⟨⟨⟨h1, h2⟩, h3⟩, h4⟩ := h
      subst h1
      have e1 : evI pr cl (.items a) = fun σ μ => (evE pr cl a σ μ).bind fun d μ => itDct (fun p => .tup [p.1, p.2]) μ d := by funext σ μ; rw [evI] <;> rfl
      rw [e1]
      exact ia_items (sndE a C _ h4).1 (no_base h2) h3
    · cases h
end
end
end PI

/-! soundness of statements -/
namespace PI
open PySem PySem.Spec PyProof.Rows L2
section
variable {t : Tab} {pr : Pr} {cl : Calls} {ca : Nat → Addr} {k : Nat}
theorem evT_eq (e : E) : evT pr cl e = tst (evE pr cl e) := by funext σ μ; rfl
/-- name = [ .. for .. ] -/
theorem sndLc {X : Cx} {W : WX} {c : Lc} (C : CtxOk t pr cl ca k c X W) {elt : E} {g : G} {it : It} {ifs : List E} {own : List Nat} {i : Nat} {x a : Expr} {pos : Pos} (h : chkE t (.lc elt g it ifs own) c a = true) (hg : chkG c (.nm i) x = true) (hs : swapT c x a = true) :
    PS X (.Assign [x] a pos) (aS X ca W fun σ μ => (evE pr cl (.lc elt g it ifs own) σ μ).into σ fun v μ => match asgG (.nm i) v σ with
      | some σ' => .nx σ' μ
      | none => .bad) := by
  have e1 : evE pr cl (.lc elt g it ifs own) = fun σ μ => (evI pr cl it σ μ).bind fun p μ => lcGo p.2 (fun x μ => match asgG g x (wipeE σ own) with
    | some σ' => (evAll pr cl ifs σ' μ).bind fun b μ => if b = true then (evE pr cl elt σ' μ).bind fun y μ => .ok (some y) μ else .ok none μ
    | none => .bad) μ.length p.1 (μ ++ [.lst []]) := by funext σ μ; rw [evE] <;> rfl
  unfold chkE at h
  split at h
  · rename_i el tg iter fs as scope lpos
    simp only [Bool.and_eq_true, decide_eq_true_eq, List.all_eq_true] at h
    obtain ⟨⟨⟨⟨⟨⟨⟨⟨⟨h0, h1⟩, h2⟩, h3⟩, h4⟩, h5⟩, h6⟩, h7⟩, h8⟩, h9⟩ := h
    subst h0
    cases x with
    | Name y py =>
      unfold swapT at hs
      simp only [Bool.and_eq_true, decide_eq_true_eq, Bool.not_eq_true'] at hs
      obtain ⟨⟨⟨s1, s2⟩, s3⟩, s4⟩ := hs
      have hk : X.env.scope.kind = .function := by
        rw [C.sc]
        split at s1
        · assumption
        · cases s1
      unfold chkG at hg
      simp only [Bool.and_eq_true, decide_eq_true_eq] at hg
      have hN : X.N[i]? = some y := by rw [C.N]; exact hg.1.2
      have hl : i < X.N.length := (List.getElem?_eq_some_iff.mp hN).1
      have q := ps_setLc (wi := aI X ca W (evI pr cl it)) (g := aGt X ca (asgG g) (slotsG g)) (tt := aT X ca (fun _ _ _ _ => False) (evAll pr cl ifs)) (te := aE X ca (fun _ _ _ _ => False) (evE pr cl elt)) (i := i) (spos := pos) (own := c.own own) C.calm (by rw [C.N]; exact C.nd) hN (by rw [C.sc]; exact s2) (sw_true (py := py) (pos := lpos) (l := pos.line) hk (by rw [C.sc]; exact s2) s3 s4) (sndI it C tg iter h1) (blkOk_by (by rw [C.N, C.sc]; exact h3)) (fun s H D cs fp => sndG (C.blk s H D cs fp) g tg h4) (fun s H D cs fp => (sndL ifs (C.blk s H D cs fp) fs h8).ts h6 h7) (fun s H D cs fp => (sndE elt (C.blk s H D cs fp) el h9).1) (no_fold h2 X.env)
      rw [own_map] at q
      rw [e1]
      refine sa_setLc C.calm hN (PS.imp (ps_un q) fun D σ H z => ?_) hl
      exact lc_imp h5 z
    | _ => unfold swapT at hs; cases hs
  · cases h
mutual
theorem sndS : ∀ (s : S) {c : Lc} {X : Cx} {W : WX}, CtxOk t pr cl ca k c X W → ∀ x, chkS t s c x = true → PS X x (aS X ca W (exS pr cl s))
  | .asg tg e, c, X, W, C, x, h => by
    unfold chkS at h
    split at h
    · rename_i x1 a pos
      split at h
      · rename_i g
        simp only [Bool.and_eq_true, Bool.or_eq_true] at h
        obtain ⟨⟨⟨⟨h1, h2⟩, h3⟩, h4⟩, h5⟩ := h
        have e1 : exS pr cl (.asg (.g g) e) = fun σ μ => (evE pr cl e σ μ).into σ fun v μ => match asgG g v σ with
          | some σ' => .nx σ' μ
          | none => .bad := by funext σ μ; rw [exS] <;> rfl
        rw [e1]
        rcases h5 with h5 | ⟨h5, h6⟩
        · exact sa_asg (sndE e C _ h2).1 (sndG C g x1 h1) (no_swap1 h5) (no_stores (by rw [Bool.or_eq_true]; exact h3)) (each1 h4)
        · cases e with
          | lc elt g' it ifs own =>
            cases g with
            | nm i => exact sndLc C h2 h1 h6
            | tup _ => unfold lcNm at h5; cases h5
          | _ => unfold lcNm at h5; cases h5
      · rename_i o i
        split at h
        · rename_i xo xi p2
          simp only [Bool.and_eq_true] at h
          obtain ⟨⟨⟨⟨h1, h2⟩, h3⟩, h4⟩, h5⟩ := h
          have e1 : exS pr cl (.asg (.sub o i) e) = fun σ μ => (evE pr cl e σ μ).into σ fun v μ => (evE pr cl o σ μ).into σ fun x μ => (evE pr cl i σ μ).into σ fun k μ => match setSub x k v μ with
            | some μ' => .nx σ μ'
            | none => .bad := by funext σ μ; rw [exS] <;> rfl
          rw [e1]
          exact sa_sub C.hu (sndE e C _ h1).1 (sndE o C _ h3).1 (sndE i C _ h4).1 (no_swap1 h2) (no_stores rfl) rfl (sub_rule h5)
        · cases h
      · cases h
    · cases h
  | .aug i o e, c, X, W, C, x, h => by
    unfold chkS at h
    split at h
    · rename_i y yp op a pos
      simp only [Bool.and_eq_true, Bool.or_eq_true, decide_eq_true_eq] at h
      obtain ⟨⟨⟨⟨⟨h1, h2⟩, h3⟩, h4⟩, h5⟩, h6⟩ := h
      have hN : X.N[i]? = some y := by rw [C.N]; exact h2
      have hn : X.N.Nodup := by rw [C.N]; exact C.nd
      have q := (sndE e C _ h6).1
      have hl := loc_of C h3
      have ho := binOf_eq h4
      rcases h5 with rfl | rfl
      · cases ho
        have z := sa_augAdd (p := yp) (pos := pos) (W := W) (ca := ca) hn hN hl.1 hl.2 q
        refine PS.imp z fun D σ H ⟨φ, μ, sg, r, s, p⟩ => ⟨φ, μ, sg, r, s, ?_⟩
        rw [exS] at p
        dsimp only
        cases e1 : sg[i]? with
        | none => rw [e1] at p; exact p
        | some z1 =>
          rw [e1] at p
          cases z1 with
          | none => exact p
          | some x1 =>
            dsimp only at p ⊢
            refine cast ?_ p
            congr 2
            funext y1 μ1
            cases x1 <;> cases y1 <;> rfl
      · cases ho
        have z := sa_augSub (p := yp) (pos := pos) (W := W) (ca := ca) hn hN hl.1 hl.2 q
        refine PS.imp z fun D σ H ⟨φ, μ, sg, r, s, p⟩ => ⟨φ, μ, sg, r, s, ?_⟩
        rw [exS] at p
        dsimp only
        cases e1 : sg[i]? with
        | none => rw [e1] at p; exact p
        | some z1 =>
          rw [e1] at p
          cases z1 with
          | none => exact p
          | some x1 =>
            dsimp only at p ⊢
            refine cast ?_ p
            congr 2
            funext y1 μ1
            cases x1 <;> cases y1 <;> rfl
    · cases h
  | .exp e, c, X, W, C, x, h => by
    unfold chkS at h
    split at h
    · rw [Bool.and_eq_true] at h
      have e1 : exS pr cl (.exp e) = fun σ μ => (evE pr cl e σ μ).into σ fun _ μ => .nx σ μ := by funext σ μ; rw [exS] <;> rfl
      rw [e1]
      exact sa_exp (sndE e C _ h.2).1 (no_swap h.1)
    · cases h
  | .ret e, c, X, W, C, x, h => by
    unfold chkS at h
    split at h
    · have e1 : exS pr cl (.ret e) = fun σ μ => (evE pr cl e σ μ).into σ fun v μ => .rt v μ := by funext σ μ; rw [exS] <;> rfl
      rw [e1]
      exact sa_ret (sndE e C _ h).1
    · cases h
  | .retN, c, X, W, C, x, h => by
    unfold chkS at h
    split at h
    · have e1 : exS pr cl .retN = fun _ μ => .rt .non μ := by funext σ μ; rw [exS] <;> rfl
      rw [e1]
      exact sa_retN
    · cases h
  | .ifs kk a b, c, X, W, C, x, h => by
    unfold chkS at h
    split at h
    · simp only [Bool.and_eq_true] at h
      obtain ⟨⟨⟨h1, h2⟩, h3⟩, h4⟩ := h
      have e1 : exS pr cl (.ifs kk a b) = fun σ μ => (tst (evE pr cl kk) σ μ).into σ fun z μ => if z = true then exL pr cl a σ μ else exL pr cl b σ μ := by
        funext σ μ
        rw [exS, evT_eq] <;> rfl
      rw [e1]
      exact sa_if ((sndE kk C _ h2).2 h1) (sndSs a C _ h3) (sndSs b C _ h4)
    · cases h
  | .for_ g it b, c, X, W, C, x, h => by
    unfold chkS at h
    split at h
    · simp only [Bool.and_eq_true] at h
      obtain ⟨⟨⟨h1, h2⟩, h3⟩, h4⟩ := h
      have e1 : exS pr cl (.for_ g it b) = fun σ μ => (evI pr cl it σ μ).into σ fun p μ => forGo p.2 (fun x σ μ => match asgG g x σ with
        | some σ' => exL pr cl b σ' μ
        | none => .bad) p.1 σ μ := by funext σ μ; rw [exS] <;> rfl
      rw [e1]
      exact sa_for C.ps C.calm (sndI it C _ _ h2) (sndG C g _ h1) (sndSs b C _ h4) (no_fold h3 X.env)
    · cases h
  | .whl kk b, c, X, W, C, x, h => by
    unfold chkS at h
    split at h
    · simp only [Bool.and_eq_true] at h
      obtain ⟨⟨h1, h2⟩, h3⟩ := h
      have e1 : exS pr cl (.whl kk b) = whRun (tst (evE pr cl kk)) (exL pr cl b) := by
        funext σ μ
        rw [exS, evT_eq] <;> rfl
      rw [e1]
      exact sa_while C.ps ((sndE kk C _ h2).2 h1) (sndSs b C _ h3)
    · cases h
  | .pas, c, X, W, C, x, h => by
    unfold chkS at h
    split at h
    · have e1 : exS pr cl .pas = fun σ μ => .nx σ μ := by funext σ μ; rw [exS] <;> rfl
      rw [e1]
      exact sa_pass
    · cases h
  | .brk, c, X, W, C, x, h => by
    unfold chkS at h
    split at h
    · have e1 : exS pr cl .brk = fun σ μ => .bk σ μ := by funext σ μ; rw [exS] <;> rfl
      rw [e1]
      exact sa_break
    · cases h
  | .cnt, c, X, W, C, x, h => by
    unfold chkS at h
    split at h
    · have e1 : exS pr cl .cnt = fun σ μ => .ct σ μ := by funext σ μ; rw [exS] <;> rfl
      rw [e1]
      exact sa_cont
    · cases h
  | .rai _, c, X, W, C, x, h => by
    unfold chkS at h
    cases h
  | .try_ _ _ _, c, X, W, C, x, h => by
    unfold chkS at h
    cases h
theorem sndSs : ∀ (ss : List S) {c : Lc} {X : Cx} {W : WX}, CtxOk t pr cl ca k c X W → ∀ xs, chkSs t ss c xs = true → PSs X xs (aS X ca W (exL pr cl ss))
  | [], c, X, W, C, xs, h => by
    unfold chkSs at h
    rw [List.isEmpty_iff.mp h]
    have e1 : exL pr cl [] = fun σ μ => .nx σ μ := by funext σ μ; rw [exL] <;> rfl
    rw [e1]
    exact sa_nil
  | s :: ss, c, X, W, C, xs, h => by
    unfold chkSs at h
    cases xs with
    | nil => cases h
    | cons x xs =>
      simp only [Bool.and_eq_true] at h
      have e1 : exL pr cl (s :: ss) = fun σ μ => (exS pr cl s σ μ).seq (exL pr cl ss) := by funext σ μ; rw [exL] <;> rfl
      rw [e1]
      exact sa_cons (sndS s C x h.1) (sndSs ss C xs h.2)
end
end
end PI

/-! soundness of defs; the law's end -/
namespace PI
open PySem PySem.Spec PyProof.Rows L2
theorem spF_bad {K : PySem.W.Frag} {ca : Nat → Addr} {cl : Calls} {fid : Nat} (h : ∀ ds μ, cl fid ds μ = .bad) (vs : List V) (H : Hp) (Q : VK) (E : XK) : ¬ spF K ca cl fid vs H Q E := fun ⟨φ, μ, ds, _, _, p⟩ => by
  rw [h] at p
  exact p
/-- behind a body -/
theorem post_out {K : PySem.W.Frag} {ca : Nat → Addr} {φ : List Addr} {H : Hp} {r : RS} {Q : VK} {E : XK} (p : Post K ca φ H r.out Q E) : PostS K ca φ H r { nx := fun _ H' => Q .non H', rt := Q } (fun c d _ H' => E c d H') := by
  cases r with
  | nx σ μ => exact fun φ1 H1 σ1 x r s => p φ1 H1 .non x r .non
  | rt d μ => exact fun φ1 H1 v x r a => p φ1 H1 v x r a
  | bk σ μ => exact p.elim
  | ct σ μ => exact p.elim
  | err c xs σ μ =>
    cases xs with
    | nil => exact fun φ1 H1 σ1 x r s => p φ1 H1 x r
    | cons _ _ => exact p.elim
  | bad => exact p.elim
theorem start_ok {K : PySem.W.Frag} {ca : Nat → Addr} {φ : List Addr} {H : Hp} {N : List Str} {fn : Fn} (hn : N.length = fn.ns) {vs : List V} {ds : List D} (a : AtL K ca φ H vs ds) : Sl K ca φ H (start N vs) (startE fn ds) := by
  have hl := a.length
  refine ⟨by unfold L2.start startE; rw [List.length_append, List.length_append, List.length_map, List.length_map, List.length_replicate, List.length_replicate, hl, hn], fun i d e => ?_⟩
  unfold startE at e
  by_cases c : i < ds.length
  · rw [List.getElem?_append_left (by rw [List.length_map]; exact c), List.getElem?_map] at e
    cases e1 : ds[i]? with
    | none => rw [e1] at e; cases e
    | some d1 =>
      rw [e1] at e
      cases e
      obtain ⟨v, h1, h2⟩ := a.get e1
      refine ⟨v, ?_, h2⟩
      unfold L2.start
      rw [List.getElem?_append_left (by rw [List.length_map, hl]; exact c), List.getElem?_map, h1]
      rfl
  · rw [List.getElem?_append_right (by rw [List.length_map]; omega), List.getElem?_replicate] at e
    split at e <;> cases e
section
variable {t : Tab} {pr : Pr} {ca : Nat → Addr} {P : Program} {w : World} {K : PySem.W.Frag} {mg : Str → Option Value}
/-- a def stands there as its text here says -/
structure DefOk (t : Tab) (pr : Pr) (K : PySem.W.Frag) (mg : Str → Option Value) (fid : Nat) (x : Str) : Prop where
  ex : ∃ (st : Stmt) (N ps : List Str) (fn : Fn) (fa : Addr) (fd : FuncData), pr.fns[fid]? = some fn ∧ Fun K x x st fa fd ∧ FnScope N ps (defScope st) ∧ chkSs t fn.body ⟨N, defScope st, none⟩ (defBody st) = true ∧ ps.length = fn.ar ∧ N.length = fn.ns ∧ mg x = some (.ref fa) ∧ Binds K fd ps []
structure Top (t : Tab) (pr : Pr) (ca : Nat → Addr) (K : PySem.W.Frag) (mg : Str → Option Value) : Prop where
  fns : ∀ (fid : Nat) (x : Str), t.fns[fid]? = some (some x) → DefOk t pr K mg fid x
  gcs : ∀ (i : Nat) (x : Str) (d : D), t.gcs[i]? = some x → pr.gcs[i]? = some d → ∃ v u, mg x = some u ∧ RelV v u ∧ ∀ φ H, At K ca φ H v d
  blt : ∀ x ∈ bltNames, mg x = none
theorem fn_ok {base : Heap} {k fid : Nat} {x : Str} {st : Stmt} {N ps : List Str} {fn : Fn} {fa : Addr} {fd : FuncData} (G : Glob t pr (run pr k) ca k P w K mg base) (hf : pr.fns[fid]? = some fn) (F : Fun K x x st fa fd) (S : FnScope N ps (defScope st))
    (hc : chkSs t fn.body ⟨N, defScope st, none⟩ (defBody st) = true) (ha : ps.length = fn.ar) (hn : N.length = fn.ns) : FnOk P w K mg base (L2.CX P w) (k + 1) fa fd ps (spF K ca (run pr (k + 1)) fid) := by
  have len : ∀ vs H Q E, spF K ca (run pr (k + 1)) fid vs H Q E → vs.length = ps.length := fun vs H Q E ⟨φ, μ, ds, r, a, p⟩ => by
    rw [run, hf] at p
    dsimp only at p
    split at p
    · rename_i e
      rw [a.length, e, ha]
    · exact p.elim
  refine F.okX S len fun cdv A outer s H vs Q E hr h => ?_
  obtain ⟨φ, μ, ds, r, a, p⟩ := h
  rw [run, hf] at p
  dsimp only at p
  split at p
  · have C : CtxOk t pr (run pr k) ca k ⟨N, defScope st, none⟩ (cxOf (L2.CX P w) P w K mg base N x (defScope st) fa cdv A outer s H E) (fun c d _ H' => E c d H') := {
      gb := G
      N := rfl
      nd := S.nd
      sc := rfl
      fn := fun _ _ => rfl
      calm := rfl
      room := hr
      tk := takes_of rfl rfl rfl rfl
      ps := passes_of (K := fun e s' => L2.CX P w outer H s E e s') (E₁ := fun e s' => L2.CX P w outer H s E e s') rfl }
    exact ⟨_, sndSs fn.body C _ hc, φ, μ, _, r, start_ok hn a, post_out p⟩
  · exact p.elim
theorem glob_ok {base : Heap} (T : Top t pr ca K mg) : ∀ k : Nat, Glob t pr (run pr k) ca k P w K mg base
  | 0 => ⟨fun fid x h => by
      obtain ⟨st, N, ps, fn, fa, fd, _, F, _, _, _, _, hm, hb⟩ := (T.fns fid x h).ex
      have no : ∀ vs H Q E, ¬ spF K ca (run pr 0) fid vs H Q E := spF_bad fun ds μ => by rw [run]
      exact ⟨fa, fd, ps, ⟨fun vs H Q E h => absurd h (no vs H Q E), fun A outer s H args us vs Q E _ _ _ _ h => absurd h (no vs H Q E)⟩, hm, F.kp, hb⟩, T.gcs, T.blt⟩
  | k + 1 => ⟨fun fid x h => by
      obtain ⟨st, N, ps, fn, fa, fd, hf, F, S, hc, ha, hn, hm, hb⟩ := (T.fns fid x h).ex
      exact ⟨fa, fd, ps, fn_ok (glob_ok T k) hf F S hc ha hn, hm, F.kp, hb⟩, T.gcs, T.blt⟩
/-- the law's end: a script of ints answers True -/
theorem law_sp {k fid n : Nat} (hall : ∀ ns : List Int, ns.length ≤ n → ∃ μ, run pr k fid [.sl (ns.map D.int)] [] = .ok (.bl true) μ) (H : Hp) (a : Addr) (ns : List Int) (hl : ns.length ≤ n) (hS : SqL K H a (ns.map V.int)) :
    spF K ca (run pr k) fid [.ref a] H (fun v _ => v = .bl true) fun _ _ _ => False := by
  obtain ⟨μ, e⟩ := hall ns hl
  have hi : ∀ ns : List Int, AtL K ca [] H (ns.map V.int) (ns.map D.int) := fun ns => by
    induction ns with
    | nil => exact .nil
    | cons i ns ih => exact .cons (.int i) ih
  refine ⟨[], [], [.sl (ns.map D.int)], ⟨rfl, List.nodup_nil, fun i ob b h1 _ => by simp at h1⟩, .cons (.sl ?_ (hi ns)) .nil, ?_⟩
  · rcases hS with h | h
    · exact .inl ⟨h, List.not_mem_nil⟩
    · exact .inr h
  · rw [e]
    exact fun φ' H' v _ _ av => by cases av; rfl
/-- one def, by the facts that the top has left -/
theorem def_mk {fid : Nat} {x : Str} {l : Heap} {N ps : List Str} {fn : Fn} {st : Stmt} {f : Addr} {oc : Value} {od an : Option Addr} {osl : Array (Option Value)} {kV doc pm cdv ct : Value} (X : K.In l) (G : l.Ns mainGlobals mg)
    (hf : pr.fns[fid]? = some fn) (S : FnScope N ps (defScope st)) (hc : chkSs t fn.body ⟨N, defScope st, none⟩ (defBody st) = true) (ha : ps.length = fn.ar) (hn : N.length = fn.ns)
    (hb : ∀ (kV doc pm : Value) (an : Option Addr) (cdv ct : Value) (us : List Value), us.length = ps.length → bindArgs (PySem.W.fnOf x x (defArgs st) (defBody st) (defScope st) .none kV doc pm an cdv ct) ⟨us, []⟩ = pure (ps.zip us))
    (a1 : PySem.W.nsIn K mainGlobals x = some (some (.ref f))) (l1 : K.lookup f = some ⟨oc, od, .func (PySem.W.fnOf x x (defArgs st) (defBody st) (defScope st) .none kV doc pm an cdv ct), osl⟩) (c1 : PySem.W.codeIn K cdv x = true) (k1 : PySem.W.keepIn K (.ref f) = true) :
    DefOk t pr K mg fid x := by
  have F := fun_mk l1 c1 k1
  exact ⟨st, N, ps, fn, f, _, hf, F, S, hc, ha, hn, PySem.W.mg_of X G a1, F.binds hb⟩
end
end PI

/-! plain lemmas about the language's memory, for plain laws -/
namespace PI
open PySem
/-! ### values with no place in them -/
abbrev solid (d : D) : Prop := closed 0 d = true
abbrev solidL (ds : List D) : Prop := closedL 0 ds = true
mutual
theorem frzW_solid (g : Nat → Option D) : ∀ {d : D}, closed 0 d = true → frzW g d = some d
  | .non, _ => rfl
  | .bl _, _ => rfl
  | .int _, _ => rfl
  | .str _, _ => rfl
  | .loc m, h => by simp [closed] at h
  | .tup xs, h => by rw [frzW, frzL_solid g (by simpa [closed] using h)]; rfl
  | .fl xs, h => by rw [frzW, frzL_solid g (by simpa [closed] using h)]; rfl
  | .sl xs, h => by rw [frzW, frzL_solid g (by simpa [closed] using h)]; rfl
  | .fd k kvs, h => by rw [frzW, frzP_solid g (by simpa [closed] using h)]; rfl
  | .fi c fs, h => by rw [frzW, frzF_solid g (by simpa [closed] using h)]; rfl
theorem frzL_solid (g : Nat → Option D) : ∀ {xs : List D}, closedL 0 xs = true → frzL g xs = some xs
  | [], _ => rfl
  | x :: xs, h => by
    rw [closedL, Bool.and_eq_true] at h
    rw [frzL, frzW_solid g h.1, frzL_solid g h.2]
theorem frzP_solid (g : Nat → Option D) : ∀ {xs : List (D × D)}, closedP 0 xs = true → frzP g xs = some xs
  | [], _ => rfl
  | x :: xs, h => by
    rw [closedP, Bool.and_eq_true, Bool.and_eq_true] at h
    rw [frzP, frzW_solid g h.1.1, frzW_solid g h.1.2, frzP_solid g h.2]
theorem frzF_solid (g : Nat → Option D) : ∀ {xs : List (Str × D)}, closedF 0 xs = true → frzF g xs = some xs
  | [], _ => rfl
  | x :: xs, h => by
    rw [closedF, Bool.and_eq_true] at h
    rw [frzF, frzW_solid g h.1, frzF_solid g h.2]
end
mutual
theorem closed_mono {m n : Nat} (hn : m ≤ n) : ∀ {d : D}, closed m d = true → closed n d = true
  | .non, _ => rfl
  | .bl _, _ => rfl
  | .int _, _ => rfl
  | .str _, _ => rfl
  | .loc m, h => by simp [closed] at h ⊢; omega
  | .tup xs, h => by rw [closed]; exact closedL_mono hn (by simpa [closed] using h)
  | .fl xs, h => by rw [closed]; exact closedL_mono hn (by simpa [closed] using h)
  | .sl xs, h => by rw [closed]; exact closedL_mono hn (by simpa [closed] using h)
  | .fd k kvs, h => by rw [closed]; exact closedP_mono hn (by simpa [closed] using h)
  | .fi c fs, h => by rw [closed]; exact closedF_mono hn (by simpa [closed] using h)
theorem closedL_mono {m n : Nat} (hn : m ≤ n) : ∀ {xs : List D}, closedL m xs = true → closedL n xs = true
  | [], _ => rfl
  | x :: xs, h => by
    rw [closedL, Bool.and_eq_true] at h
    rw [closedL, closed_mono hn h.1, closedL_mono hn h.2]
    rfl
theorem closedP_mono {m n : Nat} (hn : m ≤ n) : ∀ {xs : List (D × D)}, closedP m xs = true → closedP n xs = true
  | [], _ => rfl
  | x :: xs, h => by
    rw [closedP, Bool.and_eq_true, Bool.and_eq_true] at h
    rw [closedP, closed_mono hn h.1.1, closed_mono hn h.1.2, closedP_mono hn h.2]
    rfl
theorem closedF_mono {m n : Nat} (hn : m ≤ n) : ∀ {xs : List (Str × D)}, closedF m xs = true → closedF n xs = true
  | [], _ => rfl
  | x :: xs, h => by
    rw [closedF, Bool.and_eq_true] at h
    rw [closedF, closed_mono hn h.1, closedF_mono hn h.2]
    rfl
end
/-! ### how a memory goes on -/
/-- longer; the old places are as they were but for those of S, which lean on the old alone -/
structure Gr (S : List Nat) (μ μ' : Mem) : Prop where
  len : μ.length ≤ μ'.length
  same : ∀ i, i < μ.length → i ∉ S → μ'[i]? = μ[i]?
  leans : ∀ i, i < μ.length → i ∈ S → ∃ ob, μ'[i]? = some ob ∧ closedO μ.length ob = true
theorem Gr.trim {S : List Nat} {μ μ' : Mem} (g : Gr S μ μ') : Trim μ μ' := ⟨g.len, fun i hi => by
  by_cases h : i ∈ S
  · exact .inr (g.leans i hi h)
  · exact .inl (g.same i hi h)⟩
theorem Gr.take {S : List Nat} {μ μ' : Mem} (g : Gr S μ μ') : Gr S μ (μ'.take μ.length) := by
  have z : ∀ i, i < μ.length → (μ'.take μ.length)[i]? = μ'[i]? := fun i hi => by rw [List.getElem?_take, if_pos hi]
  refine ⟨by rw [List.length_take]; have := g.len; omega, fun i hi h => by rw [z i hi]; exact g.same i hi h, fun i hi h => by rw [z i hi]; exact g.leans i hi h⟩
theorem take_len {S : List Nat} {μ μ' : Mem} (g : Gr S μ μ') : (μ'.take μ.length).length = μ.length := by
  rw [List.length_take]
  have := g.len
  omega
/-- nothing old has changed -/
theorem take_same {μ μ' : Mem} (g : Gr [] μ μ') : μ'.take μ.length = μ := by
  apply List.ext_getElem?
  intro i
  rw [List.getElem?_take]
  by_cases hi : i < μ.length
  · rw [if_pos hi]; exact g.same i hi List.not_mem_nil
  · rw [if_neg hi, List.getElem?_eq_none (by omega)]
theorem Gr.refl (μ : Mem) : Gr [] μ μ := ⟨Nat.le_refl _, fun _ _ _ => rfl, fun _ _ h => absurd h List.not_mem_nil⟩
theorem Gr.app (μ J : Mem) : Gr [] μ (μ ++ J) := ⟨by simp, fun i hi _ => by rw [List.getElem?_append_left hi], fun _ _ h => absurd h List.not_mem_nil⟩
theorem Gr.trans0 {μ μ1 μ2 : Mem} (g : Gr [] μ μ1) (h : Gr [] μ1 μ2) : Gr [] μ μ2 := ⟨Nat.le_trans g.len h.len, fun i hi _ => (h.same i (Nat.lt_of_lt_of_le hi g.len) List.not_mem_nil).trans (g.same i hi List.not_mem_nil), fun _ _ h => absurd h List.not_mem_nil⟩
theorem Gr.get {μ μ' : Mem} (g : Gr [] μ μ') {i : Nat} {ob : Ob} (h : μ[i]? = some ob) : μ'[i]? = some ob := (g.same i (List.getElem?_eq_some_iff.mp h).1 List.not_mem_nil).trans h
/-- a call that makes a value with no place in it -/
theorem nrm_val {S : List Nat} {μ μ' : Mem} {d : D} (g : Gr S μ μ') (hd : closed 0 d = true) : nrm .val μ (.ok d μ') = .ok d (μ'.take μ.length) := by
  unfold nrm
  dsimp only
  rw [if_pos g.trim]
  unfold frz
  rw [frzW_solid _ hd]
theorem nrm_val0 {μ μ' : Mem} {d : D} (g : Gr [] μ μ') (hd : closed 0 d = true) : nrm .val μ (.ok d μ') = .ok d μ := by rw [nrm_val g hd, take_same g]
/-- .. where it was written out -/
theorem nrm_frz {S : List Nat} {μ μ' : Mem} {d d' : D} (g : Gr S μ μ') (hd : frz μ' μ.length d = some d') : nrm .val μ (.ok d μ') = .ok d' (μ'.take μ.length) := by
  unfold nrm
  dsimp only
  rw [if_pos g.trim, hd]
theorem unl_nil (μ : Mem) : unlO [] μ = some μ := rfl
theorem still_nil (μ : Mem) : Still [] μ := fun p h => absurd h List.not_mem_nil
/-! ### comprehensions -/
theorem set_last (μ : Mem) (a b : Ob) : (μ ++ [a]).set μ.length b = μ ++ [b] := by
  rw [List.set_append_right _ _ (Nat.le_refl _), Nat.sub_self]
  rfl
theorem get_last (μ : Mem) (a : Ob) : (μ ++ [a])[μ.length]? = some a := by
  rw [List.getElem?_append_right (Nat.le_refl _), Nat.sub_self]
  rfl
/-- its turns leave the memory as it is -/
theorem lc_fm {α : Type} {src : List (Nat × Ob)} {step : D → Mem → R (Option D)} {μ : Mem} {e : α → D} {f : α → Option D} (hs : ∀ acc, Still src (μ ++ [.lst acc]) ∧ unlO src (μ ++ [.lst acc]) = some (μ ++ [.lst acc])) :
    ∀ {xs : List α} {acc : List D}, acc.length + xs.length ≤ lim → (∀ x ∈ xs, ∀ acc, step (e x) (μ ++ [.lst acc]) = .ok (f x) (μ ++ [.lst acc])) → lcGo src step μ.length (xs.map e) (μ ++ [.lst acc]) = .ok (.loc μ.length) (μ ++ [.lst (acc ++ xs.filterMap f)])
  | [], acc, _, _ => by
    rw [List.map_nil]
    unfold lcGo
    rw [if_pos (hs acc).1, (hs acc).2, List.filterMap_nil, List.append_nil]
  | x :: xs, acc, hl, h => by
    rw [List.length_cons] at hl
    rw [List.map_cons]
    unfold lcGo
    rw [if_pos (hs acc).1, h x List.mem_cons_self acc]
    cases ef : f x with
    | none =>
      dsimp only
      rw [List.filterMap_cons_none ef]
      exact lc_fm hs (by omega) fun y m => h y (List.mem_cons_of_mem _ m)
    | some y =>
      dsimp only
      rw [get_last]
      dsimp only
      rw [if_pos (by omega), set_last, List.filterMap_cons_some ef, lc_fm hs (by rw [List.length_append, List.length_singleton]; omega) fun y m => h y (List.mem_cons_of_mem _ m), List.append_assoc]
      rfl
theorem fm_some {α : Type} (g : α → D) (xs : List α) : xs.filterMap (fun x => some (g x)) = xs.map g := by
  induction xs with
  | nil => rfl
  | cons x xs ih => simp only [List.filterMap_cons, List.map_cons, ih]
theorem lc_nil {α : Type} {step : D → Mem → R (Option D)} {μ : Mem} {e : α → D} {f : α → Option D} {xs : List α} (hl : xs.length ≤ lim) (h : ∀ x ∈ xs, ∀ acc, step (e x) (μ ++ [.lst acc]) = .ok (f x) (μ ++ [.lst acc])) : lcGo [] step μ.length (xs.map e) (μ ++ [.lst []]) = .ok (.loc μ.length) (μ ++ [.lst (xs.filterMap f)]) :=
  lc_fm (fun acc => ⟨still_nil _, rfl⟩) (by simpa using hl) h
theorem lc_each {α : Type} {step : D → Mem → R (Option D)} {μ : Mem} {e g : α → D} {xs : List α} (hl : xs.length ≤ lim) (h : ∀ x ∈ xs, ∀ acc, step (e x) (μ ++ [.lst acc]) = .ok (some (g x)) (μ ++ [.lst acc])) : lcGo [] step μ.length (xs.map e) (μ ++ [.lst []]) = .ok (.loc μ.length) (μ ++ [.lst (xs.map g)]) := by
  rw [lc_nil (f := fun x => some (g x)) hl h, fm_some]
theorem still_old {m : Nat} {ob : Ob} {μ : Mem} (h : μ[m]? = some ob) (J : Mem) : Still [(m, ob)] (μ ++ J) := fun p hp => by
  rw [List.mem_singleton.mp hp]
  exact (Gr.app μ J).get h
theorem lc_old {α : Type} {step : D → Mem → R (Option D)} {m : Nat} {ys : List D} {μ : Mem} (hm : μ[m]? = some (.lst ys)) {e : α → D} {f : α → Option D} {xs : List α} (hl : xs.length ≤ lim) (h : ∀ x ∈ xs, ∀ acc, step (e x) (μ ++ [.lst acc]) = .ok (f x) (μ ++ [.lst acc])) :
    lcGo [(m, .lst ys)] step μ.length (xs.map e) (μ ++ [.lst []]) = .ok (.loc μ.length) (μ ++ [.lst (xs.filterMap f)]) :=
  lc_fm (fun acc => ⟨still_old hm _, rfl⟩) (by simpa using hl) h
theorem tuple_last (μ : Mem) (xs : List D) : biTuple (.loc μ.length) (μ ++ [.lst xs]) = .ok (.tup xs) (μ ++ [.lst xs]) := by
  unfold biTuple seqOf
  simp only [get_last]
/-- its turns change the memory: what holds is told by the list so far -/
theorem lc_inv {src : List (Nat × Ob)} {step : D → Mem → R (Option D)} {n : Nat} (I : List D → List D → Mem → Prop) (hs : ∀ xs acc μ, I xs acc μ → Still src μ ∧ unlO src μ = some μ ∧ μ[n]? = some (.lst acc)) :
    ∀ {xs acc : List D} {μ : Mem}, acc.length + xs.length ≤ lim → I xs acc μ → (∀ x xs acc μ, I (x :: xs) acc μ → ∃ μ', (step x μ = .ok none μ' ∧ I xs acc μ') ∨ ∃ y, step x μ = .ok (some y) μ' ∧ μ'[n]? = some (.lst acc) ∧ I xs (acc ++ [y]) (μ'.set n (.lst (acc ++ [y])))) →
      ∃ acc' μ', lcGo src step n xs μ = .ok (.loc n) μ' ∧ I [] acc' μ'
  | [], acc, μ, _, i, _ => by
    obtain ⟨h1, h2, _⟩ := hs _ _ _ i
    exact ⟨acc, μ, by unfold lcGo; rw [if_pos h1, h2], i⟩
  | x :: xs, acc, μ, hl, i, h => by
    rw [List.length_cons] at hl
    obtain ⟨h1, h2, h3⟩ := hs _ _ _ i
    obtain ⟨μ', ⟨e, i'⟩ | ⟨y, e, e2, i'⟩⟩ := h _ _ _ _ i
    · obtain ⟨acc', μ2, e3, i3⟩ := lc_inv I hs (by omega) i' h
      exact ⟨acc', μ2, by unfold lcGo; rw [if_pos h1, e]; exact e3, i3⟩
    · obtain ⟨acc', μ2, e3, i3⟩ := lc_inv I hs (by rw [List.length_append, List.length_singleton]; omega) i' h
      refine ⟨acc', μ2, ?_, i3⟩
      unfold lcGo
      rw [if_pos h1, e]
      dsimp only
      rw [e2]
      dsimp only
      rw [if_pos (by omega)]
      exact e3
/-! ### loops -/
theorem for_inv {src : List (Nat × Ob)} {step : D → Env → Mem → RS} (I : List D → Env → Mem → Prop) (hs : ∀ xs σ μ, I xs σ μ → Still src μ ∧ unlO src μ = some μ) :
    ∀ {xs : List D} {σ : Env} {μ : Mem}, I xs σ μ → (∀ x xs σ μ, I (x :: xs) σ μ → ∃ σ' μ', (step x σ μ = .nx σ' μ' ∨ step x σ μ = .ct σ' μ') ∧ I xs σ' μ') → ∃ σ' μ', forGo src step xs σ μ = .nx σ' μ' ∧ I [] σ' μ'
  | [], σ, μ, i, _ => by
    obtain ⟨h1, h2⟩ := hs _ _ _ i
    exact ⟨σ, μ, by unfold forGo endF; rw [if_pos h1, h2], i⟩
  | x :: xs, σ, μ, i, h => by
    obtain ⟨h1, h2⟩ := hs _ _ _ i
    obtain ⟨σ', μ', e, i'⟩ := h _ _ _ _ i
    obtain ⟨σ2, μ2, e2, i2⟩ := for_inv I hs i' h
    refine ⟨σ2, μ2, ?_, i2⟩
    unfold forGo
    rw [if_pos h1]
    rcases e with e | e
    · rw [e]; exact e2
    · rw [e]; exact e2
end PI

/-! the language's programs step by step, as rewriting rules: what stands behind a step is a named word, so it waits -/
namespace PI
open PySem
theorem bind_ok {α β : Type} (a : α) (μ : Mem) (f : α → Mem → R β) : (R.ok a μ).bind f = f a μ := rfl
theorem bind_err {α β : Type} (c : Nat) (xs : List D) (μ : Mem) (f : α → Mem → R β) : (R.err c xs μ : R α).bind f = .err c xs μ := rfl
theorem into_ok {α : Type} (σ : Env) (a : α) (μ : Mem) (f : α → Mem → RS) : (R.ok a μ).into σ f = f a μ := rfl
theorem into_err {α : Type} (σ : Env) (c : Nat) (xs : List D) (μ : Mem) (f : α → Mem → RS) : (R.err c xs μ : R α).into σ f = .err c xs σ μ := rfl
theorem seq_nx (σ : Env) (μ : Mem) (f : Env → Mem → RS) : (RS.nx σ μ).seq f = f σ μ := rfl
theorem seq_rt (d : D) (μ : Mem) (f : Env → Mem → RS) : (RS.rt d μ).seq f = .rt d μ := rfl
theorem seq_bk (σ : Env) (μ : Mem) (f : Env → Mem → RS) : (RS.bk σ μ).seq f = .bk σ μ := rfl
theorem seq_ct (σ : Env) (μ : Mem) (f : Env → Mem → RS) : (RS.ct σ μ).seq f = .ct σ μ := rfl
theorem seq_err (c : Nat) (xs : List D) (σ : Env) (μ : Mem) (f : Env → Mem → RS) : (RS.err c xs σ μ).seq f = .err c xs σ μ := rfl
theorem out_rt (d : D) (μ : Mem) : (RS.rt d μ).out = .ok d μ := rfl
theorem out_nx (σ : Env) (μ : Mem) : (RS.nx σ μ).out = .ok .non μ := rfl
/-- the value in a slot -/
def vrD (o : Option (Option D)) (μ : Mem) : R D := match o with
  | some (some d) => .ok d μ
  | _ => .bad
theorem vrD_ok (d : D) (μ : Mem) : vrD (some (some d)) μ = .ok d μ := rfl
def tupK (ds : List D) (μ : Mem) : R D := if ds.length ≤ lim then .ok (.tup ds) μ else .bad
def lstK (ds : List D) (μ : Mem) : R D := if ds.length ≤ lim then newL μ ds else .bad
theorem tupK_ok {ds : List D} {μ : Mem} (h : ds.length ≤ 1000) : tupK ds μ = .ok (.tup ds) μ := by
  unfold tupK
  rw [if_pos (by unfold lim; omega)]
theorem tup1 (a : D) (μ : Mem) : tupK [a] μ = .ok (.tup [a]) μ := tupK_ok (show 1 ≤ 1000 by decide)
theorem tup2 (a b : D) (μ : Mem) : tupK [a, b] μ = .ok (.tup [a, b]) μ := tupK_ok (show 2 ≤ 1000 by decide)
theorem tup3 (a b c : D) (μ : Mem) : tupK [a, b, c] μ = .ok (.tup [a, b, c]) μ := tupK_ok (show 3 ≤ 1000 by decide)
theorem tup4 (a b c d : D) (μ : Mem) : tupK [a, b, c, d] μ = .ok (.tup [a, b, c, d]) μ := tupK_ok (show 4 ≤ 1000 by decide)
theorem tup5 (a b c d e : D) (μ : Mem) : tupK [a, b, c, d, e] μ = .ok (.tup [a, b, c, d, e]) μ := tupK_ok (show 5 ≤ 1000 by decide)
theorem lstK_ok {ds : List D} {μ : Mem} (h : ds.length ≤ 1000) : lstK ds μ = .ok (.loc μ.length) (μ ++ [.lst ds]) := by
  unfold lstK
  rw [if_pos (by unfold lim; omega)]
  rfl
theorem lst0 (μ : Mem) : lstK [] μ = .ok (.loc μ.length) (μ ++ [.lst []]) := lstK_ok (show 0 ≤ 1000 by decide)
theorem lst1 (a : D) (μ : Mem) : lstK [a] μ = .ok (.loc μ.length) (μ ++ [.lst [a]]) := lstK_ok (show 1 ≤ 1000 by decide)
theorem lst2 (a b : D) (μ : Mem) : lstK [a, b] μ = .ok (.loc μ.length) (μ ++ [.lst [a, b]]) := lstK_ok (show 2 ≤ 1000 by decide)
theorem lst3 (a b c : D) (μ : Mem) : lstK [a, b, c] μ = .ok (.loc μ.length) (μ ++ [.lst [a, b, c]]) := lstK_ok (show 3 ≤ 1000 by decide)
/-- a choice by a truth -/
def chB {α : Type} (k : Option Bool) (a b : Env → Mem → α) (z : α) (σ : Env) (μ : Mem) : α := match k with
  | some true => a σ μ
  | some false => b σ μ
  | none => z
theorem chB_t {α : Type} (a b : Env → Mem → α) (z : α) (σ : Env) (μ : Mem) : chB (some true) a b z σ μ = a σ μ := rfl
theorem chB_f {α : Type} (a b : Env → Mem → α) (z : α) (σ : Env) (μ : Mem) : chB (some false) a b z σ μ = b σ μ := rfl
def okB (k : Option Bool) (g : Bool → Bool) (μ : Mem) : R D := match k with
  | some b => .ok (.bl (g b)) μ
  | none => .bad
theorem okB_some (b : Bool) (g : Bool → Bool) (μ : Mem) : okB (some b) g μ = .ok (.bl (g b)) μ := rfl
theorem tr_bl (μ : Mem) (b : Bool) : truth μ (.bl b) = some b := rfl
theorem tr_int (μ : Mem) (i : Int) : truth μ (.int i) = some (i != 0) := rfl
def setK (o : Option Env) (μ : Mem) : RS := match o with
  | some σ => .nx σ μ
  | none => .bad
theorem setK_ok (σ : Env) (μ : Mem) : setK (some σ) μ = .nx σ μ := rfl
def kOk (d : D) (_ : Env) (μ : Mem) : R D := .ok d μ
theorem kOk_eq (d : D) (σ : Env) (μ : Mem) : kOk d σ μ = .ok d μ := rfl
def notK (d : D) (μ : Mem) : R D := okB (truth μ d) not μ
theorem notK_eq (d : D) (μ : Mem) : notK d μ = okB (truth μ d) not μ := rfl
def isNK (d : D) (μ : Mem) : R D := .ok (.bl (isNon d)) μ
theorem isNK_eq (d : D) (μ : Mem) : isNK d μ = .ok (.bl (isNon d)) μ := rfl
def notNK (d : D) (μ : Mem) : R D := .ok (.bl (!isNon d)) μ
theorem notNK_eq (d : D) (μ : Mem) : notNK d μ = .ok (.bl (!isNon d)) μ := rfl
def isiK (t : Ty) (d : D) (μ : Mem) : R D := okB (isTy μ t d) id μ
def intO (d : D) (μ : Mem) : R (Option Int) := match d with
  | .int i => .ok (some i) μ
  | _ => .bad
theorem intO_ok (i : Int) (μ : Mem) : intO (.int i) μ = .ok (some i) μ := rfl
def seqK (d : D) (μ : Mem) : R Items := itSeq μ d
def strK (d : D) (μ : Mem) : R Items := itStr μ d
def rngK (ds : List D) (μ : Mem) : R Items := itRng μ ds
def dctK (g : D × D → D) (d : D) (μ : Mem) : R Items := itDct g μ d
theorem seqK_eq (d : D) (μ : Mem) : seqK d μ = itSeq μ d := rfl
theorem strK_eq (d : D) (μ : Mem) : strK d μ = itStr μ d := rfl
theorem rngK_eq (ds : List D) (μ : Mem) : rngK ds μ = itRng μ ds := rfl
theorem dctK_eq (g : D × D → D) (d : D) (μ : Mem) : dctK g d μ = itDct g μ d := rfl
def consK (d : D) (ds : List D) (μ : Mem) : R (List D) := .ok (d :: ds) μ
theorem consK_eq (d : D) (ds : List D) (μ : Mem) : consK d ds μ = .ok (d :: ds) μ := rfl
def someK (y : D) (μ : Mem) : R (Option D) := .ok (some y) μ
theorem someK_eq (y : D) (μ : Mem) : someK y μ = .ok (some y) μ := rfl
def noneK (_ : Env) (μ : Mem) : R (Option D) := .ok none μ
theorem noneK_eq (σ : Env) (μ : Mem) : noneK σ μ = .ok none μ := rfl
def subK (m : Option Mem) (σ : Env) : RS := match m with
  | some μ => .nx σ μ
  | none => .bad
theorem subK_ok (μ : Mem) (σ : Env) : subK (some μ) σ = .nx σ μ := rfl
def dropK (σ : Env) (_ : D) (μ : Mem) : RS := .nx σ μ
theorem dropK_eq (σ : Env) (d : D) (μ : Mem) : dropK σ d μ = .nx σ μ := rfl
def retK (v : D) (μ : Mem) : RS := .rt v μ
theorem retK_eq (v : D) (μ : Mem) : retK v μ = .rt v μ := rfl
def asgK (i : Nat) (σ : Env) (v : D) (μ : Mem) : RS := if i < σ.length then .nx (σ.set i (some v)) μ else .bad
theorem asgK_eq {i : Nat} {σ : Env} {v : D} {μ : Mem} : asgK i σ v μ = if i < σ.length then .nx (σ.set i (some v)) μ else .bad := rfl
def asgTK (gs : List G) (σ : Env) (v : D) (μ : Mem) : RS := setK (asgG (.tup gs) v σ) μ
theorem asgTK_eq (gs : List G) (σ : Env) (v : D) (μ : Mem) : asgTK gs σ v μ = setK (asgG (.tup gs) v σ) μ := rfl
def sub3 (σ : Env) (v x k : D) (μ : Mem) : RS := subK (setSub x k v μ) σ
theorem sub3_eq (σ : Env) (v x k : D) (μ : Mem) : sub3 σ v x k μ = subK (setSub x k v μ) σ := rfl
section
variable (pr : Pr) (cl : Calls) (σ : Env) (μ : Mem)
noncomputable def binK (o : Bin) (b : E) (x : D) (μ : Mem) : R D := (evE pr cl b σ μ).bind (evBin o x)
noncomputable def cmpK (o : Cmp) (b : E) (x : D) (μ : Mem) : R D := (evE pr cl b σ μ).bind (evCmp o x)
noncomputable def idxK (b : E) (x : D) (μ : Mem) : R D := (evE pr cl b σ μ).bind (evIdx x)
noncomputable def slcK2 (hi : Option E) (x : D) (l : Option Int) (μ : Mem) : R D := (evO pr cl hi σ μ).bind (evSlc x l)
noncomputable def slcK (lo hi : Option E) (x : D) (μ : Mem) : R D := (evO pr cl lo σ μ).bind (slcK2 pr cl σ hi x)
noncomputable def ifK (a b : E) (d : D) (μ : Mem) : R D := chB (truth μ d) (evE pr cl a) (evE pr cl b) .bad σ μ
noncomputable def callK (nm : Nm) (f : Nat) (ds : List D) (μ : Mem) : R D := nrm nm μ (cl f ds μ)
noncomputable def lK (es : List E) (d : D) (μ : Mem) : R (List D) := (evL pr cl es σ μ).bind (consK d)
noncomputable def bmK (b : BM) (es : List E) (o : D) (μ : Mem) : R D := match lstS μ o with
  | some _ => (evL pr cl es σ μ).bind (evBM b o)
  | none => .bad
noncomputable def andK (es : List E) (d : D) (μ : Mem) : R D := chB (truth μ d) (evE pr cl (.and_ es)) (kOk d) .bad σ μ
noncomputable def orK (es : List E) (d : D) (μ : Mem) : R D := chB (truth μ d) (kOk d) (evE pr cl (.or_ es)) .bad σ μ
noncomputable def eltK (elt : E) (σ : Env) (μ : Mem) : R (Option D) := (evE pr cl elt σ μ).bind someK
noncomputable def allK (elt : E) (b : Bool) (μ : Mem) : R (Option D) := chB (some b) (eltK pr cl elt) noneK .bad σ μ
noncomputable def lcStep (elt : E) (g : G) (ifs : List E) (own : List Nat) (x : D) (μ : Mem) : R (Option D) := match asgG g x (wipeE σ own) with
  | some σ' => (evAll pr cl ifs σ' μ).bind (allK pr cl σ' elt)
  | none => .bad
noncomputable def lcK (elt : E) (g : G) (ifs : List E) (own : List Nat) (p : Items) (μ : Mem) : R D := lcGo p.2 (lcStep pr cl σ elt g ifs own) μ.length p.1 (μ ++ [.lst []])
noncomputable def sub2 (i : E) (v x : D) (μ : Mem) : RS := (evE pr cl i σ μ).into σ (sub3 σ v x)
noncomputable def sub1 (o i : E) (v : D) (μ : Mem) : RS := (evE pr cl o σ μ).into σ (sub2 pr cl σ i v)
noncomputable def ifS (a b : List S) (d : D) (μ : Mem) : RS := chB (truth μ d) (exL pr cl a) (exL pr cl b) .bad σ μ
noncomputable def forStep (g : G) (b : List S) (x : D) (σ : Env) (μ : Mem) : RS := match asgG g x σ with
  | some σ' => exL pr cl b σ' μ
  | none => .bad
noncomputable def forK (g : G) (b : List S) (p : Items) (μ : Mem) : RS := forGo p.2 (forStep pr cl g b) p.1 σ μ
theorem binK_eq (o : Bin) (b : E) (x : D) : binK pr cl σ o b x μ = (evE pr cl b σ μ).bind (evBin o x) := rfl
theorem cmpK_eq (o : Cmp) (b : E) (x : D) : cmpK pr cl σ o b x μ = (evE pr cl b σ μ).bind (evCmp o x) := rfl
theorem idxK_eq (b : E) (x : D) : idxK pr cl σ b x μ = (evE pr cl b σ μ).bind (evIdx x) := rfl
theorem slcK2_eq (hi : Option E) (x : D) (l : Option Int) : slcK2 pr cl σ hi x l μ = (evO pr cl hi σ μ).bind (evSlc x l) := rfl
theorem slcK_eq (lo hi : Option E) (x : D) : slcK pr cl σ lo hi x μ = (evO pr cl lo σ μ).bind (slcK2 pr cl σ hi x) := rfl
theorem ifK_eq (a b : E) (d : D) : ifK pr cl σ a b d μ = chB (truth μ d) (evE pr cl a) (evE pr cl b) .bad σ μ := rfl
theorem callK_eq (nm : Nm) (f : Nat) (ds : List D) : callK cl nm f ds μ = nrm nm μ (cl f ds μ) := rfl
theorem lK_eq (es : List E) (d : D) : lK pr cl σ es d μ = (evL pr cl es σ μ).bind (consK d) := rfl
theorem bmK_ok {b : BM} {es : List E} {o : D} {xs : List D} {μ : Mem} (h : lstS μ o = some xs) : bmK pr cl σ b es o μ = (evL pr cl es σ μ).bind (evBM b o) := by unfold bmK; rw [h]
theorem andK_eq (es : List E) (d : D) : andK pr cl σ es d μ = chB (truth μ d) (evE pr cl (.and_ es)) (kOk d) .bad σ μ := rfl
theorem orK_eq (es : List E) (d : D) : orK pr cl σ es d μ = chB (truth μ d) (kOk d) (evE pr cl (.or_ es)) .bad σ μ := rfl
theorem eltK_eq (elt : E) : eltK pr cl elt σ μ = (evE pr cl elt σ μ).bind someK := rfl
theorem allK_eq (elt : E) (b : Bool) : allK pr cl σ elt b μ = chB (some b) (eltK pr cl elt) noneK .bad σ μ := rfl
theorem lcStep_ok {elt : E} {g : G} {ifs : List E} {own : List Nat} {x : D} {σ' : Env} (h : asgG g x (wipeE σ own) = some σ') : lcStep pr cl σ elt g ifs own x μ = (evAll pr cl ifs σ' μ).bind (allK pr cl σ' elt) := by
  unfold lcStep
  rw [h]
theorem lcK_eq (elt : E) (g : G) (ifs : List E) (own : List Nat) (p : Items) : lcK pr cl σ elt g ifs own p μ = lcGo p.2 (lcStep pr cl σ elt g ifs own) μ.length p.1 (μ ++ [.lst []]) := rfl
theorem sub2_eq (i : E) (v x : D) : sub2 pr cl σ i v x μ = (evE pr cl i σ μ).into σ (sub3 σ v x) := rfl
theorem sub1_eq (o i : E) (v : D) : sub1 pr cl σ o i v μ = (evE pr cl o σ μ).into σ (sub2 pr cl σ i v) := rfl
theorem ifS_eq (a b : List S) (d : D) : ifS pr cl σ a b d μ = chB (truth μ d) (exL pr cl a) (exL pr cl b) .bad σ μ := rfl
theorem forStep_ok {g : G} {b : List S} {x : D} {σ' : Env} (h : asgG g x σ = some σ') : forStep pr cl g b x σ μ = exL pr cl b σ' μ := by
  unfold forStep
  rw [h]
theorem forK_eq (g : G) (b : List S) (p : Items) : forK pr cl σ g b p μ = forGo p.2 (forStep pr cl g b) p.1 σ μ := rfl
/-! expressions -/
theorem e_var (i : Nat) : evE pr cl (.var i) σ μ = vrD σ[i]? μ := by rw [evE]; rfl
theorem e_ci (i : Int) : evE pr cl (.ci i) σ μ = .ok (.int i) μ := by rw [evE]
theorem e_cs (s : Str) : evE pr cl (.cs s) σ μ = .ok (.str s) μ := by rw [evE]
theorem e_cb (b : Bool) : evE pr cl (.cb b) σ μ = .ok (.bl b) μ := by rw [evE]
theorem e_cn : evE pr cl .cn σ μ = .ok .non μ := by rw [evE]
theorem e_not (e : E) : evE pr cl (.not_ e) σ μ = (evE pr cl e σ μ).bind notK := by
  rw [evE]
  congr 1
theorem e_isN (e : E) : evE pr cl (.isN e) σ μ = (evE pr cl e σ μ).bind isNK := by rw [evE]; rfl
theorem e_notN (e : E) : evE pr cl (.notN e) σ μ = (evE pr cl e σ μ).bind notNK := by rw [evE]; rfl
theorem e_bin (o : Bin) (a b : E) : evE pr cl (.bin o a b) σ μ = (evE pr cl a σ μ).bind (binK pr cl σ o b) := by rw [evE]; rfl
theorem e_cmp (o : Cmp) (a b : E) : evE pr cl (.cmp o a b) σ μ = (evE pr cl a σ μ).bind (cmpK pr cl σ o b) := by rw [evE]; rfl
theorem e_ifx (c a b : E) : evE pr cl (.ifx c a b) σ μ = (evE pr cl c σ μ).bind (ifK pr cl σ a b) := by
  rw [evE]
  congr 1
theorem e_tup (es : List E) : evE pr cl (.tup es) σ μ = (evL pr cl es σ μ).bind tupK := by rw [evE]; rfl
theorem e_lst (es : List E) : evE pr cl (.lst es) σ μ = (evL pr cl es σ μ).bind lstK := by rw [evE]; rfl
theorem e_dnew (k : DK) : evE pr cl (.dnew k) σ μ = .ok (.loc μ.length) (μ ++ [.dct k []]) := by rw [evE]
theorem e_idx (a b : E) : evE pr cl (.idx a b) σ μ = (evE pr cl a σ μ).bind (idxK pr cl σ b) := by rw [evE]; rfl
theorem e_slc (a : E) (lo hi : Option E) : evE pr cl (.slc a lo hi) σ μ = (evE pr cl a σ μ).bind (slcK pr cl σ lo hi) := by rw [evE]; rfl
theorem e_call (f : Nat) (es : List E) (nm : Nm) : evE pr cl (.call f es nm) σ μ = (evL pr cl es σ μ).bind (callK cl nm f) := by rw [evE]; rfl
theorem e_bi (b : BI) (es : List E) : evE pr cl (.bi b es) σ μ = (evL pr cl es σ μ).bind (evBI b) := by rw [evE]
theorem e_isi (e : E) (t : Ty) : evE pr cl (.isi e t) σ μ = (evE pr cl e σ μ).bind (isiK t) := by
  rw [evE]
  congr 1
theorem e_bm (b : BM) (e : E) (es : List E) : evE pr cl (.bm b e es) σ μ = (evE pr cl e σ μ).bind (bmK pr cl σ b es) := by
  rw [evE]
  congr 1
theorem e_lc (elt : E) (g : G) (it : It) (ifs : List E) (own : List Nat) : evE pr cl (.lc elt g it ifs own) σ μ = (evI pr cl it σ μ).bind (lcK pr cl σ elt g ifs own) := by
  rw [evE]
  congr 1
  funext p μ
  unfold lcK
  congr 1
  funext x μ
  unfold lcStep
  cases asgG g x (wipeE σ own) with
  | none => rfl
  | some σ' =>
    dsimp only
    congr 1
    funext b μ
    cases b <;> rfl
theorem l_nil : evL pr cl [] σ μ = .ok [] μ := by rw [evL]
theorem l_cons (e : E) (es : List E) : evL pr cl (e :: es) σ μ = (evE pr cl e σ μ).bind (lK pr cl σ es) := by rw [evL]; rfl
theorem o_none : evO pr cl none σ μ = .ok none μ := by rw [evO]
theorem o_some (e : E) : evO pr cl (some e) σ μ = (evE pr cl e σ μ).bind intO := by rw [evO]; rfl
theorem and_one (e : E) : evE pr cl (.and_ [e]) σ μ = evE pr cl e σ μ := by
  rw [evE, evAnd]
  cases evE pr cl e σ μ <;> rfl
theorem and_two (e e' : E) (es : List E) : evE pr cl (.and_ (e :: e' :: es)) σ μ = (evE pr cl e σ μ).bind (andK pr cl σ (e' :: es)) := by
  rw [evE, evAnd]
  congr 1
theorem or_one (e : E) : evE pr cl (.or_ [e]) σ μ = evE pr cl e σ μ := by
  rw [evE, evOr]
  cases evE pr cl e σ μ <;> rfl
theorem or_two (e e' : E) (es : List E) : evE pr cl (.or_ (e :: e' :: es)) σ μ = (evE pr cl e σ μ).bind (orK pr cl σ (e' :: es)) := by
  rw [evE, evOr]
  congr 1
  funext d μ
  have z : evE pr cl (.or_ (e' :: es)) = evOr pr cl (e' :: es) := by funext σ μ; rw [evE]
  unfold orK
  rw [z]
  cases truth μ d with
  | none => rfl
  | some b => cases b <;> rfl
theorem all_nil : evAll pr cl [] σ μ = .ok true μ := by rw [evAll]
theorem all_one (e : E) : evAll pr cl [e] σ μ = (evE pr cl e σ μ).bind trB := by
  rw [evAll]
  congr 1
  funext d μ
  unfold trB
  cases truth μ d with
  | none => rfl
  | some b => cases b <;> (first | rfl | (rw [evAll] <;> rfl))
theorem trB_bl (b : Bool) : trB (.bl b) μ = .ok b μ := rfl
theorem trB_some {d : D} {b : Bool} (h : truth μ d = some b) : trB d μ = .ok b μ := by unfold trB; rw [h]
theorem i_seq (e : E) : evI pr cl (.seq e) σ μ = (evE pr cl e σ μ).bind seqK := by rw [evI]; rfl
theorem i_str (e : E) : evI pr cl (.str e) σ μ = (evE pr cl e σ μ).bind strK := by rw [evI]; rfl
theorem i_rng (es : List E) : evI pr cl (.rng es) σ μ = (evL pr cl es σ μ).bind rngK := by rw [evI]; rfl
theorem i_keys (e : E) : evI pr cl (.keys e) σ μ = (evE pr cl e σ μ).bind (dctK (·.1)) := by rw [evI]; rfl
theorem i_items (e : E) : evI pr cl (.items e) σ μ = (evE pr cl e σ μ).bind (dctK fun p => .tup [p.1, p.2]) := by rw [evI]; rfl
/-! statements -/
theorem s_nil : exL pr cl [] σ μ = .nx σ μ := by rw [exL]
theorem s_cons (s : S) (ss : List S) : exL pr cl (s :: ss) σ μ = (exS pr cl s σ μ).seq (exL pr cl ss) := by rw [exL]
theorem s_asg (i : Nat) (e : E) : exS pr cl (.asg (.g (.nm i)) e) σ μ = (evE pr cl e σ μ).into σ (asgK i σ) := by
  rw [exS]
  congr 1
  funext v μ
  unfold setTg asgG asgK
  dsimp only
  by_cases h : i < σ.length
  · rw [if_pos h, if_pos h]
  · rw [if_neg h, if_neg h]
theorem s_asgT (gs : List G) (e : E) : exS pr cl (.asg (.g (.tup gs)) e) σ μ = (evE pr cl e σ μ).into σ (asgTK gs σ) := by
  rw [exS]
  congr 1
theorem s_sub (o i e : E) : exS pr cl (.asg (.sub o i) e) σ μ = (evE pr cl e σ μ).into σ (sub1 pr cl σ o i) := by
  rw [exS]
  congr 1
theorem s_exp (e : E) : exS pr cl (.exp e) σ μ = (evE pr cl e σ μ).into σ (dropK σ) := by rw [exS]; rfl
theorem s_ret (e : E) : exS pr cl (.ret e) σ μ = (evE pr cl e σ μ).into σ retK := by rw [exS]; rfl
theorem s_retN : exS pr cl .retN σ μ = .rt .non μ := by rw [exS]
theorem s_if (c : E) (a b : List S) : exS pr cl (.ifs c a b) σ μ = (evE pr cl c σ μ).into σ (ifS pr cl σ a b) := by
  rw [exS]
  unfold evT
  cases evE pr cl c σ μ with
  | ok d μ1 =>
    show (R.into σ (match truth μ1 d with
      | some b => R.ok b μ1
      | none => .bad) fun k μ => if k = true then exL pr cl a σ μ else exL pr cl b σ μ) = chB (truth μ1 d) (exL pr cl a) (exL pr cl b) .bad σ μ1
    cases truth μ1 d with
    | none => rfl
    | some b => cases b <;> rfl
  | err _ _ _ => rfl
  | bad => rfl
theorem s_for (g : G) (it : It) (b : List S) : exS pr cl (.for_ g it b) σ μ = (evI pr cl it σ μ).into σ (forK pr cl σ g b) := by
  rw [exS]
  congr 1
end
end PI

/-! law_k32_opened_and_shut: its text as PI data, held against the linked text -/
namespace K32
open PySem PySem.Spec PyProof.Rows L2 PI
def top (i : Nat) : Stmt := PySem.Challenge.pw_samesmith_k32_opened_and_shut.main.body.getD i (.Pass ⟨0, 0, 0, 0⟩)
def N0 : List Str := ["thing", "what", "by", "deep", "old", "new", "part"]
def f0 : Fn := ⟨4, 7,
  [.asg (.g (.nm 4)) (.var 1),
  .asg (.g (.nm 5)) (.var 2),
  .ifs (.isN (.var 1))
    [.asg (.g (.nm 4)) (.tup [.cs "bound", .var 3])]
    [],
  .ifs (.isN (.var 2))
    [.asg (.g (.nm 5)) (.tup [.cs "bound", .var 3])]
    [],
  .ifs (.cmp .eq (.var 0) (.var 4))
    [.ret (.var 5)]
    [],
  .ifs (.cmp .in_ (.idx (.var 0) (.ci 0)) (.tup [.cs "name", .cs "bound"]))
    [.ret (.var 0)]
    [],
  .ifs (.cmp .eq (.idx (.var 0) (.ci 0)) (.cs "made"))
    [.ret (.tup [.cs "made", .idx (.var 0) (.ci 1), .bi .tuple [.lc (.call 0 [.var 6, .var 1, .var 2, .var 3] .val) (.nm 6) (.seq (.idx (.var 0) (.ci 2))) [] [6]]])]
    [],
  .ifs (.cmp .in_ (.idx (.var 0) (.ci 0)) (.gl 0))
    [.ret (.tup [.idx (.var 0) (.ci 0), .idx (.var 0) (.ci 1), .call 0 [.idx (.var 0) (.ci 2), .var 1, .var 2, .bin .add (.var 3) (.ci 1)] .val])]
    [],
  .ret (.bin .add (.tup [.idx (.var 0) (.ci 0)]) (.bi .tuple [.lc (.call 0 [.var 6, .var 1, .var 2, .var 3] .val) (.nm 6) (.seq (.slc (.var 0) (some (.ci 1)) none)) [] [6]]))]⟩
def N1 : List Str := ["body", "term"]
def f1 : Fn := ⟨2, 2,
  [.ret (.call 0 [.var 0, .cn, .var 1, .ci 0] .val)]⟩
def N2 : List Str := ["saying", "x", "kind"]
def f2 : Fn := ⟨3, 3,
  [.ret (.call 0 [.var 0, .tup [.cs "name", .var 1, .var 2], .cn, .ci 0] .val)]⟩
def N3 : List Str := ["saying", "x", "kind", "term"]
def f3 : Fn := ⟨4, 4,
  [.ret (.call 0 [.var 0, .tup [.cs "name", .var 1, .var 2], .var 3, .ci 0] .val)]⟩
def N4 : List Str := ["thing", "parts", "found", "part"]
def f4 : Fn := ⟨1, 4,
  [.ifs (.cmp .eq (.idx (.var 0) (.ci 0)) (.cs "name"))
    [.ret (.lst [.tup [.idx (.var 0) (.ci 1), .idx (.var 0) (.ci 2)]])]
    [],
  .asg (.g (.nm 1)) (.slc (.var 0) (some (.ci 1)) none),
  .ifs (.cmp .eq (.idx (.var 0) (.ci 0)) (.cs "made"))
    [.asg (.g (.nm 1)) (.idx (.var 0) (.ci 2))]
    [],
  .ifs (.cmp .in_ (.idx (.var 0) (.ci 0)) (.gl 0))
    [.asg (.g (.nm 1)) (.slc (.var 0) (some (.ci 2)) none)]
    [],
  .asg (.g (.nm 2)) (.lst []),
  .for_ (.nm 3) (.seq (.var 1))
    [.ifs (.isi (.var 3) .tuple)
      [.exp (.bm .extend (.var 2) [.call 4 [.var 3] .val])]
      []],
  .ret (.var 2)]⟩
def N5 : List Str := ["sayings", "found", "saying"]
def f5 : Fn := ⟨1, 3,
  [.asg (.g (.nm 1)) (.lst []),
  .for_ (.nm 2) (.seq (.var 0))
    [.exp (.bm .extend (.var 1) [.call 4 [.var 2] .val])],
  .ret (.bi .sortedSet [.var 1])]⟩
def N6 : List Str := ["script", "k"]
def f6 : Fn := ⟨2, 2,
  [.ifs (.cmp .lt (.var 1) (.bi .len [.var 0]))
    [.ret (.idx (.var 0) (.var 1))]
    [],
  .ret (.bin .add (.bin .mul (.ci 40503) (.var 1)) (.ci 11))]⟩
def N7 : List Str := ["cell"]
def f7 : Fn := ⟨1, 1,
  [.ret (.lst [.bin .mod (.var 0) (.ci 2147483647), .bi .max2 [.ci 0, .bin .sub (.var 0) (.bin .pow (.ci 10) (.ci 18))]])]⟩
def N8 : List Str := ["state", "many", "drawn"]
def f8 : Fn := ⟨2, 3,
  [.ifs (.cmp .gt (.idx (.var 0) (.ci 1)) (.ci 0))
    [.asg (.g (.nm 2)) (.bin .mod (.idx (.var 0) (.ci 1)) (.var 1)),
    .asg (.sub (.var 0) (.ci 1)) (.bin .div (.idx (.var 0) (.ci 1)) (.var 1)),
    .ret (.var 2)]
    [],
  .asg (.sub (.var 0) (.ci 0)) (.bin .mod (.bin .add (.bin .mul (.idx (.var 0) (.ci 0)) (.ci 48271)) (.ci 8191)) (.ci 2147483647)),
  .ret (.bin .mod (.bin .div (.idx (.var 0) (.ci 0)) (.ci 16)) (.var 1))]⟩
def N9 : List Str := ["state", "others", "letters", "barred", "word", "k", "letter"]
def f9 : Fn := ⟨2, 7,
  [.asg (.g (.nm 2)) (.cs "abcdefghijklmnopqrstuvwxyz"),
  .asg (.g (.nm 3)) (.bin .add (.var 1) (.lst [.cs "no", .cs "not", .cs "and", .cs "or", .cs "so", .cs "all", .cs "some"])),
  .asg (.g (.nm 4)) (.cs ""),
  .for_ (.nm 5) (.rng [.bin .add (.ci 1) (.bin .mul (.call 8 [.var 0, .ci 2] .val) (.call 8 [.var 0, .ci 8] .val))])
    [.asg (.g (.nm 4)) (.bin .add (.var 4) (.idx (.var 2) (.call 8 [.var 0, .ci 26] .val)))],
  .ifs (.cmp .in_ (.var 4) (.var 3))
    [.asg (.g (.nm 4)) (.idx (.lc (.var 6) (.nm 6) (.str (.var 2)) [.cmp .nin (.var 6) (.var 3)] [6]) (.ci 0))]
    [],
  .ret (.var 4)]⟩
def N10 : List Str := ["state", "taken", "kinds", "k", "name", "told", "makers", "j", "maker", "takes", "i", "some", "kind"]
def f10 : Fn := ⟨2, 13,
  [.asg (.g (.nm 2)) (.lst []),
  .for_ (.nm 3) (.rng [.bin .add (.ci 1) (.call 8 [.var 0, .ci 4] .val)])
    [.asg (.g (.nm 4)) (.call 9 [.var 0, .var 1] .val),
    .exp (.bm .append (.var 1) [.var 4]),
    .asg (.g (.nm 5)) (.lc (.idx (.var 12) (.ci 0)) (.nm 12) (.seq (.var 2)) [.cmp .ne (.idx (.var 12) (.ci 1)) (.lst [])] [12]),
    .asg (.g (.nm 6)) (.lst []),
    .for_ (.nm 7) (.rng [.call 8 [.var 0, .ci 4] .val])
      [.asg (.g (.nm 8)) (.call 9 [.var 0, .var 1] .val),
      .exp (.bm .append (.var 1) [.var 8]),
      .asg (.g (.nm 9)) (.lst []),
      .for_ (.nm 10) (.rng [.call 8 [.var 0, .ci 3] .val])
        [.asg (.g (.nm 11)) (.bin .add (.var 5) (.bin .mul (.lst [.var 4]) (.bi .min2 [.var 7, .ci 1]))),
        .ifs (.cmp .ne (.var 11) (.lst []))
          [.exp (.bm .append (.var 9) [.idx (.var 11) (.call 8 [.var 0, .bi .len [.var 11]] .val)])]
          []],
      .exp (.bm .append (.var 6) [.tup [.var 8, .var 9]])],
    .exp (.bm .append (.var 2) [.tup [.var 4, .var 6]])],
  .ret (.var 2)]⟩
def N11 : List Str := ["state", "kinds", "taken", "works", "k", "name", "takes", "j"]
def f11 : Fn := ⟨3, 8,
  [.asg (.g (.nm 3)) (.lst []),
  .for_ (.nm 4) (.rng [.call 8 [.var 0, .ci 5] .val])
    [.asg (.g (.nm 5)) (.call 9 [.var 0, .var 2] .val),
    .exp (.bm .append (.var 2) [.var 5]),
    .asg (.g (.nm 6)) (.lc (.idx (.idx (.var 1) (.call 8 [.var 0, .bi .len [.var 1]] .val)) (.ci 0)) (.nm 7) (.rng [.call 8 [.var 0, .ci 4] .val]) [] [7]),
    .exp (.bm .append (.var 3) [.tup [.var 5, .var 6, .idx (.idx (.var 1) (.call 8 [.var 0, .bi .len [.var 1]] .val)) (.ci 0), .cn, .lst []]])],
  .ret (.var 3)]⟩
def N12 : List Str := ["kinds", "works", "makes", "kind", "makers", "maker", "takes", "work"]
def f12 : Fn := ⟨2, 8,
  [.asg (.g (.nm 2)) (.dnew .k),
  .for_ (.tup [.nm 3, .nm 4]) (.seq (.var 0))
    [.for_ (.tup [.nm 5, .nm 6]) (.seq (.var 4))
      [.asg (.sub (.var 2) (.var 5)) (.tup [.var 6, .var 3])]],
  .for_ (.nm 7) (.seq (.var 1))
    [.asg (.sub (.var 2) (.idx (.var 7) (.ci 0))) (.tup [.idx (.var 7) (.ci 1), .idx (.var 7) (.ci 2)])],
  .ret (.var 2)]⟩
def N13 : List Str := ["state", "taken", "kinds", "works"]
def f13 : Fn := ⟨1, 4,
  [.asg (.g (.nm 1)) (.lst []),
  .asg (.g (.nm 2)) (.call 10 [.var 0, .var 1] .val),
  .asg (.g (.nm 3)) (.call 11 [.var 0, .var 2, .var 1] .val),
  .ret (.tup [.var 2, .var 3])]⟩
def N14 : List Str := ["state", "makes", "kind", "names", "around", "deep", "leaves", "made", "f", "parts", "k", "x", "one"]
def f14 : Fn := ⟨6, 13,
  [.asg (.g (.nm 6)) (.lc (.tup [.cs "bound", .var 10]) (.nm 10) (.rng [.bi .len [.var 4]]) [.cmp .eq (.idx (.var 4) (.var 10)) (.var 2)] [10]),
  .asg (.g (.nm 6)) (.bin .add (.var 6) (.lc (.tup [.cs "name", .var 11, .var 2]) (.nm 11) (.seq (.var 3)) [] [11])),
  .asg (.g (.nm 7)) (.lc (.var 8) (.nm 8) (.keys (.var 1)) [.cmp .eq (.idx (.idx (.var 1) (.var 8)) (.ci 1)) (.var 2)] [8]),
  .ifs (.and_ [.cmp .ne (.var 7) (.lst []), .cmp .gt (.var 5) (.ci 0), .cmp .gt (.call 8 [.var 0, .ci 3] .val) (.ci 0)])
    [.asg (.g (.nm 8)) (.idx (.var 7) (.call 8 [.var 0, .bi .len [.var 7]] .val)),
    .asg (.g (.nm 9)) (.lc (.call 14 [.var 0, .var 1, .var 12, .var 3, .var 4, .bin .sub (.var 5) (.ci 1)] .val) (.nm 12) (.seq (.idx (.idx (.var 1) (.var 8)) (.ci 0))) [] [12]),
    .ret (.tup [.cs "made", .var 8, .bi .tuple [.var 9]])]
    [],
  .ret (.idx (.var 6) (.call 8 [.var 0, .bi .len [.var 6]] .val))]⟩
def N15 : List Str := ["state", "makes", "kinds", "names", "around", "deep", "most", "way", "kind", "one", "other"]
def f15 : Fn := ⟨7, 11,
  [.asg (.g (.nm 7)) (.call 8 [.var 0, .ci 9] .val),
  .ifs (.cmp .eq (.var 7) (.ci 0))
    [.ret (.tup [.cs "no"])]
    [],
  .asg (.g (.nm 8)) (.idx (.var 2) (.call 8 [.var 0, .bi .len [.var 2]] .val)),
  .ifs (.or_ [.cmp .lt (.var 7) (.ci 3), .cmp .eq (.var 5) (.ci 0)])
    [.asg (.g (.nm 9)) (.call 14 [.var 0, .var 1, .var 8, .var 3, .var 4, .var 6] .val),
    .ret (.tup [.cs "same", .var 9, .call 14 [.var 0, .var 1, .var 8, .var 3, .var 4, .var 6] .val])]
    [],
  .ifs (.cmp .eq (.var 7) (.ci 3))
    [.ret (.tup [.cs "not", .call 15 [.var 0, .var 1, .var 2, .var 3, .var 4, .bin .sub (.var 5) (.ci 1), .var 6] .val])]
    [],
  .ifs (.cmp .lt (.var 7) (.ci 7))
    [.asg (.g (.nm 9)) (.call 15 [.var 0, .var 1, .var 2, .var 3, .var 4, .bin .sub (.var 5) (.ci 1), .var 6] .val),
    .asg (.g (.nm 10)) (.call 15 [.var 0, .var 1, .var 2, .var 3, .var 4, .bin .sub (.var 5) (.ci 1), .var 6] .val),
    .ret (.tup [.idx (.lst [.cs "and", .cs "or", .cs "so"]) (.bin .sub (.var 7) (.ci 4)), .var 9, .var 10])]
    [],
  .ret (.tup [.idx (.lst [.cs "all", .cs "some"]) (.bin .sub (.var 7) (.ci 7)), .var 8, .call 15 [.var 0, .var 1, .var 2, .var 3, .bin .add (.lst [.var 8]) (.var 4), .bin .sub (.var 5) (.ci 1), .var 6] .val])]⟩
def N16 : List Str := ["thing", "around", "word", "part"]
def f16 : Fn := ⟨2, 4,
  [.asg (.g (.nm 2)) (.idx (.var 0) (.ci 0)),
  .ifs (.cmp .eq (.var 2) (.cs "bound"))
    [.ret (.tup [.cs "var", .idx (.var 1) (.idx (.var 0) (.ci 1))])]
    [],
  .ifs (.cmp .eq (.var 2) (.cs "name"))
    [.ret (.var 0)]
    [],
  .ifs (.cmp .eq (.var 2) (.cs "made"))
    [.ret (.tup [.cs "made", .idx (.var 0) (.ci 1), .bi .tuple [.lc (.call 16 [.var 3, .var 1] .val) (.nm 3) (.seq (.idx (.var 0) (.ci 2))) [] [3]]])]
    [],
  .ifs (.cmp .in_ (.var 2) (.lst [.cs "all", .cs "some"]))
    [.ret (.tup [.var 2, .idx (.var 0) (.ci 1), .bi .len [.var 1], .call 16 [.idx (.var 0) (.ci 2), .bin .add (.lst [.bi .len [.var 1]]) (.var 1)] .val])]
    [],
  .ret (.bin .add (.tup [.var 2]) (.bi .tuple [.lc (.call 16 [.var 3, .var 1] .val) (.nm 3) (.seq (.slc (.var 0) (some (.ci 1)) none)) [] [3]]))]⟩
def N17 : List Str := ["thing", "old", "new", "part"]
def f17 : Fn := ⟨3, 4,
  [.ifs (.cmp .eq (.var 0) (.var 1))
    [.ret (.var 2)]
    [],
  .ifs (.cmp .in_ (.idx (.var 0) (.ci 0)) (.lst [.cs "var", .cs "name"]))
    [.ret (.var 0)]
    [],
  .ifs (.cmp .eq (.idx (.var 0) (.ci 0)) (.cs "made"))
    [.ret (.tup [.cs "made", .idx (.var 0) (.ci 1), .bi .tuple [.lc (.call 17 [.var 3, .var 1, .var 2] .val) (.nm 3) (.seq (.idx (.var 0) (.ci 2))) [] [3]]])]
    [],
  .ifs (.cmp .in_ (.idx (.var 0) (.ci 0)) (.lst [.cs "all", .cs "some"]))
    [.ret (.tup [.idx (.var 0) (.ci 0), .idx (.var 0) (.ci 1), .idx (.var 0) (.ci 2), .call 17 [.idx (.var 0) (.ci 3), .var 1, .var 2] .val])]
    [],
  .ret (.bin .add (.tup [.idx (.var 0) (.ci 0)]) (.bi .tuple [.lc (.call 17 [.var 3, .var 1, .var 2] .val) (.nm 3) (.seq (.slc (.var 0) (some (.ci 1)) none)) [] [3]]))]⟩
def N18 : List Str := ["thing", "around", "word", "part"]
def f18 : Fn := ⟨2, 4,
  [.asg (.g (.nm 2)) (.idx (.var 0) (.ci 0)),
  .ifs (.cmp .eq (.var 2) (.cs "var"))
    [.ret (.tup [.cs "bound", .bm .index (.var 1) [.idx (.var 0) (.ci 1)]])]
    [],
  .ifs (.cmp .eq (.var 2) (.cs "name"))
    [.ret (.var 0)]
    [],
  .ifs (.cmp .eq (.var 2) (.cs "made"))
    [.ret (.tup [.cs "made", .idx (.var 0) (.ci 1), .bi .tuple [.lc (.call 18 [.var 3, .var 1] .val) (.nm 3) (.seq (.idx (.var 0) (.ci 2))) [] [3]]])]
    [],
  .ifs (.cmp .in_ (.var 2) (.lst [.cs "all", .cs "some"]))
    [.ret (.tup [.var 2, .idx (.var 0) (.ci 1), .call 18 [.idx (.var 0) (.ci 3), .bin .add (.lst [.idx (.var 0) (.ci 2)]) (.var 1)] .val])]
    [],
  .ret (.bin .add (.tup [.var 2]) (.bi .tuple [.lc (.call 18 [.var 3, .var 1] .val) (.nm 3) (.seq (.slc (.var 0) (some (.ci 1)) none)) [] [3]]))]⟩
def N19 : List Str := ["thing", "found", "part"]
def f19 : Fn := ⟨1, 3,
  [.ifs (.cmp .eq (.idx (.var 0) (.ci 0)) (.cs "name"))
    [.ret (.lst [.tup [.idx (.var 0) (.ci 1), .idx (.var 0) (.ci 2)]])]
    [],
  .asg (.g (.nm 1)) (.lst []),
  .for_ (.nm 2) (.seq (.slc (.var 0) (some (.ci 1)) none))
    [.ifs (.and_ [.isi (.var 2) .tuple, .cmp .ne (.var 2) (.tup []), .cmp .ne (.idx (.var 0) (.ci 0)) (.cs "made")])
      [.asg (.g (.nm 1)) (.bin .add (.var 1) (.call 19 [.var 2] .val))]
      []],
  .ifs (.cmp .eq (.idx (.var 0) (.ci 0)) (.cs "made"))
    [.for_ (.nm 2) (.seq (.idx (.var 0) (.ci 2)))
      [.asg (.g (.nm 1)) (.bin .add (.var 1) (.call 19 [.var 2] .val))]]
    [],
  .ret (.var 1)]⟩
def N20 : List Str := ["body", "kind", "term", "x", "called", "saying"]
def f20 : Fn := ⟨4, 6,
  [.asg (.g (.nm 4)) (.call 16 [.var 0, .lst [.ci 0]] .val),
  .asg (.g (.nm 5)) (.call 1 [.var 0, .var 2] .val),
  .ifs (.cmp .ne (.var 5) (.call 18 [.call 17 [.var 4, .tup [.cs "var", .ci 0], .var 2] .val, .lst []] .val))
    [.ret (.cb false)]
    [],
  .asg (.g (.nm 4)) (.call 16 [.var 5, .lst [.ci 0]] .val),
  .ifs (.cmp .ne (.call 2 [.var 5, .var 3, .var 1] .val) (.call 18 [.call 17 [.var 4, .tup [.cs "name", .var 3, .var 1], .tup [.cs "var", .ci 0]] .val, .lst [.ci 0]] .val))
    [.ret (.cb false)]
    [],
  .ifs (.cmp .ne (.call 3 [.var 5, .var 3, .var 1, .var 2] .val) (.call 18 [.call 17 [.var 4, .tup [.cs "name", .var 3, .var 1], .var 2] .val, .lst [.ci 0]] .val))
    [.ret (.cb false)]
    [],
  .ret (.cmp .eq (.call 2 [.call 1 [.var 0, .tup [.cs "name", .cs "strange", .var 1]] .val, .cs "strange", .var 1] .val) (.var 0))]⟩
def N21 : List Str := ["sayings", "found", "due", "saying"]
def f21 : Fn := ⟨1, 4,
  [.asg (.g (.nm 1)) (.call 5 [.var 0] .own),
  .asg (.g (.nm 2)) (.lst []),
  .for_ (.nm 3) (.seq (.var 0))
    [.asg (.g (.nm 2)) (.bin .add (.var 2) (.call 19 [.var 3] .val))],
  .ifs (.or_ [.not_ (.isi (.var 1) .list), .cmp .ne (.var 1) (.bi .sortedSet [.var 2])])
    [.ret (.cb false)]
    [],
  .exp (.bm .append (.var 1) [.tup [.cs "x", .cs "x"]]),
  .ret (.cmp .eq (.call 5 [.var 0] .own) (.bi .sortedSet [.var 2]))]⟩
def N22 : List Str := ["script", "state", "ground", "makes", "kinds", "words", "before", "cell", "line", "kind", "most", "names", "body", "term", "saying", "word"]
def f22 : Fn := ⟨1, 16,
  [.asg (.g (.nm 1)) (.call 7 [.call 6 [.var 0, .ci 0] .val] .own),
  .asg (.g (.nm 2)) (.call 13 [.var 1] .val),
  .asg (.g (.nm 3)) (.call 12 [.idx (.var 2) (.ci 0), .idx (.var 2) (.ci 1)] .val),
  .asg (.g (.nm 4)) (.lc (.idx (.var 9) (.ci 0)) (.nm 9) (.seq (.idx (.var 2) (.ci 0))) [] [9]),
  .asg (.g (.nm 5)) (.bin .add (.lst [.cs "zzz"]) (.lc (.var 15) (.nm 15) (.seq (.bin .add (.var 4) (.bi .listD [.var 3]))) [.cmp .ne (.var 15) (.cs "strange")] [15])),
  .asg (.g (.nm 6)) (.tup [.cs "no"]),
  .for_ (.nm 7) (.seq (.bin .add (.lst [.ci 5, .ci 8]) (.slc (.var 0) (some (.ci 1)) (some (.ci 40)))))
    [.asg (.g (.nm 8)) (.call 7 [.var 7] .own),
    .asg (.g (.nm 9)) (.idx (.var 4) (.call 8 [.var 8, .bi .len [.var 4]] .val)),
    .asg (.g (.nm 10)) (.bin .add (.ci 1) (.call 8 [.var 8, .ci 2] .val)),
    .asg (.g (.nm 11)) (.lst [.cs "x", .cs "yy", .idx (.var 5) (.call 8 [.var 8, .bi .len [.var 5]] .val)]),
    .asg (.g (.nm 12)) (.call 15 [.var 8, .var 3, .var 4, .var 11, .lst [.var 9], .bin .sub (.ci 3) (.var 10), .var 10] .val),
    .asg (.g (.nm 13)) (.call 14 [.var 8, .var 3, .var 9, .var 11, .lst [], .call 8 [.var 8, .ci 2] .val] .val),
    .ifs (.not_ (.call 20 [.var 12, .var 9, .var 13, .idx (.var 11) (.call 8 [.var 8, .ci 3] .val)] .val))
      [.ret (.cb false)]
      [],
    .asg (.g (.nm 14)) (.call 1 [.var 12, .var 13] .val),
    .ifs (.or_ [.not_ (.call 21 [.lst [.var 14]] .val), .not_ (.call 21 [.lst [.var 6, .var 14, .var 6]] .val), .cmp .ne (.call 5 [.lst []] .own) (.lst [])])
      [.ret (.cb false)]
      [],
    .asg (.g (.nm 6)) (.var 14)],
  .ret (.cb true)]⟩
def gcs : List D := [.tup [.str "all", .str "some"]]
def pr : Pr := ⟨[f0, f1, f2, f3, f4, f5, f6, f7, f8, f9, f10, f11, f12, f13, f14, f15, f16, f17, f18, f19, f20, f21, f22], [], gcs, []⟩
def tab : Tab := ⟨[some "exchanged", some "opened", some "shut", some "put_in", some "names_within", some "free_in", some "_law_seed", some "_law_state", some "_law_draw", some "_law_word", some "_law_kinds", some "_law_works", some "_law_makes", some "_law_drawn_ground", some "_law_term", some "_law_saying", some "_law_named", some "_law_exchanged", some "_law_unnamed", some "_law_free", some "_law_right", some "_law_free_right", some "law"], ["BINDERS"]⟩
theorem ck0 : chkSs tab f0.body ⟨N0, defScope (top 2), none⟩ (defBody (top 2)) = true := by decide +kernel
theorem sc0 : FnScope N0 ["thing", "what", "by", "deep"] (defScope (top 2)) := ⟨rfl, rfl, rfl, by decide +kernel, rfl, by decide +kernel, by decide +kernel⟩
theorem ck1 : chkSs tab f1.body ⟨N1, defScope (top 3), none⟩ (defBody (top 3)) = true := by decide +kernel
theorem sc1 : FnScope N1 ["body", "term"] (defScope (top 3)) := ⟨rfl, rfl, rfl, by decide +kernel, rfl, by decide +kernel, by decide +kernel⟩
theorem ck2 : chkSs tab f2.body ⟨N2, defScope (top 4), none⟩ (defBody (top 4)) = true := by decide +kernel
theorem sc2 : FnScope N2 ["saying", "x", "kind"] (defScope (top 4)) := ⟨rfl, rfl, rfl, by decide +kernel, rfl, by decide +kernel, by decide +kernel⟩
theorem ck3 : chkSs tab f3.body ⟨N3, defScope (top 5), none⟩ (defBody (top 5)) = true := by decide +kernel
theorem sc3 : FnScope N3 ["saying", "x", "kind", "term"] (defScope (top 5)) := ⟨rfl, rfl, rfl, by decide +kernel, rfl, by decide +kernel, by decide +kernel⟩
theorem ck4 : chkSs tab f4.body ⟨N4, defScope (top 6), none⟩ (defBody (top 6)) = true := by decide +kernel
theorem sc4 : FnScope N4 ["thing"] (defScope (top 6)) := ⟨rfl, rfl, rfl, by decide +kernel, rfl, by decide +kernel, by decide +kernel⟩
theorem ck5 : chkSs tab f5.body ⟨N5, defScope (top 7), none⟩ (defBody (top 7)) = true := by decide +kernel
theorem sc5 : FnScope N5 ["sayings"] (defScope (top 7)) := ⟨rfl, rfl, rfl, by decide +kernel, rfl, by decide +kernel, by decide +kernel⟩
theorem ck6 : chkSs tab f6.body ⟨N6, defScope (top 9), none⟩ (defBody (top 9)) = true := by decide +kernel
theorem sc6 : FnScope N6 ["script", "k"] (defScope (top 9)) := ⟨rfl, rfl, rfl, by decide +kernel, rfl, by decide +kernel, by decide +kernel⟩
theorem ck7 : chkSs tab f7.body ⟨N7, defScope (top 10), none⟩ (defBody (top 10)) = true := by decide +kernel
theorem sc7 : FnScope N7 ["cell"] (defScope (top 10)) := ⟨rfl, rfl, rfl, by decide +kernel, rfl, by decide +kernel, by decide +kernel⟩
theorem ck8 : chkSs tab f8.body ⟨N8, defScope (top 11), none⟩ (defBody (top 11)) = true := by decide +kernel
theorem sc8 : FnScope N8 ["state", "many"] (defScope (top 11)) := ⟨rfl, rfl, rfl, by decide +kernel, rfl, by decide +kernel, by decide +kernel⟩
theorem ck9 : chkSs tab f9.body ⟨N9, defScope (top 12), none⟩ (defBody (top 12)) = true := by decide +kernel
theorem sc9 : FnScope N9 ["state", "others"] (defScope (top 12)) := ⟨rfl, rfl, rfl, by decide +kernel, rfl, by decide +kernel, by decide +kernel⟩
theorem ck10 : chkSs tab f10.body ⟨N10, defScope (top 13), none⟩ (defBody (top 13)) = true := by decide +kernel
theorem sc10 : FnScope N10 ["state", "taken"] (defScope (top 13)) := ⟨rfl, rfl, rfl, by decide +kernel, rfl, by decide +kernel, by decide +kernel⟩
theorem ck11 : chkSs tab f11.body ⟨N11, defScope (top 14), none⟩ (defBody (top 14)) = true := by decide +kernel
theorem sc11 : FnScope N11 ["state", "kinds", "taken"] (defScope (top 14)) := ⟨rfl, rfl, rfl, by decide +kernel, rfl, by decide +kernel, by decide +kernel⟩
theorem ck12 : chkSs tab f12.body ⟨N12, defScope (top 15), none⟩ (defBody (top 15)) = true := by decide +kernel
theorem sc12 : FnScope N12 ["kinds", "works"] (defScope (top 15)) := ⟨rfl, rfl, rfl, by decide +kernel, rfl, by decide +kernel, by decide +kernel⟩
theorem ck13 : chkSs tab f13.body ⟨N13, defScope (top 16), none⟩ (defBody (top 16)) = true := by decide +kernel
theorem sc13 : FnScope N13 ["state"] (defScope (top 16)) := ⟨rfl, rfl, rfl, by decide +kernel, rfl, by decide +kernel, by decide +kernel⟩
theorem ck14 : chkSs tab f14.body ⟨N14, defScope (top 17), none⟩ (defBody (top 17)) = true := by decide +kernel
theorem sc14 : FnScope N14 ["state", "makes", "kind", "names", "around", "deep"] (defScope (top 17)) := ⟨rfl, rfl, rfl, by decide +kernel, rfl, by decide +kernel, by decide +kernel⟩
theorem ck15 : chkSs tab f15.body ⟨N15, defScope (top 18), none⟩ (defBody (top 18)) = true := by decide +kernel
theorem sc15 : FnScope N15 ["state", "makes", "kinds", "names", "around", "deep", "most"] (defScope (top 18)) := ⟨rfl, rfl, rfl, by decide +kernel, rfl, by decide +kernel, by decide +kernel⟩
theorem ck16 : chkSs tab f16.body ⟨N16, defScope (top 19), none⟩ (defBody (top 19)) = true := by decide +kernel
theorem sc16 : FnScope N16 ["thing", "around"] (defScope (top 19)) := ⟨rfl, rfl, rfl, by decide +kernel, rfl, by decide +kernel, by decide +kernel⟩
theorem ck17 : chkSs tab f17.body ⟨N17, defScope (top 20), none⟩ (defBody (top 20)) = true := by decide +kernel
theorem sc17 : FnScope N17 ["thing", "old", "new"] (defScope (top 20)) := ⟨rfl, rfl, rfl, by decide +kernel, rfl, by decide +kernel, by decide +kernel⟩
theorem ck18 : chkSs tab f18.body ⟨N18, defScope (top 21), none⟩ (defBody (top 21)) = true := by decide +kernel
theorem sc18 : FnScope N18 ["thing", "around"] (defScope (top 21)) := ⟨rfl, rfl, rfl, by decide +kernel, rfl, by decide +kernel, by decide +kernel⟩
theorem ck19 : chkSs tab f19.body ⟨N19, defScope (top 22), none⟩ (defBody (top 22)) = true := by decide +kernel
theorem sc19 : FnScope N19 ["thing"] (defScope (top 22)) := ⟨rfl, rfl, rfl, by decide +kernel, rfl, by decide +kernel, by decide +kernel⟩
theorem ck20 : chkSs tab f20.body ⟨N20, defScope (top 23), none⟩ (defBody (top 23)) = true := by decide +kernel
theorem sc20 : FnScope N20 ["body", "kind", "term", "x"] (defScope (top 23)) := ⟨rfl, rfl, rfl, by decide +kernel, rfl, by decide +kernel, by decide +kernel⟩
theorem ck21 : chkSs tab f21.body ⟨N21, defScope (top 24), none⟩ (defBody (top 24)) = true := by decide +kernel
theorem sc21 : FnScope N21 ["sayings"] (defScope (top 24)) := ⟨rfl, rfl, rfl, by decide +kernel, rfl, by decide +kernel, by decide +kernel⟩
theorem ck22 : chkSs tab f22.body ⟨N22, defScope (top 25), none⟩ (defBody (top 25)) = true := by decide +kernel
theorem sc22 : FnScope N22 ["script"] (defScope (top 25)) := ⟨rfl, rfl, rfl, by decide +kernel, rfl, by decide +kernel, by decide +kernel⟩
end K32

/-! k32: sayings as plain data, and what the pure defs compute -/
namespace K32
open PySem PI
inductive W6 | no | same | nt | an | or | so
  deriving DecidableEq
def W6.s : W6 → Str
  | .no => "no"
  | .same => "same"
  | .nt => "not"
  | .an => "and"
  | .or => "or"
  | .so => "so"
def qs (b : Bool) : Str := if b = true then "all" else "some"
inductive Th
  | nm (x k : Str)
  | bd (i : Nat)
  | vr (i : Nat)
  | mk (f : Str) (ts : List Th)
  | qt (w : Bool) (k : Str) (t : Th)
  | qn (w : Bool) (k : Str) (l : Nat) (t : Th)
  | op (w : W6) (ts : List Th)
  deriving Inhabited
mutual
def en : Th → D
  | .nm x k => .tup [.str "name", .str x, .str k]
  | .bd i => .tup [.str "bound", .int (i : Nat)]
  | .vr i => .tup [.str "var", .int (i : Nat)]
  | .mk f ts => .tup [.str "made", .str f, .tup (enL ts)]
  | .qt w k t => .tup [.str (qs w), .str k, en t]
  | .qn w k l t => .tup [.str (qs w), .str k, .int (l : Nat), en t]
  | .op w ts => .tup (.str w.s :: enL ts)
def enL : List Th → List D
  | [] => []
  | t :: ts => en t :: enL ts
end
theorem enL_map : ∀ ts : List Th, enL ts = ts.map en
  | [] => rfl
  | t :: ts => by rw [enL, enL_map ts]; rfl
mutual
def ht : Th → Nat
  | .mk _ ts => htL ts + 1
  | .qt _ _ t => ht t + 1
  | .qn _ _ _ t => ht t + 1
  | .op _ ts => htL ts + 1
  | _ => 1
def htL : List Th → Nat
  | [] => 0
  | t :: ts => max (ht t) (htL ts)
end
mutual
theorem en_solid : ∀ t : Th, closed 0 (en t) = true
  | .nm _ _ => rfl
  | .bd _ => rfl
  | .vr _ => rfl
  | .mk f ts => by simp [en, closed, closedL, enL_solid ts]
  | .qt w k t => by simp [en, closed, closedL, en_solid t]
  | .qn w k l t => by simp [en, closed, closedL, en_solid t]
  | .op w ts => by simp [en, closed, closedL, enL_solid ts]
theorem enL_solid : ∀ ts : List Th, closedL 0 (enL ts) = true
  | [] => rfl
  | t :: ts => by simp [enL, closedL, en_solid t, enL_solid ts]
end
/-! ### as data of the library, for == -/
mutual
def pd : Th → PyData
  | .nm x k => .tuple [.str "name", .str x, .str k]
  | .bd i => .tuple [.str "bound", .int (i : Nat)]
  | .vr i => .tuple [.str "var", .int (i : Nat)]
  | .mk f ts => .tuple [.str "made", .str f, .tuple (pdL ts)]
  | .qt w k t => .tuple [.str (qs w), .str k, pd t]
  | .qn w k l t => .tuple [.str (qs w), .str k, .int (l : Nat), pd t]
  | .op w ts => .tuple (.str w.s :: pdL ts)
def pdL : List Th → List PyData
  | [] => []
  | t :: ts => pd t :: pdL ts
end
mutual
theorem py_en (g : Nat → Option PyData) : ∀ t : Th, pyW g (en t) = some (pd t)
  | .nm _ _ => rfl
  | .bd _ => rfl
  | .vr _ => rfl
  | .mk f ts => by simp [en, pyW, pyL, py_enL g ts, pd]
  | .qt w k t => by simp [en, pyW, pyL, py_en g t, pd]
  | .qn w k l t => by simp [en, pyW, pyL, py_en g t, pd]
  | .op w ts => by simp [en, pyW, pyL, py_enL g ts, pd]
theorem py_enL (g : Nat → Option PyData) : ∀ ts : List Th, pyL g (enL ts) = some (pdL ts)
  | [] => rfl
  | t :: ts => by simp [enL, pyL, py_en g t, py_enL g ts, pdL]
end
mutual
theorem pd_depth : ∀ t : Th, (pd t).depth ≤ 2 * ht t
  | .nm _ _ => by simp [pd, PyData.depth, PyData.depthAll, ht]
  | .bd _ => by simp [pd, PyData.depth, PyData.depthAll, ht]
  | .vr _ => by simp [pd, PyData.depth, PyData.depthAll, ht]
  | .mk f ts => by
    have := pdL_depth ts
    simp [pd, PyData.depth, PyData.depthAll, ht]
    omega
  | .qt w k t => by
    have := pd_depth t
    simp [pd, PyData.depth, PyData.depthAll, ht]
    omega
  | .qn w k l t => by
    have := pd_depth t
    simp [pd, PyData.depth, PyData.depthAll, ht]
    omega
  | .op w ts => by
    have := pdL_depth ts
    simp [pd, PyData.depth, PyData.depthAll, ht]
    omega
theorem pdL_depth : ∀ ts : List Th, PyData.depthAll (pdL ts) ≤ 2 * htL ts
  | [] => by simp [pdL, PyData.depthAll, htL]
  | t :: ts => by
    have h1 := pd_depth t
    have h2 := pdL_depth ts
    simp [pdL, PyData.depthAll, htL]
    omega
end
theorem s_ne {a b : Str} (h : a ≠ b) : (a == b) = false := by simpa using h
theorem qs_inj {a b : Bool} : (qs a == qs b) = (a == b) := by cases a <;> cases b <;> decide
theorem ws_inj (a b : W6) : (a.s == b.s) = decide (a = b) := by cases a <;> cases b <;> decide
theorem w_q (a : W6) (b : Bool) : (a.s == qs b) = false ∧ (qs b == a.s) = false := by cases a <;> cases b <;> decide
/-- == of things -/
theorem eq_head (a b : Str) (xs ys : List PyData) : (PyData.tuple (.str a :: xs)).eqv (.tuple (.str b :: ys)) = (a == b && PyData.eqvAll xs ys) := by
  rw [PyData.eqv, PyData.eqvAll, PyData.eqv]
theorem eqv_bd (t : Th) (j : Nat) : (pd t).eqv (pd (.bd j)) = (match t with | .bd i => i == j | _ => false) := by
  cases t with
  | bd i =>
    rw [pd, pd, eq_head, PyData.eqvAll, PyData.eqvAll, PyData.eqv]
    by_cases e : i = j
    · subst e; simp
    · have : ((i : Int) == (j : Int)) = false := by simp; omega
      rw [this]
      simp [e]
  | nm x k => rw [pd, pd, eq_head]; rfl
  | vr i => rw [pd, pd, eq_head]; rfl
  | mk f ts => rw [pd, pd, eq_head]; rfl
  | qt w k t => rw [pd, pd, eq_head]; cases w <;> rfl
  | qn w k l t => rw [pd, pd, eq_head]; cases w <;> rfl
  | op w ts => rw [pd, pd, eq_head]; cases w <;> rfl
theorem eqv_vr (t : Th) (j : Nat) : (pd t).eqv (pd (.vr j)) = (match t with | .vr i => i == j | _ => false) := by
  cases t with
  | vr i =>
    rw [pd, pd, eq_head, PyData.eqvAll, PyData.eqvAll, PyData.eqv]
    by_cases e : i = j
    · subst e; simp
    · have : ((i : Int) == (j : Int)) = false := by simp; omega
      rw [this]
      simp [e]
  | nm x k => rw [pd, pd, eq_head]; rfl
  | bd i => rw [pd, pd, eq_head]; rfl
  | mk f ts => rw [pd, pd, eq_head]; rfl
  | qt w k t => rw [pd, pd, eq_head]; cases w <;> rfl
  | qn w k l t => rw [pd, pd, eq_head]; cases w <;> rfl
  | op w ts => rw [pd, pd, eq_head]; cases w <;> rfl
theorem eqv_nm (t : Th) (x k : Str) : (pd t).eqv (pd (.nm x k)) = (match t with | .nm y l => y == x && l == k | _ => false) := by
  cases t with
  | nm y l =>
    rw [pd, pd, eq_head, PyData.eqvAll, PyData.eqvAll, PyData.eqvAll, PyData.eqv, PyData.eqv]
    simp
  | bd i => rw [pd, pd, eq_head]; rfl
  | vr i => rw [pd, pd, eq_head]; rfl
  | mk f ts => rw [pd, pd, eq_head]; rfl
  | qt w k t => rw [pd, pd, eq_head]; cases w <;> rfl
  | qn w k l t => rw [pd, pd, eq_head]; cases w <;> rfl
  | op w ts => rw [pd, pd, eq_head]; cases w <;> rfl
mutual
theorem eqv_same : ∀ t : Th, (pd t).eqv (pd t) = true
  | .nm x k => by simp [pd, PyData.eqv, PyData.eqvAll]
  | .bd i => by simp [pd, PyData.eqv, PyData.eqvAll]
  | .vr i => by simp [pd, PyData.eqv, PyData.eqvAll]
  | .mk f ts => by
    rw [pd, eq_head, PyData.eqvAll, PyData.eqvAll, PyData.eqvAll, PyData.eqv, PyData.eqv, eqvL_same ts]
    simp
  | .qt w k t => by
    rw [pd, eq_head, PyData.eqvAll, PyData.eqvAll, PyData.eqvAll, PyData.eqv, eqv_same t]
    simp
  | .qn w k l t => by
    rw [pd, eq_head, PyData.eqvAll, PyData.eqvAll, PyData.eqvAll, PyData.eqvAll, PyData.eqv, PyData.eqv, eqv_same t]
    simp
  | .op w ts => by
    rw [pd, eq_head, eqvL_same ts]
    simp
theorem eqvL_same : ∀ ts : List Th, PyData.eqvAll (pdL ts) (pdL ts) = true
  | [] => by rw [pdL, PyData.eqvAll]
  | t :: ts => by rw [pdL, PyData.eqvAll, eqv_same t, eqvL_same ts]; rfl
end
/-- == where one side is small -/
theorem eqM_en (μ : Mem) (a b : Th) (h : min (ht a) (ht b) ≤ 70) : eqM μ (en a) (en b) = some ((pd a).eqv (pd b)) := by
  unfold eqM py
  rw [py_en, py_en]
  dsimp only
  have h1 := pd_depth a
  have h2 := pd_depth b
  rw [if_pos (by unfold eqDeep; omega)]
theorem flat_en (t : Th) : flat (en t) = false := by cases t <;> rfl
theorem cmp_eq_en (μ : Mem) (a b : Th) (h : min (ht a) (ht b) ≤ 70) : evCmp .eq (en a) (en b) μ = .ok (.bl ((pd a).eqv (pd b))) μ := by
  unfold evCmp
  simp only [flat_en, Bool.false_and, Bool.false_eq_true, if_false, eqM_en μ a b h]
theorem cmp_ne_en (μ : Mem) (a b : Th) (h : min (ht a) (ht b) ≤ 70) : evCmp .ne (en a) (en b) μ = .ok (.bl (!(pd a).eqv (pd b))) μ := by
  unfold evCmp
  simp only [flat_en, Bool.false_and, Bool.false_eq_true, if_false, eqM_en μ a b h]
/-! ### exchanged -/
/-- what is put in, at a depth -/
def nw (by_ : Option Th) (d : Nat) : Th := by_.getD (.bd d)
def od (what : Option (Str × Str)) (d : Nat) : Th := match what with
  | some p => .nm p.1 p.2
  | none => .bd d
mutual
def ex (what : Option (Str × Str)) (by_ : Option Th) (d : Nat) : Th → Th
  | .nm x k => if what = some (x, k) then nw by_ d else .nm x k
  | .bd i => if what = none ∧ i = d then nw by_ d else .bd i
  | .mk f ts => .mk f (exL' what by_ d ts)
  | .qt w k t => .qt w k (ex what by_ (d + 1) t)
  | .op w ts => .op w (exL' what by_ d ts)
  | .vr i => .vr i
  | .qn w k l t => .qn w k l t
def exL' (what : Option (Str × Str)) (by_ : Option Th) (d : Nat) : List Th → List Th
  | [] => []
  | t :: ts => ex what by_ d t :: exL' what by_ d ts
end
mutual
/-- no levels within -/
def un : Th → Bool
  | .vr _ => false
  | .qn _ _ _ _ => false
  | .mk _ ts => unL ts
  | .op _ ts => unL ts
  | .qt _ _ t => un t
  | _ => true
def unL : List Th → Bool
  | [] => true
  | t :: ts => un t && unL ts
end
def enWhat : Option (Str × Str) → D
  | some p => .tup [.str "name", .str p.1, .str p.2]
  | none => .non
def enBy : Option Th → D
  | some t => en t
  | none => .non
/-- a call that hands back a thing and leaves all else -/
abbrev CallV (n f : Nat) (args : List D) (d : D) : Prop := ∀ μ, nrm .val μ (PI.run pr n f args μ) = .ok d μ
def hd : Th → Str
  | .nm _ _ => "name"
  | .bd _ => "bound"
  | .vr _ => "var"
  | .mk _ _ => "made"
  | .qt w _ _ => qs w
  | .qn w _ _ _ => qs w
  | .op w _ => w.s
theorem idx0 (t : Th) (μ : Mem) : evIdx (en t) (.int 0) μ = .ok (.str (hd t)) μ := by
  cases t with
  | op w ts =>
    unfold evIdx
    simp [en, dctOf, seqOf, ixOf, hd]
  | _ => rfl
theorem in2 (a b c : Str) (μ : Mem) : evCmp .in_ (.str a) (.tup [.str b, .str c]) μ = .ok (.bl (b == a || c == a)) μ := by
  unfold evCmp evIn
  dsimp only
  unfold dctOf seqOf inSeq
  simp [flat, eqF]
theorem eqs (a b : Str) (μ : Mem) : evCmp .eq (.str a) (.str b) μ = .ok (.bl (a == b)) μ := by
  unfold evCmp
  simp [flat, eqF]
theorem non_en (t : Th) : isNon (en t) = false := by cases t <;> rfl
theorem non_non : isNon .non = true := rfl
theorem e_gl0 (C : Calls) (σ : PI.Env) (μ : Mem) : evE pr C (.gl 0) σ μ = .ok (.tup [.str "all", .str "some"]) μ := by rw [evE]; rfl
theorem add_int (i j : Int) (μ : Mem) : evBin .add (.int i) (.int j) μ = .ok (.int (i + j)) μ := rfl
theorem add_tup {xs ys : List D} {μ : Mem} (h : xs.length + ys.length ≤ lim) : evBin .add (.tup xs) (.tup ys) μ = .ok (.tup (xs ++ ys)) μ := by
  show (if xs.length + ys.length ≤ lim then _ else _) = _
  rw [if_pos h]
theorem f0_start (t : Th) (what : Option (Str × Str)) (by_ : Option Th) (d : Nat) (C : Calls) (μ : Mem) : exL pr C f0.body [some (en t), some (enWhat what), some (enBy by_), some (.int (d : Nat)), none, none, none] μ =
    exL pr C (f0.body.drop 4) [some (en t), some (enWhat what), some (enBy by_), some (.int (d : Nat)), some (en (od what d)), some (en (nw by_ d)), none] μ := by
  have h1 : ∀ p : Str × Str, isNon (D.tup [.str "name", .str p.1, .str p.2]) = false := fun _ => rfl
  cases what <;> cases by_ <;> (simp only [f0, List.drop, enWhat, enBy, non_en, non_non, h1, bind_ok, into_ok, seq_nx, seq_rt, seq_bk, seq_ct, out_rt, out_nx, vrD_ok, tup1, tup2, tup3, tup4, tup5, lst0, lst1, lst2, lst3, chB_t, chB_f, okB_some, tr_bl, setK_ok, kOk_eq, notK_eq, isNK_eq, notNK_eq, intO_ok, seqK_eq, strK_eq, rngK_eq, dctK_eq, consK_eq, someK_eq, noneK_eq, subK_ok, dropK_eq, retK_eq, asgK_eq, asgTK_eq, sub3_eq, binK_eq, cmpK_eq, idxK_eq, slcK2_eq, slcK_eq, ifK_eq, callK_eq, lK_eq, andK_eq, orK_eq, eltK_eq, allK_eq, lcK_eq, sub2_eq, sub1_eq, ifS_eq, forK_eq, e_var, e_ci, e_cs, e_cb, e_cn, e_not, e_isN, e_notN, e_bin, e_cmp, e_ifx, e_tup, e_lst, e_dnew, e_idx, e_slc, e_call, e_bi, e_isi, e_bm, e_lc, l_nil, l_cons, o_none, o_some, and_one, and_two, or_one, or_two, all_nil, all_one, trB_bl, i_seq, i_str, i_rng, i_keys, i_items, s_nil, s_cons, s_asg, s_asgT, s_sub, s_exp, s_ret, s_retN, s_if, s_for, List.getElem?_cons_zero, List.getElem?_cons_succ, List.set_cons_zero, List.set_cons_succ, List.length_cons, List.length_nil, Nat.reduceAdd, Nat.reduceLT, if_true, Bool.not_true, Bool.not_false]; rfl)
theorem exL_map (what : Option (Str × Str)) (by_ : Option Th) (d : Nat) : ∀ ts : List Th, exL' what by_ d ts = ts.map (ex what by_ d)
  | [] => rfl
  | t :: ts => by rw [exL', exL_map what by_ d ts]; rfl
theorem ht_mem {t : Th} : ∀ {ts : List Th}, t ∈ ts → ht t ≤ htL ts
  | x :: ts, h => by
    rw [htL]
    rcases List.mem_cons.mp h with e | h
    · rw [e]; omega
    · have := ht_mem h
      omega
theorem un_mem {t : Th} : ∀ {ts : List Th}, unL ts = true → t ∈ ts → un t = true
  | x :: ts, hu, h => by
    rw [unL, Bool.and_eq_true] at hu
    rcases List.mem_cons.mp h with e | h
    · rw [e]; exact hu.1
    · exact un_mem hu.2 h
/-- where it isn't what is looked for -/
def ex1 (what : Option (Str × Str)) (by_ : Option Th) (d : Nat) : Th → Th
  | .mk f ts => .mk f (ts.map (ex what by_ d))
  | .qt w k t => .qt w k (ex what by_ (d + 1) t)
  | .op w ts => .op w (ts.map (ex what by_ d))
  | t => t
theorem f0_eq (t : Th) (what : Option (Str × Str)) (by_ : Option Th) (d : Nat) (hu : un t = true) : ex what by_ d t = if (pd t).eqv (pd (od what d)) = true then nw by_ d else ex1 what by_ d t := by
  cases what with
  | none =>
    rw [od, eqv_bd]
    cases t with
    | bd i =>
      rw [ex]
      by_cases e : i = d
      · subst e; simp
      · simp [e, ex1]
    | nm x k => simp [ex, ex1]
    | mk f ts => simp [ex, ex1, exL_map]
    | qt w k t => simp [ex, ex1]
    | op w ts => simp [ex, ex1, exL_map]
    | vr i => cases hu
    | qn w k l t => cases hu
  | some p =>
    rw [od, eqv_nm]
    cases t with
    | nm x k =>
      rw [ex]
      by_cases e : some p = some (x, k)
      · rw [if_pos e]; cases e; simp
      · rw [if_neg e]
        have : (x == p.1 && k == p.2) = false := by
          rw [Bool.and_eq_false_iff]
          by_cases e1 : x = p.1
          · right
            simp
            intro e2
            exact e (by rw [e1, e2])
          · left
            simpa using e1
        simp [this, ex1]
    | bd i => simp [ex, ex1]
    | mk f ts => simp [ex, ex1, exL_map]
    | qt w k t => simp [ex, ex1]
    | op w ts => simp [ex, ex1, exL_map]
    | vr i => cases hu
    | qn w k l t => cases hu
mutual
/-- how many parts a thing has -/
def wd : Th → Nat
  | .mk _ ts => max ts.length (wdL ts)
  | .op _ ts => max ts.length (wdL ts)
  | .qt _ _ t => wd t
  | .qn _ _ _ t => wd t
  | _ => 0
def wdL : List Th → Nat
  | [] => 0
  | t :: ts => max (wd t) (wdL ts)
end
theorem wd_mem {t : Th} : ∀ {ts : List Th}, t ∈ ts → wd t ≤ wdL ts
  | x :: ts, h => by
    rw [wdL]
    rcases List.mem_cons.mp h with e | h
    · rw [e]; omega
    · have := wd_mem h
      omega
theorem f0_ok : ∀ (n : Nat) (t : Th) (what : Option (Str × Str)) (by_ : Option Th) (d : Nat), un t = true → ht t ≤ n → wd t ≤ 1000 → CallV n 0 [en t, enWhat what, enBy by_, .int (d : Nat)] (en (ex what by_ d t)) := by
  intro n
  induction n with
  | zero => intro t what by_ d hu hn; cases t <;> simp [ht] at hn
  | succ n ih =>
    intro t what by_ d hu hn hw μ
    rw [PI.run]
    show nrm .val μ (exL pr (PI.run pr n) f0.body [some (en t), some (enWhat what), some (enBy by_), some (.int (d : Nat)), none, none, none] μ).out = _
    rw [f0_start]
    have hq := cmp_eq_en μ t (od what d) (by have : ht (od what d) = 1 := by cases what <;> rfl
                                             omega)
    rw [f0_eq t what by_ d hu]
    cases hb : (pd t).eqv (pd (od what d)) with
    | true =>
      rw [hb] at hq
      simp only [f0, List.drop, hq, bind_ok, into_ok, seq_nx, seq_rt, seq_bk, seq_ct, out_rt, out_nx, vrD_ok, tup1, tup2, tup3, tup4, tup5, lst0, lst1, lst2, lst3, chB_t, chB_f, okB_some, tr_bl, setK_ok, kOk_eq, notK_eq, isNK_eq, notNK_eq, intO_ok, seqK_eq, strK_eq, rngK_eq, dctK_eq, consK_eq, someK_eq, noneK_eq, subK_ok, dropK_eq, retK_eq, asgK_eq, asgTK_eq, sub3_eq, binK_eq, cmpK_eq, idxK_eq, slcK2_eq, slcK_eq, ifK_eq, callK_eq, lK_eq, andK_eq, orK_eq, eltK_eq, allK_eq, lcK_eq, sub2_eq, sub1_eq, ifS_eq, forK_eq, e_var, e_ci, e_cs, e_cb, e_cn, e_not, e_isN, e_notN, e_bin, e_cmp, e_ifx, e_tup, e_lst, e_dnew, e_idx, e_slc, e_call, e_bi, e_isi, e_bm, e_lc, l_nil, l_cons, o_none, o_some, and_one, and_two, or_one, or_two, all_nil, all_one, trB_bl, i_seq, i_str, i_rng, i_keys, i_items, s_nil, s_cons, s_asg, s_asgT, s_sub, s_exp, s_ret, s_retN, s_if, s_for, List.getElem?_cons_zero, List.getElem?_cons_succ, List.set_cons_zero, List.set_cons_succ, List.length_cons, List.length_nil, Nat.reduceAdd, Nat.reduceLT, if_true, Bool.not_true, Bool.not_false]
      exact nrm_val0 (Gr.refl μ) (en_solid _)
    | false =>
      rw [hb] at hq
      simp only [f0, List.drop, hq, idx0, in2, eqs, e_gl0, bind_ok, into_ok, seq_nx, seq_rt, seq_bk, seq_ct, out_rt, out_nx, vrD_ok, tup1, tup2, tup3, tup4, tup5, lst0, lst1, lst2, lst3, chB_t, chB_f, okB_some, tr_bl, setK_ok, kOk_eq, notK_eq, isNK_eq, notNK_eq, intO_ok, seqK_eq, strK_eq, rngK_eq, dctK_eq, consK_eq, someK_eq, noneK_eq, subK_ok, dropK_eq, retK_eq, asgK_eq, asgTK_eq, sub3_eq, binK_eq, cmpK_eq, idxK_eq, slcK2_eq, slcK_eq, ifK_eq, callK_eq, lK_eq, andK_eq, orK_eq, eltK_eq, allK_eq, lcK_eq, sub2_eq, sub1_eq, ifS_eq, forK_eq, e_var, e_ci, e_cs, e_cb, e_cn, e_not, e_isN, e_notN, e_bin, e_cmp, e_ifx, e_tup, e_lst, e_dnew, e_idx, e_slc, e_call, e_bi, e_isi, e_bm, e_lc, l_nil, l_cons, o_none, o_some, and_one, and_two, or_one, or_two, all_nil, all_one, trB_bl, i_seq, i_str, i_rng, i_keys, i_items, s_nil, s_cons, s_asg, s_asgT, s_sub, s_exp, s_ret, s_retN, s_if, s_for, List.getElem?_cons_zero, List.getElem?_cons_succ, List.set_cons_zero, List.set_cons_succ, List.length_cons, List.length_nil, Nat.reduceAdd, Nat.reduceLT, if_true, Bool.not_true, Bool.not_false]
      -- the parts of a made one, of a saying
      have parts : ∀ (ts : List Th) (μ' : Mem), (∀ t ∈ ts, un t = true ∧ ht t ≤ n ∧ wd t ≤ 1000) → ts.length ≤ 1000 → lcGo [] (lcStep pr (PI.run pr n) [some (en t), some (enWhat what), some (enBy by_), some (.int (d : Nat)), some (en (od what d)), some (en (nw by_ d)), none] (.call 0 [.var 6, .var 1, .var 2, .var 3] .val) (.nm 6) [] [6]) μ'.length (enL ts) (μ' ++ [.lst []]) = .ok (.loc μ'.length) (μ' ++ [.lst (ts.map fun t => en (ex what by_ d t))]) := fun ts μ' h hl => by
        rw [enL_map]
        refine lc_each (e := en) (g := fun t => en (ex what by_ d t)) (by unfold lim; omega) fun x hx acc => ?_
        obtain ⟨h1, h2, h3⟩ := h x hx
        have z := ih x what by_ d h1 h2 h3 (μ' ++ [.lst acc])
        rw [lcStep_ok (σ' := [some (en t), some (enWhat what), some (enBy by_), some (.int (d : Nat)), some (en (od what d)), some (en (nw by_ d)), some (en x)]) pr _ _ _ rfl]
        simp only [bind_ok, into_ok, seq_nx, seq_rt, seq_bk, seq_ct, out_rt, out_nx, vrD_ok, tup1, tup2, tup3, tup4, tup5, lst0, lst1, lst2, lst3, chB_t, chB_f, okB_some, tr_bl, setK_ok, kOk_eq, notK_eq, isNK_eq, notNK_eq, intO_ok, seqK_eq, strK_eq, rngK_eq, dctK_eq, consK_eq, someK_eq, noneK_eq, subK_ok, dropK_eq, retK_eq, asgK_eq, asgTK_eq, sub3_eq, binK_eq, cmpK_eq, idxK_eq, slcK2_eq, slcK_eq, ifK_eq, callK_eq, lK_eq, andK_eq, orK_eq, eltK_eq, allK_eq, lcK_eq, sub2_eq, sub1_eq, ifS_eq, forK_eq, e_var, e_ci, e_cs, e_cb, e_cn, e_not, e_isN, e_notN, e_bin, e_cmp, e_ifx, e_tup, e_lst, e_dnew, e_idx, e_slc, e_call, e_bi, e_isi, e_bm, e_lc, l_nil, l_cons, o_none, o_some, and_one, and_two, or_one, or_two, all_nil, all_one, trB_bl, i_seq, i_str, i_rng, i_keys, i_items, s_nil, s_cons, s_asg, s_asgT, s_sub, s_exp, s_ret, s_retN, s_if, s_for, List.getElem?_cons_zero, List.getElem?_cons_succ, List.set_cons_zero, List.set_cons_succ, List.length_cons, List.length_nil, Nat.reduceAdd, Nat.reduceLT, if_true, Bool.not_true, Bool.not_false, z]
      have lens : ∀ ts : List Th, (enL ts).length = ts.length := fun ts => by rw [enL_map, List.length_map]
      cases t with
      | nm x k =>
        simp only [hd, bind_ok, into_ok, seq_nx, seq_rt, seq_bk, seq_ct, out_rt, out_nx, vrD_ok, tup1, tup2, tup3, tup4, tup5, lst0, lst1, lst2, lst3, chB_t, chB_f, okB_some, tr_bl, setK_ok, kOk_eq, notK_eq, isNK_eq, notNK_eq, intO_ok, seqK_eq, strK_eq, rngK_eq, dctK_eq, consK_eq, someK_eq, noneK_eq, subK_ok, dropK_eq, retK_eq, asgK_eq, asgTK_eq, sub3_eq, binK_eq, cmpK_eq, idxK_eq, slcK2_eq, slcK_eq, ifK_eq, callK_eq, lK_eq, andK_eq, orK_eq, eltK_eq, allK_eq, lcK_eq, sub2_eq, sub1_eq, ifS_eq, forK_eq, e_var, e_ci, e_cs, e_cb, e_cn, e_not, e_isN, e_notN, e_bin, e_cmp, e_ifx, e_tup, e_lst, e_dnew, e_idx, e_slc, e_call, e_bi, e_isi, e_bm, e_lc, l_nil, l_cons, o_none, o_some, and_one, and_two, or_one, or_two, all_nil, all_one, trB_bl, i_seq, i_str, i_rng, i_keys, i_items, s_nil, s_cons, s_asg, s_asgT, s_sub, s_exp, s_ret, s_retN, s_if, s_for, List.getElem?_cons_zero, List.getElem?_cons_succ, List.set_cons_zero, List.set_cons_succ, List.length_cons, List.length_nil, Nat.reduceAdd, Nat.reduceLT, if_true, Bool.not_true, Bool.not_false]
        exact nrm_val0 (Gr.refl μ) (en_solid _)
      | bd i =>
        simp only [hd, bind_ok, into_ok, seq_nx, seq_rt, seq_bk, seq_ct, out_rt, out_nx, vrD_ok, tup1, tup2, tup3, tup4, tup5, lst0, lst1, lst2, lst3, chB_t, chB_f, okB_some, tr_bl, setK_ok, kOk_eq, notK_eq, isNK_eq, notNK_eq, intO_ok, seqK_eq, strK_eq, rngK_eq, dctK_eq, consK_eq, someK_eq, noneK_eq, subK_ok, dropK_eq, retK_eq, asgK_eq, asgTK_eq, sub3_eq, binK_eq, cmpK_eq, idxK_eq, slcK2_eq, slcK_eq, ifK_eq, callK_eq, lK_eq, andK_eq, orK_eq, eltK_eq, allK_eq, lcK_eq, sub2_eq, sub1_eq, ifS_eq, forK_eq, e_var, e_ci, e_cs, e_cb, e_cn, e_not, e_isN, e_notN, e_bin, e_cmp, e_ifx, e_tup, e_lst, e_dnew, e_idx, e_slc, e_call, e_bi, e_isi, e_bm, e_lc, l_nil, l_cons, o_none, o_some, and_one, and_two, or_one, or_two, all_nil, all_one, trB_bl, i_seq, i_str, i_rng, i_keys, i_items, s_nil, s_cons, s_asg, s_asgT, s_sub, s_exp, s_ret, s_retN, s_if, s_for, List.getElem?_cons_zero, List.getElem?_cons_succ, List.set_cons_zero, List.set_cons_succ, List.length_cons, List.length_nil, Nat.reduceAdd, Nat.reduceLT, if_true, Bool.not_true, Bool.not_false]
        exact nrm_val0 (Gr.refl μ) (en_solid _)
      | vr i => cases hu
      | qn w k l t => cases hu
      | mk f ts =>
        have a1 : (Str.ofString "name" == hd (.mk f ts) || Str.ofString "bound" == hd (.mk f ts)) = false := rfl
        have a2 : (hd (.mk f ts) == Str.ofString "made") = true := rfl
        have a3 : evIdx (en (.mk f ts)) (.int 1) μ = .ok (.str f) μ := rfl
        have a4 : evIdx (en (.mk f ts)) (.int 2) μ = .ok (.tup (enL ts)) μ := rfl
        have a5 : itSeq μ (.tup (enL ts)) = .ok (enL ts, []) μ := rfl
        rw [un] at hu
        rw [ht] at hn
        rw [wd] at hw
        have a6 := parts ts μ (fun t m => ⟨un_mem hu m, by have := ht_mem m; omega, by have := wd_mem m; omega⟩) (by omega)
        simp only [a1, a2, a3, a4, a5, a6, idx0, in2, eqs, e_gl0, evBI, one, tuple_last, bind_ok, into_ok, seq_nx, seq_rt, seq_bk, seq_ct, out_rt, out_nx, vrD_ok, tup1, tup2, tup3, tup4, tup5, lst0, lst1, lst2, lst3, chB_t, chB_f, okB_some, tr_bl, setK_ok, kOk_eq, notK_eq, isNK_eq, notNK_eq, intO_ok, seqK_eq, strK_eq, rngK_eq, dctK_eq, consK_eq, someK_eq, noneK_eq, subK_ok, dropK_eq, retK_eq, asgK_eq, asgTK_eq, sub3_eq, binK_eq, cmpK_eq, idxK_eq, slcK2_eq, slcK_eq, ifK_eq, callK_eq, lK_eq, andK_eq, orK_eq, eltK_eq, allK_eq, lcK_eq, sub2_eq, sub1_eq, ifS_eq, forK_eq, e_var, e_ci, e_cs, e_cb, e_cn, e_not, e_isN, e_notN, e_bin, e_cmp, e_ifx, e_tup, e_lst, e_dnew, e_idx, e_slc, e_call, e_bi, e_isi, e_bm, e_lc, l_nil, l_cons, o_none, o_some, and_one, and_two, or_one, or_two, all_nil, all_one, trB_bl, i_seq, i_str, i_rng, i_keys, i_items, s_nil, s_cons, s_asg, s_asgT, s_sub, s_exp, s_ret, s_retN, s_if, s_for, List.getElem?_cons_zero, List.getElem?_cons_succ, List.set_cons_zero, List.set_cons_succ, List.length_cons, List.length_nil, Nat.reduceAdd, Nat.reduceLT, if_true, Bool.not_true, Bool.not_false]
        have e : D.tup [.str (Str.ofString "made"), .str f, .tup (ts.map fun t => en (ex what by_ d t))] = en (ex1 what by_ d (.mk f ts)) := by
          rw [ex1, en, enL_map, List.map_map]
          rfl
        rw [e]
        exact nrm_val0 (Gr.app μ _) (en_solid _)
      | qt w k t =>
        have a1 : (Str.ofString "name" == hd (.qt w k t) || Str.ofString "bound" == hd (.qt w k t)) = false := by cases w <;> rfl
        have a2 : (hd (.qt w k t) == Str.ofString "made") = false := by cases w <;> rfl
        have a3 : (Str.ofString "all" == hd (.qt w k t) || Str.ofString "some" == hd (.qt w k t)) = true := by cases w <;> rfl
        have a4 : evIdx (en (.qt w k t)) (.int 1) μ = .ok (.str k) μ := rfl
        have a5 : evIdx (en (.qt w k t)) (.int 2) μ = .ok (en t) μ := rfl
        have a6 : nrm .val μ (PI.run pr n 0 [en t, enWhat what, enBy by_, .int ((d : Int) + 1)] μ) = .ok (en (ex what by_ (d + 1) t)) μ := ih t what by_ (d + 1) hu (by rw [ht] at hn; omega) (by rw [wd] at hw; exact hw) μ
        simp only [a1, a2, a3, a4, a5, a6, idx0, in2, eqs, e_gl0, add_int, bind_ok, into_ok, seq_nx, seq_rt, seq_bk, seq_ct, out_rt, out_nx, vrD_ok, tup1, tup2, tup3, tup4, tup5, lst0, lst1, lst2, lst3, chB_t, chB_f, okB_some, tr_bl, setK_ok, kOk_eq, notK_eq, isNK_eq, notNK_eq, intO_ok, seqK_eq, strK_eq, rngK_eq, dctK_eq, consK_eq, someK_eq, noneK_eq, subK_ok, dropK_eq, retK_eq, asgK_eq, asgTK_eq, sub3_eq, binK_eq, cmpK_eq, idxK_eq, slcK2_eq, slcK_eq, ifK_eq, callK_eq, lK_eq, andK_eq, orK_eq, eltK_eq, allK_eq, lcK_eq, sub2_eq, sub1_eq, ifS_eq, forK_eq, e_var, e_ci, e_cs, e_cb, e_cn, e_not, e_isN, e_notN, e_bin, e_cmp, e_ifx, e_tup, e_lst, e_dnew, e_idx, e_slc, e_call, e_bi, e_isi, e_bm, e_lc, l_nil, l_cons, o_none, o_some, and_one, and_two, or_one, or_two, all_nil, all_one, trB_bl, i_seq, i_str, i_rng, i_keys, i_items, s_nil, s_cons, s_asg, s_asgT, s_sub, s_exp, s_ret, s_retN, s_if, s_for, List.getElem?_cons_zero, List.getElem?_cons_succ, List.set_cons_zero, List.set_cons_succ, List.length_cons, List.length_nil, Nat.reduceAdd, Nat.reduceLT, if_true, Bool.not_true, Bool.not_false]
        have e : D.tup [.str (hd (.qt w k t)), .str k, en (ex what by_ (d + 1) t)] = en (ex1 what by_ d (.qt w k t)) := rfl
        rw [e]
        exact nrm_val0 (Gr.refl μ) (en_solid _)
      | op w ts =>
        have a1 : (Str.ofString "name" == hd (.op w ts) || Str.ofString "bound" == hd (.op w ts)) = false := by cases w <;> rfl
        have a2 : (hd (.op w ts) == Str.ofString "made") = false := by cases w <;> rfl
        have a3 : (Str.ofString "all" == hd (.op w ts) || Str.ofString "some" == hd (.op w ts)) = false := by cases w <;> rfl
        have a4 : evSlc (en (.op w ts)) (some 1) none μ = .ok (.tup (enL ts)) μ := by
          unfold evSlc
          simp [en, cut, cutN]
        have a5 : itSeq μ (.tup (enL ts)) = .ok (enL ts, []) μ := rfl
        rw [un] at hu
        rw [ht] at hn
        rw [wd] at hw
        have a6 := parts ts μ (fun t m => ⟨un_mem hu m, by have := ht_mem m; omega, by have := wd_mem m; omega⟩) (by omega)
        simp only [a1, a2, a3, a4, a5, a6, idx0, in2, eqs, e_gl0, evBI, one, tuple_last, bind_ok, into_ok, seq_nx, seq_rt, seq_bk, seq_ct, out_rt, out_nx, vrD_ok, tup1, tup2, tup3, tup4, tup5, lst0, lst1, lst2, lst3, chB_t, chB_f, okB_some, tr_bl, setK_ok, kOk_eq, notK_eq, isNK_eq, notNK_eq, intO_ok, seqK_eq, strK_eq, rngK_eq, dctK_eq, consK_eq, someK_eq, noneK_eq, subK_ok, dropK_eq, retK_eq, asgK_eq, asgTK_eq, sub3_eq, binK_eq, cmpK_eq, idxK_eq, slcK2_eq, slcK_eq, ifK_eq, callK_eq, lK_eq, andK_eq, orK_eq, eltK_eq, allK_eq, lcK_eq, sub2_eq, sub1_eq, ifS_eq, forK_eq, e_var, e_ci, e_cs, e_cb, e_cn, e_not, e_isN, e_notN, e_bin, e_cmp, e_ifx, e_tup, e_lst, e_dnew, e_idx, e_slc, e_call, e_bi, e_isi, e_bm, e_lc, l_nil, l_cons, o_none, o_some, and_one, and_two, or_one, or_two, all_nil, all_one, trB_bl, i_seq, i_str, i_rng, i_keys, i_items, s_nil, s_cons, s_asg, s_asgT, s_sub, s_exp, s_ret, s_retN, s_if, s_for, List.getElem?_cons_zero, List.getElem?_cons_succ, List.set_cons_zero, List.set_cons_succ, List.length_cons, List.length_nil, Nat.reduceAdd, Nat.reduceLT, if_true, Bool.not_true, Bool.not_false]
        rw [add_tup (by rw [List.length_map]; unfold lim; simp only [List.length_cons, List.length_nil]; omega)]
        have e : D.tup ([.str (hd (.op w ts))] ++ ts.map fun t => en (ex what by_ d t)) = en (ex1 what by_ d (.op w ts)) := by
          rw [ex1, en, enL_map, List.map_map]
          rfl
        rw [e]
        simp only [bind_ok, into_ok, seq_nx, seq_rt, seq_bk, seq_ct, out_rt, out_nx, vrD_ok, tup1, tup2, tup3, tup4, tup5, lst0, lst1, lst2, lst3, chB_t, chB_f, okB_some, tr_bl, setK_ok, kOk_eq, notK_eq, isNK_eq, notNK_eq, intO_ok, seqK_eq, strK_eq, rngK_eq, dctK_eq, consK_eq, someK_eq, noneK_eq, subK_ok, dropK_eq, retK_eq, asgK_eq, asgTK_eq, sub3_eq, binK_eq, cmpK_eq, idxK_eq, slcK2_eq, slcK_eq, ifK_eq, callK_eq, lK_eq, andK_eq, orK_eq, eltK_eq, allK_eq, lcK_eq, sub2_eq, sub1_eq, ifS_eq, forK_eq, e_var, e_ci, e_cs, e_cb, e_cn, e_not, e_isN, e_notN, e_bin, e_cmp, e_ifx, e_tup, e_lst, e_dnew, e_idx, e_slc, e_call, e_bi, e_isi, e_bm, e_lc, l_nil, l_cons, o_none, o_some, and_one, and_two, or_one, or_two, all_nil, all_one, trB_bl, i_seq, i_str, i_rng, i_keys, i_items, s_nil, s_cons, s_asg, s_asgT, s_sub, s_exp, s_ret, s_retN, s_if, s_for, List.getElem?_cons_zero, List.getElem?_cons_succ, List.set_cons_zero, List.set_cons_succ, List.length_cons, List.length_nil, Nat.reduceAdd, Nat.reduceLT, if_true, Bool.not_true, Bool.not_false]
        exact nrm_val0 (Gr.app μ _) (en_solid _)
end K32

/-! k32: named, exchanged by level, unnamed -/
namespace K32
open PySem PI
theorem parts_ok {C : Calls} {σ : PI.Env} {f i : Nat} {args : List E} (F : Th → Th) (μ' : Mem) (ts : List Th) (hi : i < σ.length) (hl : ts.length ≤ 1000) (h : ∀ t ∈ ts, ∀ acc, evE pr C (.call f args .val) (σ.set i (some (en t))) (μ' ++ [.lst acc]) = .ok (en (F t)) (μ' ++ [.lst acc])) :
    lcGo [] (lcStep pr C σ (.call f args .val) (.nm i) [] [i]) μ'.length (enL ts) (μ' ++ [.lst []]) = .ok (.loc μ'.length) (μ' ++ [.lst (ts.map fun t => en (F t))]) := by
  rw [enL_map]
  refine lc_each (e := en) (g := fun t => en (F t)) (by unfold lim; omega) fun x hx acc => ?_
  rw [lcStep_ok (σ' := σ.set i (some (en x))) pr _ _ _ (by unfold asgG wipeE wipeE; rw [if_pos (by rw [List.length_set]; exact hi), List.set_set])]
  simp only [all_nil, bind_ok, allK_eq, chB_t, eltK_eq]
  rw [h x hx acc]
  rfl
theorem in_last (a b c : Str) (μ : Mem) : evCmp .in_ (.str a) (.loc μ.length) (μ ++ [.lst [.str b, .str c]]) = .ok (.bl (b == a || c == a)) (μ ++ [.lst [.str b, .str c]]) := by
  unfold evCmp evIn
  dsimp only
  unfold dctOf seqOf inSeq
  simp only [get_last]
  simp [flat, eqF]
theorem len_loc {c : Nat} {μ : Mem} {xs : List D} (h : μ[c]? = some (.lst xs)) : biLen (.loc c) μ = .ok (.int xs.length) μ := by
  unfold biLen seqOf
  simp only [h]
theorem idx_loc {c : Nat} {μ : Mem} {xs : List D} {k : Nat} {d : D} (h : μ[c]? = some (.lst xs)) (hk : xs[k]? = some d) : evIdx (.loc c) (.int (k : Nat)) μ = .ok d μ := by
  have hl := (List.getElem?_eq_some_iff.mp hk).1
  unfold evIdx dctOf seqOf
  simp only [h]
  have : ixOf xs.length (k : Int) = some k := by
    unfold ixOf
    rw [if_pos (by omega), if_pos (by omega)]
    rfl
  rw [this]
  show (match xs[k]? with
    | some v => R.ok v μ
    | none => .bad) = _
  rw [hk]
theorem add_locs {c c' : Nat} {μ : Mem} {xs ys : List D} (h : μ[c]? = some (.lst xs)) (h' : μ[c']? = some (.lst ys)) (hl : xs.length + ys.length ≤ lim) : evBin .add (.loc c) (.loc c') μ = .ok (.loc μ.length) (μ ++ [.lst (xs ++ ys)]) := by
  show (match lstOf μ (.loc c), lstOf μ (.loc c') with
    | some xs, some ys => if xs.length + ys.length ≤ lim then newL μ (xs ++ ys) else .bad
    | _, _ => .bad) = _
  simp only [lstOf, h, h']
  rw [if_pos hl]
  rfl
/-! ### named -/
mutual
def nmd (lv : List Nat) : Th → Th
  | .nm x k => .nm x k
  | .bd k => .vr (lv.getD k 0)
  | .vr i => .vr i
  | .mk f ts => .mk f (nmdL lv ts)
  | .qt w k t => .qn w k lv.length (nmd (lv.length :: lv) t)
  | .qn w k l t => .qn w k l t
  | .op w ts => .op w (nmdL lv ts)
def nmdL (lv : List Nat) : List Th → List Th
  | [] => []
  | t :: ts => nmd lv t :: nmdL lv ts
end
theorem nmdL_map (lv : List Nat) : ∀ ts : List Th, nmdL lv ts = ts.map (nmd lv)
  | [] => rfl
  | t :: ts => by rw [nmdL, nmdL_map lv ts]; rfl
mutual
/-- the places within, fewer than so many outside -/
def bds (n : Nat) : Th → Bool
  | .bd k => decide (k < n)
  | .mk _ ts => bdsL n ts
  | .op _ ts => bdsL n ts
  | .qt _ _ t => bds (n + 1) t
  | _ => true
def bdsL (n : Nat) : List Th → Bool
  | [] => true
  | t :: ts => bds n t && bdsL n ts
end
theorem bds_mem {n : Nat} {t : Th} : ∀ {ts : List Th}, bdsL n ts = true → t ∈ ts → bds n t = true
  | x :: ts, hu, h => by
    rw [bdsL, Bool.and_eq_true] at hu
    rcases List.mem_cons.mp h with e | h
    · rw [e]; exact hu.1
    · exact bds_mem hu.2 h
def ivs (lv : List Nat) : List D := lv.map fun i => .int (i : Nat)
theorem ivs_len (lv : List Nat) : (ivs lv).length = lv.length := by unfold ivs; rw [List.length_map]
theorem f16_ok : ∀ (n : Nat) (t : Th) (lv : List Nat), un t = true → ht t ≤ n → wd t ≤ 1000 → bds lv.length t = true → lv.length + ht t ≤ 1000 → ∀ (μ : Mem) (c : Nat), μ[c]? = some (.lst (ivs lv)) → nrm .val μ (PI.run pr n 16 [en t, .loc c] μ) = .ok (en (nmd lv t)) μ := by
  intro n
  induction n with
  | zero => intro t lv hu hn; cases t <;> simp [ht] at hn
  | succ n ih =>
    intro t lv hu hn hw hb hlv μ c hc
    rw [PI.run]
    show nrm .val μ (exL pr (PI.run pr n) f16.body [some (en t), some (.loc c), none, none] μ).out = _
    simp only [f16, idx0, eqs, bind_ok, into_ok, seq_nx, seq_rt, seq_bk, seq_ct, out_rt, out_nx, vrD_ok, tup1, tup2, tup3, tup4, tup5, lst0, lst1, lst2, lst3, chB_t, chB_f, okB_some, tr_bl, setK_ok, kOk_eq, notK_eq, isNK_eq, notNK_eq, intO_ok, seqK_eq, strK_eq, rngK_eq, dctK_eq, consK_eq, someK_eq, noneK_eq, subK_ok, dropK_eq, retK_eq, asgK_eq, asgTK_eq, sub3_eq, binK_eq, cmpK_eq, idxK_eq, slcK2_eq, slcK_eq, ifK_eq, callK_eq, lK_eq, andK_eq, orK_eq, eltK_eq, allK_eq, lcK_eq, sub2_eq, sub1_eq, ifS_eq, forK_eq, e_var, e_ci, e_cs, e_cb, e_cn, e_not, e_isN, e_notN, e_bin, e_cmp, e_ifx, e_tup, e_lst, e_dnew, e_idx, e_slc, e_call, e_bi, e_isi, e_bm, e_lc, l_nil, l_cons, o_none, o_some, and_one, and_two, or_one, or_two, all_nil, all_one, trB_bl, i_seq, i_str, i_rng, i_keys, i_items, s_nil, s_cons, s_asg, s_asgT, s_sub, s_exp, s_ret, s_retN, s_if, s_for, List.getElem?_cons_zero, List.getElem?_cons_succ, List.set_cons_zero, List.set_cons_succ, List.length_cons, List.length_nil, Nat.reduceAdd, Nat.reduceLT, if_true, Bool.not_true, Bool.not_false]
    have step : ∀ (x : Th) (μ' : Mem), un x = true → ht x ≤ n → wd x ≤ 1000 → bds lv.length x = true → lv.length + ht x ≤ 1000 → Gr [] μ μ' → nrm .val μ' (PI.run pr n 16 [en x, .loc c] μ') = .ok (en (nmd lv x)) μ' := fun x μ' h1 h2 h3 h4 h5 g => ih x lv h1 h2 h3 h4 h5 μ' c (g.get hc)
    cases t with
    | nm x k =>
      have a1 : (hd (.nm x k) == Str.ofString "bound") = false := rfl
      have a2 : (hd (.nm x k) == Str.ofString "name") = true := rfl
      simp only [a1, a2, eqs, bind_ok, into_ok, seq_nx, seq_rt, seq_bk, seq_ct, out_rt, out_nx, vrD_ok, tup1, tup2, tup3, tup4, tup5, lst0, lst1, lst2, lst3, chB_t, chB_f, okB_some, tr_bl, setK_ok, kOk_eq, notK_eq, isNK_eq, notNK_eq, intO_ok, seqK_eq, strK_eq, rngK_eq, dctK_eq, consK_eq, someK_eq, noneK_eq, subK_ok, dropK_eq, retK_eq, asgK_eq, asgTK_eq, sub3_eq, binK_eq, cmpK_eq, idxK_eq, slcK2_eq, slcK_eq, ifK_eq, callK_eq, lK_eq, andK_eq, orK_eq, eltK_eq, allK_eq, lcK_eq, sub2_eq, sub1_eq, ifS_eq, forK_eq, e_var, e_ci, e_cs, e_cb, e_cn, e_not, e_isN, e_notN, e_bin, e_cmp, e_ifx, e_tup, e_lst, e_dnew, e_idx, e_slc, e_call, e_bi, e_isi, e_bm, e_lc, l_nil, l_cons, o_none, o_some, and_one, and_two, or_one, or_two, all_nil, all_one, trB_bl, i_seq, i_str, i_rng, i_keys, i_items, s_nil, s_cons, s_asg, s_asgT, s_sub, s_exp, s_ret, s_retN, s_if, s_for, List.getElem?_cons_zero, List.getElem?_cons_succ, List.set_cons_zero, List.set_cons_succ, List.length_cons, List.length_nil, Nat.reduceAdd, Nat.reduceLT, if_true, Bool.not_true, Bool.not_false]
      exact nrm_val0 (Gr.refl μ) (en_solid _)
    | bd k =>
      have a1 : (hd (.bd k) == Str.ofString "bound") = true := rfl
      have a2 : evIdx (en (.bd k)) (.int 1) μ = .ok (.int (k : Nat)) μ := rfl
      rw [bds, decide_eq_true_eq] at hb
      have a3 : (ivs lv)[k]? = some (.int (lv.getD k 0 : Nat)) := by
        unfold ivs
        rw [List.getElem?_map, List.getElem?_eq_getElem hb, List.getD_eq_getElem?_getD, List.getElem?_eq_getElem hb]
        rfl
      simp only [a1, a2, idx_loc hc a3, bind_ok, into_ok, seq_nx, seq_rt, seq_bk, seq_ct, out_rt, out_nx, vrD_ok, tup1, tup2, tup3, tup4, tup5, lst0, lst1, lst2, lst3, chB_t, chB_f, okB_some, tr_bl, setK_ok, kOk_eq, notK_eq, isNK_eq, notNK_eq, intO_ok, seqK_eq, strK_eq, rngK_eq, dctK_eq, consK_eq, someK_eq, noneK_eq, subK_ok, dropK_eq, retK_eq, asgK_eq, asgTK_eq, sub3_eq, binK_eq, cmpK_eq, idxK_eq, slcK2_eq, slcK_eq, ifK_eq, callK_eq, lK_eq, andK_eq, orK_eq, eltK_eq, allK_eq, lcK_eq, sub2_eq, sub1_eq, ifS_eq, forK_eq, e_var, e_ci, e_cs, e_cb, e_cn, e_not, e_isN, e_notN, e_bin, e_cmp, e_ifx, e_tup, e_lst, e_dnew, e_idx, e_slc, e_call, e_bi, e_isi, e_bm, e_lc, l_nil, l_cons, o_none, o_some, and_one, and_two, or_one, or_two, all_nil, all_one, trB_bl, i_seq, i_str, i_rng, i_keys, i_items, s_nil, s_cons, s_asg, s_asgT, s_sub, s_exp, s_ret, s_retN, s_if, s_for, List.getElem?_cons_zero, List.getElem?_cons_succ, List.set_cons_zero, List.set_cons_succ, List.length_cons, List.length_nil, Nat.reduceAdd, Nat.reduceLT, if_true, Bool.not_true, Bool.not_false]
      exact nrm_val0 (Gr.refl μ) (en_solid (.vr (lv.getD k 0)))
    | vr i => cases hu
    | qn w k l t => cases hu
    | mk f ts =>
      have a1 : (hd (.mk f ts) == Str.ofString "bound") = false := rfl
      have a2 : (hd (.mk f ts) == Str.ofString "name") = false := rfl
      have a3 : (hd (.mk f ts) == Str.ofString "made") = true := rfl
      have a4 : evIdx (en (.mk f ts)) (.int 1) μ = .ok (.str f) μ := rfl
      have a5 : evIdx (en (.mk f ts)) (.int 2) μ = .ok (.tup (enL ts)) μ := rfl
      have a6 : itSeq μ (.tup (enL ts)) = .ok (enL ts, []) μ := rfl
      rw [un] at hu
      rw [ht] at hn hlv
      rw [wd] at hw
      rw [bds] at hb
      have a7 := parts_ok (C := PI.run pr n) (σ := [some (en (.mk f ts)), some (.loc c), some (.str (hd (.mk f ts))), none]) (f := 16) (i := 3) (args := [.var 3, .var 1]) (nmd lv) μ ts (show 3 < 4 by decide) (by omega) fun x hx acc => by
        have h1 := ht_mem hx
        have h2 := wd_mem hx
        simp only [step x (μ ++ [.lst acc]) (un_mem hu hx) (by omega) (by omega) (bds_mem hb hx) (by omega) (Gr.app μ _), bind_ok, into_ok, seq_nx, seq_rt, seq_bk, seq_ct, out_rt, out_nx, vrD_ok, tup1, tup2, tup3, tup4, tup5, lst0, lst1, lst2, lst3, chB_t, chB_f, okB_some, tr_bl, setK_ok, kOk_eq, notK_eq, isNK_eq, notNK_eq, intO_ok, seqK_eq, strK_eq, rngK_eq, dctK_eq, consK_eq, someK_eq, noneK_eq, subK_ok, dropK_eq, retK_eq, asgK_eq, asgTK_eq, sub3_eq, binK_eq, cmpK_eq, idxK_eq, slcK2_eq, slcK_eq, ifK_eq, callK_eq, lK_eq, andK_eq, orK_eq, eltK_eq, allK_eq, lcK_eq, sub2_eq, sub1_eq, ifS_eq, forK_eq, e_var, e_ci, e_cs, e_cb, e_cn, e_not, e_isN, e_notN, e_bin, e_cmp, e_ifx, e_tup, e_lst, e_dnew, e_idx, e_slc, e_call, e_bi, e_isi, e_bm, e_lc, l_nil, l_cons, o_none, o_some, and_one, and_two, or_one, or_two, all_nil, all_one, trB_bl, i_seq, i_str, i_rng, i_keys, i_items, s_nil, s_cons, s_asg, s_asgT, s_sub, s_exp, s_ret, s_retN, s_if, s_for, List.getElem?_cons_zero, List.getElem?_cons_succ, List.set_cons_zero, List.set_cons_succ, List.length_cons, List.length_nil, Nat.reduceAdd, Nat.reduceLT, if_true, Bool.not_true, Bool.not_false]
      simp only [a1, a2, a3, a4, a5, a6, a7, eqs, evBI, one, tuple_last, bind_ok, into_ok, seq_nx, seq_rt, seq_bk, seq_ct, out_rt, out_nx, vrD_ok, tup1, tup2, tup3, tup4, tup5, lst0, lst1, lst2, lst3, chB_t, chB_f, okB_some, tr_bl, setK_ok, kOk_eq, notK_eq, isNK_eq, notNK_eq, intO_ok, seqK_eq, strK_eq, rngK_eq, dctK_eq, consK_eq, someK_eq, noneK_eq, subK_ok, dropK_eq, retK_eq, asgK_eq, asgTK_eq, sub3_eq, binK_eq, cmpK_eq, idxK_eq, slcK2_eq, slcK_eq, ifK_eq, callK_eq, lK_eq, andK_eq, orK_eq, eltK_eq, allK_eq, lcK_eq, sub2_eq, sub1_eq, ifS_eq, forK_eq, e_var, e_ci, e_cs, e_cb, e_cn, e_not, e_isN, e_notN, e_bin, e_cmp, e_ifx, e_tup, e_lst, e_dnew, e_idx, e_slc, e_call, e_bi, e_isi, e_bm, e_lc, l_nil, l_cons, o_none, o_some, and_one, and_two, or_one, or_two, all_nil, all_one, trB_bl, i_seq, i_str, i_rng, i_keys, i_items, s_nil, s_cons, s_asg, s_asgT, s_sub, s_exp, s_ret, s_retN, s_if, s_for, List.getElem?_cons_zero, List.getElem?_cons_succ, List.set_cons_zero, List.set_cons_succ, List.length_cons, List.length_nil, Nat.reduceAdd, Nat.reduceLT, if_true, Bool.not_true, Bool.not_false]
      have e : D.tup [.str (Str.ofString "made"), .str f, .tup (ts.map fun t => en (nmd lv t))] = en (nmd lv (.mk f ts)) := by
        rw [nmd, en, enL_map, nmdL_map, List.map_map]
        rfl
      rw [e]
      exact nrm_val0 (Gr.app μ _) (en_solid _)
    | qt w k t =>
      have a1 : (hd (.qt w k t) == Str.ofString "bound") = false := by cases w <;> rfl
      have a2 : (hd (.qt w k t) == Str.ofString "name") = false := by cases w <;> rfl
      have a3 : (hd (.qt w k t) == Str.ofString "made") = false := by cases w <;> rfl
      have a4 : (Str.ofString "all" == hd (.qt w k t) || Str.ofString "some" == hd (.qt w k t)) = true := by cases w <;> rfl
      have a5 : ∀ μ, evIdx (en (.qt w k t)) (.int 1) μ = .ok (.str k) μ := fun _ => rfl
      have a6 : ∀ μ, evIdx (en (.qt w k t)) (.int 2) μ = .ok (en t) μ := fun _ => rfl
      have hc1 : (μ ++ [.lst [.str (Str.ofString "all"), .str (Str.ofString "some")]])[c]? = some (.lst (ivs lv)) := (Gr.app μ _).get hc
      have b0 := len_loc hc1
      rw [ivs_len] at b0
      rw [un] at hu
      rw [ht] at hn hlv
      rw [wd] at hw
      rw [bds] at hb
      have b9 := in_last (hd (.qt w k t)) (Str.ofString "all") (Str.ofString "some") μ
      generalize hm1 : μ ++ [.lst [.str (Str.ofString "all"), .str (Str.ofString "some")]] = μ1 at hc1 b0 b9
      have g1 : Gr [] μ μ1 := by rw [← hm1]; exact Gr.app μ _
      have b1 := add_locs (get_last μ1 (.lst [.int (lv.length : Nat)])) ((Gr.app μ1 [.lst [.int (lv.length : Nat)]]).get hc1) (by rw [ivs_len]; unfold lim; simp only [List.length_cons, List.length_nil]; omega)
      have b2 := ih t (lv.length :: lv) hu (by omega) hw hb (by rw [List.length_cons]; omega) _ _ (get_last (μ1 ++ [.lst [.int (lv.length : Nat)]]) (.lst ([.int (lv.length : Nat)] ++ ivs lv)))
      simp only [a1, a2, a3, a4, a5, a6, eqs, b9, evBI, one, hm1, b0, b1, b2, bind_ok, into_ok, seq_nx, seq_rt, seq_bk, seq_ct, out_rt, out_nx, vrD_ok, tup1, tup2, tup3, tup4, tup5, lst0, lst1, lst2, lst3, chB_t, chB_f, okB_some, tr_bl, setK_ok, kOk_eq, notK_eq, isNK_eq, notNK_eq, intO_ok, seqK_eq, strK_eq, rngK_eq, dctK_eq, consK_eq, someK_eq, noneK_eq, subK_ok, dropK_eq, retK_eq, asgK_eq, asgTK_eq, sub3_eq, binK_eq, cmpK_eq, idxK_eq, slcK2_eq, slcK_eq, ifK_eq, callK_eq, lK_eq, andK_eq, orK_eq, eltK_eq, allK_eq, lcK_eq, sub2_eq, sub1_eq, ifS_eq, forK_eq, e_var, e_ci, e_cs, e_cb, e_cn, e_not, e_isN, e_notN, e_bin, e_cmp, e_ifx, e_tup, e_lst, e_dnew, e_idx, e_slc, e_call, e_bi, e_isi, e_bm, e_lc, l_nil, l_cons, o_none, o_some, and_one, and_two, or_one, or_two, all_nil, all_one, trB_bl, i_seq, i_str, i_rng, i_keys, i_items, s_nil, s_cons, s_asg, s_asgT, s_sub, s_exp, s_ret, s_retN, s_if, s_for, List.getElem?_cons_zero, List.getElem?_cons_succ, List.set_cons_zero, List.set_cons_succ, List.length_cons, List.length_nil, Nat.reduceAdd, Nat.reduceLT, if_true, Bool.not_true, Bool.not_false]
      have e : D.tup [.str (hd (.qt w k t)), .str k, .int (lv.length : Nat), en (nmd (lv.length :: lv) t)] = en (nmd lv (.qt w k t)) := rfl
      rw [e]
      exact nrm_val0 (g1.trans0 ((Gr.app μ1 _).trans0 (Gr.app _ _))) (en_solid _)
    | op w ts =>
      have a1 : (hd (.op w ts) == Str.ofString "bound") = false := by cases w <;> rfl
      have a2 : (hd (.op w ts) == Str.ofString "name") = false := by cases w <;> rfl
      have a3 : (hd (.op w ts) == Str.ofString "made") = false := by cases w <;> rfl
      have a4 : (Str.ofString "all" == hd (.op w ts) || Str.ofString "some" == hd (.op w ts)) = false := by cases w <;> rfl
      have a5 : ∀ μ, evSlc (en (.op w ts)) (some 1) none μ = .ok (.tup (enL ts)) μ := fun μ => by
        unfold evSlc
        simp [en, cut, cutN]
      have a6 : ∀ μ, itSeq μ (.tup (enL ts)) = .ok (enL ts, []) μ := fun _ => rfl
      rw [un] at hu
      rw [ht] at hn hlv
      rw [wd] at hw
      rw [bds] at hb
      have a7 := parts_ok (C := PI.run pr n) (σ := [some (en (.op w ts)), some (.loc c), some (.str (hd (.op w ts))), none]) (f := 16) (i := 3) (args := [.var 3, .var 1]) (nmd lv) (μ ++ [.lst [.str (Str.ofString "all"), .str (Str.ofString "some")]]) ts (show 3 < 4 by decide) (by omega) fun x hx acc => by
        have h1 := ht_mem hx
        have h2 := wd_mem hx
        simp only [step x (μ ++ [.lst [.str (Str.ofString "all"), .str (Str.ofString "some")]] ++ [.lst acc]) (un_mem hu hx) (by omega) (by omega) (bds_mem hb hx) (by omega) ((Gr.app μ _).trans0 (Gr.app _ _)), bind_ok, into_ok, seq_nx, seq_rt, seq_bk, seq_ct, out_rt, out_nx, vrD_ok, tup1, tup2, tup3, tup4, tup5, lst0, lst1, lst2, lst3, chB_t, chB_f, okB_some, tr_bl, setK_ok, kOk_eq, notK_eq, isNK_eq, notNK_eq, intO_ok, seqK_eq, strK_eq, rngK_eq, dctK_eq, consK_eq, someK_eq, noneK_eq, subK_ok, dropK_eq, retK_eq, asgK_eq, asgTK_eq, sub3_eq, binK_eq, cmpK_eq, idxK_eq, slcK2_eq, slcK_eq, ifK_eq, callK_eq, lK_eq, andK_eq, orK_eq, eltK_eq, allK_eq, lcK_eq, sub2_eq, sub1_eq, ifS_eq, forK_eq, e_var, e_ci, e_cs, e_cb, e_cn, e_not, e_isN, e_notN, e_bin, e_cmp, e_ifx, e_tup, e_lst, e_dnew, e_idx, e_slc, e_call, e_bi, e_isi, e_bm, e_lc, l_nil, l_cons, o_none, o_some, and_one, and_two, or_one, or_two, all_nil, all_one, trB_bl, i_seq, i_str, i_rng, i_keys, i_items, s_nil, s_cons, s_asg, s_asgT, s_sub, s_exp, s_ret, s_retN, s_if, s_for, List.getElem?_cons_zero, List.getElem?_cons_succ, List.set_cons_zero, List.set_cons_succ, List.length_cons, List.length_nil, Nat.reduceAdd, Nat.reduceLT, if_true, Bool.not_true, Bool.not_false]
      simp only [a1, a2, a3, a4, a5, a6, a7, eqs, in_last, evBI, one, tuple_last, bind_ok, into_ok, seq_nx, seq_rt, seq_bk, seq_ct, out_rt, out_nx, vrD_ok, tup1, tup2, tup3, tup4, tup5, lst0, lst1, lst2, lst3, chB_t, chB_f, okB_some, tr_bl, setK_ok, kOk_eq, notK_eq, isNK_eq, notNK_eq, intO_ok, seqK_eq, strK_eq, rngK_eq, dctK_eq, consK_eq, someK_eq, noneK_eq, subK_ok, dropK_eq, retK_eq, asgK_eq, asgTK_eq, sub3_eq, binK_eq, cmpK_eq, idxK_eq, slcK2_eq, slcK_eq, ifK_eq, callK_eq, lK_eq, andK_eq, orK_eq, eltK_eq, allK_eq, lcK_eq, sub2_eq, sub1_eq, ifS_eq, forK_eq, e_var, e_ci, e_cs, e_cb, e_cn, e_not, e_isN, e_notN, e_bin, e_cmp, e_ifx, e_tup, e_lst, e_dnew, e_idx, e_slc, e_call, e_bi, e_isi, e_bm, e_lc, l_nil, l_cons, o_none, o_some, and_one, and_two, or_one, or_two, all_nil, all_one, trB_bl, i_seq, i_str, i_rng, i_keys, i_items, s_nil, s_cons, s_asg, s_asgT, s_sub, s_exp, s_ret, s_retN, s_if, s_for, List.getElem?_cons_zero, List.getElem?_cons_succ, List.set_cons_zero, List.set_cons_succ, List.length_cons, List.length_nil, Nat.reduceAdd, Nat.reduceLT, if_true, Bool.not_true, Bool.not_false]
      rw [add_tup (by rw [List.length_map]; unfold lim; simp only [List.length_cons, List.length_nil]; omega)]
      have e : D.tup ([.str (hd (.op w ts))] ++ ts.map fun t => en (nmd lv t)) = en (nmd lv (.op w ts)) := by
        rw [nmd, en, enL_map, nmdL_map, List.map_map]
        rfl
      rw [e]
      simp only [bind_ok, into_ok, seq_nx, seq_rt, seq_bk, seq_ct, out_rt, out_nx, vrD_ok, tup1, tup2, tup3, tup4, tup5, lst0, lst1, lst2, lst3, chB_t, chB_f, okB_some, tr_bl, setK_ok, kOk_eq, notK_eq, isNK_eq, notNK_eq, intO_ok, seqK_eq, strK_eq, rngK_eq, dctK_eq, consK_eq, someK_eq, noneK_eq, subK_ok, dropK_eq, retK_eq, asgK_eq, asgTK_eq, sub3_eq, binK_eq, cmpK_eq, idxK_eq, slcK2_eq, slcK_eq, ifK_eq, callK_eq, lK_eq, andK_eq, orK_eq, eltK_eq, allK_eq, lcK_eq, sub2_eq, sub1_eq, ifS_eq, forK_eq, e_var, e_ci, e_cs, e_cb, e_cn, e_not, e_isN, e_notN, e_bin, e_cmp, e_ifx, e_tup, e_lst, e_dnew, e_idx, e_slc, e_call, e_bi, e_isi, e_bm, e_lc, l_nil, l_cons, o_none, o_some, and_one, and_two, or_one, or_two, all_nil, all_one, trB_bl, i_seq, i_str, i_rng, i_keys, i_items, s_nil, s_cons, s_asg, s_asgT, s_sub, s_exp, s_ret, s_retN, s_if, s_for, List.getElem?_cons_zero, List.getElem?_cons_succ, List.set_cons_zero, List.set_cons_succ, List.length_cons, List.length_nil, Nat.reduceAdd, Nat.reduceLT, if_true, Bool.not_true, Bool.not_false]
      exact nrm_val0 ((Gr.app μ _).trans0 (Gr.app _ _)) (en_solid _)
end K32

/-! k32: what stands for a level exchanged; levels away again -/
namespace K32
open PySem PI
mutual
/-- no places within -/
def na : Th → Bool
  | .bd _ => false
  | .qt _ _ _ => false
  | .mk _ ts => naL ts
  | .op _ ts => naL ts
  | .qn _ _ _ t => na t
  | _ => true
def naL : List Th → Bool
  | [] => true
  | t :: ts => na t && naL ts
end
theorem na_mem {t : Th} : ∀ {ts : List Th}, naL ts = true → t ∈ ts → na t = true
  | x :: ts, hu, h => by
    rw [naL, Bool.and_eq_true] at hu
    rcases List.mem_cons.mp h with e | h
    · rw [e]; exact hu.1
    · exact na_mem hu.2 h
def ov (o : Option (Str × Str)) : Th := match o with
  | some p => .nm p.1 p.2
  | none => .vr 0
mutual
def lx (o : Option (Str × Str)) (nw : Th) : Th → Th
  | .nm x k => if o = some (x, k) then nw else .nm x k
  | .vr i => if o = none ∧ i = 0 then nw else .vr i
  | .bd i => .bd i
  | .mk f ts => .mk f (lxL o nw ts)
  | .qt w k t => .qt w k t
  | .qn w k l t => .qn w k l (lx o nw t)
  | .op w ts => .op w (lxL o nw ts)
def lxL (o : Option (Str × Str)) (nw : Th) : List Th → List Th
  | [] => []
  | t :: ts => lx o nw t :: lxL o nw ts
end
theorem lxL_map (o : Option (Str × Str)) (nw : Th) : ∀ ts : List Th, lxL o nw ts = ts.map (lx o nw)
  | [] => rfl
  | t :: ts => by rw [lxL, lxL_map o nw ts]; rfl
def lx1 (o : Option (Str × Str)) (nw : Th) : Th → Th
  | .mk f ts => .mk f (ts.map (lx o nw))
  | .qn w k l t => .qn w k l (lx o nw t)
  | .op w ts => .op w (ts.map (lx o nw))
  | t => t
theorem lx_eq (t : Th) (o : Option (Str × Str)) (nw : Th) (hu : na t = true) : lx o nw t = if (pd t).eqv (pd (ov o)) = true then nw else lx1 o nw t := by
  cases o with
  | none =>
    rw [ov, eqv_vr]
    cases t with
    | vr i =>
      rw [lx]
      by_cases e : i = 0
      · subst e; simp
      · simp [e, lx1]
    | nm x k => simp [lx, lx1]
    | mk f ts => simp [lx, lx1, lxL_map]
    | qn w k l t => simp [lx, lx1]
    | op w ts => simp [lx, lx1, lxL_map]
    | bd i => cases hu
    | qt w k t => cases hu
  | some p =>
    rw [ov, eqv_nm]
    cases t with
    | nm x k =>
      rw [lx]
      by_cases e : some p = some (x, k)
      · rw [if_pos e]; cases e; simp
      · rw [if_neg e]
        have : (x == p.1 && k == p.2) = false := by
          rw [Bool.and_eq_false_iff]
          by_cases e1 : x = p.1
          · right
            simp
            intro e2
            exact e (by rw [e1, e2])
          · left
            simpa using e1
        simp [this, lx1]
    | vr i => simp [lx, lx1]
    | mk f ts => simp [lx, lx1, lxL_map]
    | qn w k l t => simp [lx, lx1]
    | op w ts => simp [lx, lx1, lxL_map]
    | bd i => cases hu
    | qt w k t => cases hu
abbrev vn : Ob := .lst [.str (Str.ofString "var"), .str (Str.ofString "name")]
abbrev al : Ob := .lst [.str (Str.ofString "all"), .str (Str.ofString "some")]
theorem slc1 (w : W6) (ts : List Th) (μ : Mem) : evSlc (en (.op w ts)) (some 1) none μ = .ok (.tup (enL ts)) μ := by
  unfold evSlc
  simp [en, cut, cutN]
theorem f17_ok : ∀ (n : Nat) (t : Th) (o : Option (Str × Str)) (nw : Th), na t = true → ht t ≤ n → wd t ≤ 1000 → CallV n 17 [en t, en (ov o), en nw] (en (lx o nw t)) := by
  intro n
  induction n with
  | zero => intro t o nw hu hn; cases t <;> simp [ht] at hn
  | succ n ih =>
    intro t o nw hu hn hw μ
    rw [PI.run]
    show nrm .val μ (exL pr (PI.run pr n) f17.body [some (en t), some (en (ov o)), some (en nw), none] μ).out = _
    have hq := cmp_eq_en μ t (ov o) (by have : ht (ov o) = 1 := by cases o <;> rfl
                                        omega)
    rw [lx_eq t o nw hu]
    cases hb : (pd t).eqv (pd (ov o)) with
    | true =>
      rw [hb] at hq
      simp only [f17, hq, bind_ok, into_ok, seq_nx, seq_rt, seq_bk, seq_ct, out_rt, out_nx, vrD_ok, tup1, tup2, tup3, tup4, tup5, lst0, lst1, lst2, lst3, chB_t, chB_f, okB_some, tr_bl, setK_ok, kOk_eq, notK_eq, isNK_eq, notNK_eq, intO_ok, seqK_eq, strK_eq, rngK_eq, dctK_eq, consK_eq, someK_eq, noneK_eq, subK_ok, dropK_eq, retK_eq, asgK_eq, asgTK_eq, sub3_eq, binK_eq, cmpK_eq, idxK_eq, slcK2_eq, slcK_eq, ifK_eq, callK_eq, lK_eq, andK_eq, orK_eq, eltK_eq, allK_eq, lcK_eq, sub2_eq, sub1_eq, ifS_eq, forK_eq, e_var, e_ci, e_cs, e_cb, e_cn, e_not, e_isN, e_notN, e_bin, e_cmp, e_ifx, e_tup, e_lst, e_dnew, e_idx, e_slc, e_call, e_bi, e_isi, e_bm, e_lc, l_nil, l_cons, o_none, o_some, and_one, and_two, or_one, or_two, all_nil, all_one, trB_bl, i_seq, i_str, i_rng, i_keys, i_items, s_nil, s_cons, s_asg, s_asgT, s_sub, s_exp, s_ret, s_retN, s_if, s_for, List.getElem?_cons_zero, List.getElem?_cons_succ, List.set_cons_zero, List.set_cons_succ, List.length_cons, List.length_nil, Nat.reduceAdd, Nat.reduceLT, if_true, Bool.not_true, Bool.not_false]
      exact nrm_val0 (Gr.refl μ) (en_solid _)
    | false =>
      rw [hb] at hq
      have b1 := in_last (hd t) (Str.ofString "var") (Str.ofString "name") μ
      simp only [f17, hq, idx0, b1, bind_ok, into_ok, seq_nx, seq_rt, seq_bk, seq_ct, out_rt, out_nx, vrD_ok, tup1, tup2, tup3, tup4, tup5, lst0, lst1, lst2, lst3, chB_t, chB_f, okB_some, tr_bl, setK_ok, kOk_eq, notK_eq, isNK_eq, notNK_eq, intO_ok, seqK_eq, strK_eq, rngK_eq, dctK_eq, consK_eq, someK_eq, noneK_eq, subK_ok, dropK_eq, retK_eq, asgK_eq, asgTK_eq, sub3_eq, binK_eq, cmpK_eq, idxK_eq, slcK2_eq, slcK_eq, ifK_eq, callK_eq, lK_eq, andK_eq, orK_eq, eltK_eq, allK_eq, lcK_eq, sub2_eq, sub1_eq, ifS_eq, forK_eq, e_var, e_ci, e_cs, e_cb, e_cn, e_not, e_isN, e_notN, e_bin, e_cmp, e_ifx, e_tup, e_lst, e_dnew, e_idx, e_slc, e_call, e_bi, e_isi, e_bm, e_lc, l_nil, l_cons, o_none, o_some, and_one, and_two, or_one, or_two, all_nil, all_one, trB_bl, i_seq, i_str, i_rng, i_keys, i_items, s_nil, s_cons, s_asg, s_asgT, s_sub, s_exp, s_ret, s_retN, s_if, s_for, List.getElem?_cons_zero, List.getElem?_cons_succ, List.set_cons_zero, List.set_cons_succ, List.length_cons, List.length_nil, Nat.reduceAdd, Nat.reduceLT, if_true, Bool.not_true, Bool.not_false]
      have b2 := in_last (hd t) (Str.ofString "all") (Str.ofString "some") (μ ++ [vn])
      cases t with
      | nm x k =>
        have a1 : (Str.ofString "var" == hd (.nm x k) || Str.ofString "name" == hd (.nm x k)) = true := rfl
        simp only [a1, bind_ok, into_ok, seq_nx, seq_rt, seq_bk, seq_ct, out_rt, out_nx, vrD_ok, tup1, tup2, tup3, tup4, tup5, lst0, lst1, lst2, lst3, chB_t, chB_f, okB_some, tr_bl, setK_ok, kOk_eq, notK_eq, isNK_eq, notNK_eq, intO_ok, seqK_eq, strK_eq, rngK_eq, dctK_eq, consK_eq, someK_eq, noneK_eq, subK_ok, dropK_eq, retK_eq, asgK_eq, asgTK_eq, sub3_eq, binK_eq, cmpK_eq, idxK_eq, slcK2_eq, slcK_eq, ifK_eq, callK_eq, lK_eq, andK_eq, orK_eq, eltK_eq, allK_eq, lcK_eq, sub2_eq, sub1_eq, ifS_eq, forK_eq, e_var, e_ci, e_cs, e_cb, e_cn, e_not, e_isN, e_notN, e_bin, e_cmp, e_ifx, e_tup, e_lst, e_dnew, e_idx, e_slc, e_call, e_bi, e_isi, e_bm, e_lc, l_nil, l_cons, o_none, o_some, and_one, and_two, or_one, or_two, all_nil, all_one, trB_bl, i_seq, i_str, i_rng, i_keys, i_items, s_nil, s_cons, s_asg, s_asgT, s_sub, s_exp, s_ret, s_retN, s_if, s_for, List.getElem?_cons_zero, List.getElem?_cons_succ, List.set_cons_zero, List.set_cons_succ, List.length_cons, List.length_nil, Nat.reduceAdd, Nat.reduceLT, if_true, Bool.not_true, Bool.not_false]
        exact nrm_val0 (Gr.app μ _) (en_solid _)
      | vr i =>
        have a1 : (Str.ofString "var" == hd (.vr i) || Str.ofString "name" == hd (.vr i)) = true := rfl
        simp only [a1, bind_ok, into_ok, seq_nx, seq_rt, seq_bk, seq_ct, out_rt, out_nx, vrD_ok, tup1, tup2, tup3, tup4, tup5, lst0, lst1, lst2, lst3, chB_t, chB_f, okB_some, tr_bl, setK_ok, kOk_eq, notK_eq, isNK_eq, notNK_eq, intO_ok, seqK_eq, strK_eq, rngK_eq, dctK_eq, consK_eq, someK_eq, noneK_eq, subK_ok, dropK_eq, retK_eq, asgK_eq, asgTK_eq, sub3_eq, binK_eq, cmpK_eq, idxK_eq, slcK2_eq, slcK_eq, ifK_eq, callK_eq, lK_eq, andK_eq, orK_eq, eltK_eq, allK_eq, lcK_eq, sub2_eq, sub1_eq, ifS_eq, forK_eq, e_var, e_ci, e_cs, e_cb, e_cn, e_not, e_isN, e_notN, e_bin, e_cmp, e_ifx, e_tup, e_lst, e_dnew, e_idx, e_slc, e_call, e_bi, e_isi, e_bm, e_lc, l_nil, l_cons, o_none, o_some, and_one, and_two, or_one, or_two, all_nil, all_one, trB_bl, i_seq, i_str, i_rng, i_keys, i_items, s_nil, s_cons, s_asg, s_asgT, s_sub, s_exp, s_ret, s_retN, s_if, s_for, List.getElem?_cons_zero, List.getElem?_cons_succ, List.set_cons_zero, List.set_cons_succ, List.length_cons, List.length_nil, Nat.reduceAdd, Nat.reduceLT, if_true, Bool.not_true, Bool.not_false]
        exact nrm_val0 (Gr.app μ _) (en_solid _)
      | bd i => cases hu
      | qt w k t => cases hu
      | mk f ts =>
        have a1 : (Str.ofString "var" == hd (.mk f ts) || Str.ofString "name" == hd (.mk f ts)) = false := rfl
        have a2 : (hd (.mk f ts) == Str.ofString "made") = true := rfl
        have a4 : ∀ μ, evIdx (en (.mk f ts)) (.int 1) μ = .ok (.str f) μ := fun _ => rfl
        have a5 : ∀ μ, evIdx (en (.mk f ts)) (.int 2) μ = .ok (.tup (enL ts)) μ := fun _ => rfl
        have a6 : ∀ μ, itSeq μ (.tup (enL ts)) = .ok (enL ts, []) μ := fun _ => rfl
        rw [na] at hu
        rw [ht] at hn
        rw [wd] at hw
        have a7 := parts_ok (C := PI.run pr n) (σ := [some (en (.mk f ts)), some (en (ov o)), some (en nw), none]) (f := 17) (i := 3) (args := [.var 3, .var 1, .var 2]) (lx o nw) (μ ++ [vn]) ts (show 3 < 4 by decide) (by omega) fun x hx acc => by
          have h1 := ht_mem hx
          have h2 := wd_mem hx
          have z := ih x o nw (na_mem hu hx) (by omega) (by omega) (μ ++ [vn] ++ [.lst acc])
          simp only [z, bind_ok, into_ok, seq_nx, seq_rt, seq_bk, seq_ct, out_rt, out_nx, vrD_ok, tup1, tup2, tup3, tup4, tup5, lst0, lst1, lst2, lst3, chB_t, chB_f, okB_some, tr_bl, setK_ok, kOk_eq, notK_eq, isNK_eq, notNK_eq, intO_ok, seqK_eq, strK_eq, rngK_eq, dctK_eq, consK_eq, someK_eq, noneK_eq, subK_ok, dropK_eq, retK_eq, asgK_eq, asgTK_eq, sub3_eq, binK_eq, cmpK_eq, idxK_eq, slcK2_eq, slcK_eq, ifK_eq, callK_eq, lK_eq, andK_eq, orK_eq, eltK_eq, allK_eq, lcK_eq, sub2_eq, sub1_eq, ifS_eq, forK_eq, e_var, e_ci, e_cs, e_cb, e_cn, e_not, e_isN, e_notN, e_bin, e_cmp, e_ifx, e_tup, e_lst, e_dnew, e_idx, e_slc, e_call, e_bi, e_isi, e_bm, e_lc, l_nil, l_cons, o_none, o_some, and_one, and_two, or_one, or_two, all_nil, all_one, trB_bl, i_seq, i_str, i_rng, i_keys, i_items, s_nil, s_cons, s_asg, s_asgT, s_sub, s_exp, s_ret, s_retN, s_if, s_for, List.getElem?_cons_zero, List.getElem?_cons_succ, List.set_cons_zero, List.set_cons_succ, List.length_cons, List.length_nil, Nat.reduceAdd, Nat.reduceLT, if_true, Bool.not_true, Bool.not_false]
        simp only [a1, a2, a4, a5, a6, a7, idx0, eqs, evBI, one, tuple_last, bind_ok, into_ok, seq_nx, seq_rt, seq_bk, seq_ct, out_rt, out_nx, vrD_ok, tup1, tup2, tup3, tup4, tup5, lst0, lst1, lst2, lst3, chB_t, chB_f, okB_some, tr_bl, setK_ok, kOk_eq, notK_eq, isNK_eq, notNK_eq, intO_ok, seqK_eq, strK_eq, rngK_eq, dctK_eq, consK_eq, someK_eq, noneK_eq, subK_ok, dropK_eq, retK_eq, asgK_eq, asgTK_eq, sub3_eq, binK_eq, cmpK_eq, idxK_eq, slcK2_eq, slcK_eq, ifK_eq, callK_eq, lK_eq, andK_eq, orK_eq, eltK_eq, allK_eq, lcK_eq, sub2_eq, sub1_eq, ifS_eq, forK_eq, e_var, e_ci, e_cs, e_cb, e_cn, e_not, e_isN, e_notN, e_bin, e_cmp, e_ifx, e_tup, e_lst, e_dnew, e_idx, e_slc, e_call, e_bi, e_isi, e_bm, e_lc, l_nil, l_cons, o_none, o_some, and_one, and_two, or_one, or_two, all_nil, all_one, trB_bl, i_seq, i_str, i_rng, i_keys, i_items, s_nil, s_cons, s_asg, s_asgT, s_sub, s_exp, s_ret, s_retN, s_if, s_for, List.getElem?_cons_zero, List.getElem?_cons_succ, List.set_cons_zero, List.set_cons_succ, List.length_cons, List.length_nil, Nat.reduceAdd, Nat.reduceLT, if_true, Bool.not_true, Bool.not_false]
        have e : D.tup [.str (Str.ofString "made"), .str f, .tup (ts.map fun t => en (lx o nw t))] = en (lx1 o nw (.mk f ts)) := by
          rw [lx1, en, enL_map, List.map_map]
          rfl
        rw [e]
        exact nrm_val0 ((Gr.app μ _).trans0 (Gr.app _ _)) (en_solid _)
      | qn w k l t =>
        have a1 : (Str.ofString "var" == hd (.qn w k l t) || Str.ofString "name" == hd (.qn w k l t)) = false := by cases w <;> rfl
        have a2 : (hd (.qn w k l t) == Str.ofString "made") = false := by cases w <;> rfl
        have a3 : (Str.ofString "all" == hd (.qn w k l t) || Str.ofString "some" == hd (.qn w k l t)) = true := by cases w <;> rfl
        have a4 : ∀ μ, evIdx (en (.qn w k l t)) (.int 1) μ = .ok (.str k) μ := fun _ => rfl
        have a5 : ∀ μ, evIdx (en (.qn w k l t)) (.int 2) μ = .ok (.int (l : Nat)) μ := fun _ => rfl
        have a6 : ∀ μ, evIdx (en (.qn w k l t)) (.int 3) μ = .ok (en t) μ := fun _ => rfl
        have z := ih t o nw hu (by rw [ht] at hn; omega) (by rw [wd] at hw; exact hw) (μ ++ [vn] ++ [al])
        simp only [a1, a2, a3, a4, a5, a6, b2, z, idx0, eqs, bind_ok, into_ok, seq_nx, seq_rt, seq_bk, seq_ct, out_rt, out_nx, vrD_ok, tup1, tup2, tup3, tup4, tup5, lst0, lst1, lst2, lst3, chB_t, chB_f, okB_some, tr_bl, setK_ok, kOk_eq, notK_eq, isNK_eq, notNK_eq, intO_ok, seqK_eq, strK_eq, rngK_eq, dctK_eq, consK_eq, someK_eq, noneK_eq, subK_ok, dropK_eq, retK_eq, asgK_eq, asgTK_eq, sub3_eq, binK_eq, cmpK_eq, idxK_eq, slcK2_eq, slcK_eq, ifK_eq, callK_eq, lK_eq, andK_eq, orK_eq, eltK_eq, allK_eq, lcK_eq, sub2_eq, sub1_eq, ifS_eq, forK_eq, e_var, e_ci, e_cs, e_cb, e_cn, e_not, e_isN, e_notN, e_bin, e_cmp, e_ifx, e_tup, e_lst, e_dnew, e_idx, e_slc, e_call, e_bi, e_isi, e_bm, e_lc, l_nil, l_cons, o_none, o_some, and_one, and_two, or_one, or_two, all_nil, all_one, trB_bl, i_seq, i_str, i_rng, i_keys, i_items, s_nil, s_cons, s_asg, s_asgT, s_sub, s_exp, s_ret, s_retN, s_if, s_for, List.getElem?_cons_zero, List.getElem?_cons_succ, List.set_cons_zero, List.set_cons_succ, List.length_cons, List.length_nil, Nat.reduceAdd, Nat.reduceLT, if_true, Bool.not_true, Bool.not_false]
        have e : D.tup [.str (hd (.qn w k l t)), .str k, .int (l : Nat), en (lx o nw t)] = en (lx1 o nw (.qn w k l t)) := rfl
        rw [e]
        exact nrm_val0 ((Gr.app μ _).trans0 (Gr.app _ _)) (en_solid _)
      | op w ts =>
        have a1 : (Str.ofString "var" == hd (.op w ts) || Str.ofString "name" == hd (.op w ts)) = false := by cases w <;> rfl
        have a2 : (hd (.op w ts) == Str.ofString "made") = false := by cases w <;> rfl
        have a3 : (Str.ofString "all" == hd (.op w ts) || Str.ofString "some" == hd (.op w ts)) = false := by cases w <;> rfl
        have a6 : ∀ μ, itSeq μ (.tup (enL ts)) = .ok (enL ts, []) μ := fun _ => rfl
        rw [na] at hu
        rw [ht] at hn
        rw [wd] at hw
        have a7 := parts_ok (C := PI.run pr n) (σ := [some (en (.op w ts)), some (en (ov o)), some (en nw), none]) (f := 17) (i := 3) (args := [.var 3, .var 1, .var 2]) (lx o nw) (μ ++ [vn] ++ [al]) ts (show 3 < 4 by decide) (by omega) fun x hx acc => by
          have h1 := ht_mem hx
          have h2 := wd_mem hx
          have z := ih x o nw (na_mem hu hx) (by omega) (by omega) (μ ++ [vn] ++ [al] ++ [.lst acc])
          simp only [z, bind_ok, into_ok, seq_nx, seq_rt, seq_bk, seq_ct, out_rt, out_nx, vrD_ok, tup1, tup2, tup3, tup4, tup5, lst0, lst1, lst2, lst3, chB_t, chB_f, okB_some, tr_bl, setK_ok, kOk_eq, notK_eq, isNK_eq, notNK_eq, intO_ok, seqK_eq, strK_eq, rngK_eq, dctK_eq, consK_eq, someK_eq, noneK_eq, subK_ok, dropK_eq, retK_eq, asgK_eq, asgTK_eq, sub3_eq, binK_eq, cmpK_eq, idxK_eq, slcK2_eq, slcK_eq, ifK_eq, callK_eq, lK_eq, andK_eq, orK_eq, eltK_eq, allK_eq, lcK_eq, sub2_eq, sub1_eq, ifS_eq, forK_eq, e_var, e_ci, e_cs, e_cb, e_cn, e_not, e_isN, e_notN, e_bin, e_cmp, e_ifx, e_tup, e_lst, e_dnew, e_idx, e_slc, e_call, e_bi, e_isi, e_bm, e_lc, l_nil, l_cons, o_none, o_some, and_one, and_two, or_one, or_two, all_nil, all_one, trB_bl, i_seq, i_str, i_rng, i_keys, i_items, s_nil, s_cons, s_asg, s_asgT, s_sub, s_exp, s_ret, s_retN, s_if, s_for, List.getElem?_cons_zero, List.getElem?_cons_succ, List.set_cons_zero, List.set_cons_succ, List.length_cons, List.length_nil, Nat.reduceAdd, Nat.reduceLT, if_true, Bool.not_true, Bool.not_false]
        simp only [a1, a2, a3, a6, a7, b2, slc1, idx0, eqs, evBI, one, tuple_last, bind_ok, into_ok, seq_nx, seq_rt, seq_bk, seq_ct, out_rt, out_nx, vrD_ok, tup1, tup2, tup3, tup4, tup5, lst0, lst1, lst2, lst3, chB_t, chB_f, okB_some, tr_bl, setK_ok, kOk_eq, notK_eq, isNK_eq, notNK_eq, intO_ok, seqK_eq, strK_eq, rngK_eq, dctK_eq, consK_eq, someK_eq, noneK_eq, subK_ok, dropK_eq, retK_eq, asgK_eq, asgTK_eq, sub3_eq, binK_eq, cmpK_eq, idxK_eq, slcK2_eq, slcK_eq, ifK_eq, callK_eq, lK_eq, andK_eq, orK_eq, eltK_eq, allK_eq, lcK_eq, sub2_eq, sub1_eq, ifS_eq, forK_eq, e_var, e_ci, e_cs, e_cb, e_cn, e_not, e_isN, e_notN, e_bin, e_cmp, e_ifx, e_tup, e_lst, e_dnew, e_idx, e_slc, e_call, e_bi, e_isi, e_bm, e_lc, l_nil, l_cons, o_none, o_some, and_one, and_two, or_one, or_two, all_nil, all_one, trB_bl, i_seq, i_str, i_rng, i_keys, i_items, s_nil, s_cons, s_asg, s_asgT, s_sub, s_exp, s_ret, s_retN, s_if, s_for, List.getElem?_cons_zero, List.getElem?_cons_succ, List.set_cons_zero, List.set_cons_succ, List.length_cons, List.length_nil, Nat.reduceAdd, Nat.reduceLT, if_true, Bool.not_true, Bool.not_false]
        rw [add_tup (by rw [List.length_map]; unfold lim; simp only [List.length_cons, List.length_nil]; omega)]
        have e : D.tup ([.str (hd (.op w ts))] ++ ts.map fun t => en (lx o nw t)) = en (lx1 o nw (.op w ts)) := by
          rw [lx1, en, enL_map, List.map_map]
          rfl
        rw [e]
        simp only [bind_ok, into_ok, seq_nx, seq_rt, seq_bk, seq_ct, out_rt, out_nx, vrD_ok, tup1, tup2, tup3, tup4, tup5, lst0, lst1, lst2, lst3, chB_t, chB_f, okB_some, tr_bl, setK_ok, kOk_eq, notK_eq, isNK_eq, notNK_eq, intO_ok, seqK_eq, strK_eq, rngK_eq, dctK_eq, consK_eq, someK_eq, noneK_eq, subK_ok, dropK_eq, retK_eq, asgK_eq, asgTK_eq, sub3_eq, binK_eq, cmpK_eq, idxK_eq, slcK2_eq, slcK_eq, ifK_eq, callK_eq, lK_eq, andK_eq, orK_eq, eltK_eq, allK_eq, lcK_eq, sub2_eq, sub1_eq, ifS_eq, forK_eq, e_var, e_ci, e_cs, e_cb, e_cn, e_not, e_isN, e_notN, e_bin, e_cmp, e_ifx, e_tup, e_lst, e_dnew, e_idx, e_slc, e_call, e_bi, e_isi, e_bm, e_lc, l_nil, l_cons, o_none, o_some, and_one, and_two, or_one, or_two, all_nil, all_one, trB_bl, i_seq, i_str, i_rng, i_keys, i_items, s_nil, s_cons, s_asg, s_asgT, s_sub, s_exp, s_ret, s_retN, s_if, s_for, List.getElem?_cons_zero, List.getElem?_cons_succ, List.set_cons_zero, List.set_cons_succ, List.length_cons, List.length_nil, Nat.reduceAdd, Nat.reduceLT, if_true, Bool.not_true, Bool.not_false]
        exact nrm_val0 (((Gr.app μ _).trans0 (Gr.app _ _)).trans0 (Gr.app _ _)) (en_solid _)
/-! ### levels away -/
mutual
def unm (lv : List Nat) : Th → Th
  | .nm x k => .nm x k
  | .vr i => .bd (lv.findIdx (· == i))
  | .bd k => .bd k
  | .mk f ts => .mk f (unmL lv ts)
  | .qn w k l t => .qt w k (unm (l :: lv) t)
  | .qt w k t => .qt w k t
  | .op w ts => .op w (unmL lv ts)
def unmL (lv : List Nat) : List Th → List Th
  | [] => []
  | t :: ts => unm lv t :: unmL lv ts
end
theorem unmL_map (lv : List Nat) : ∀ ts : List Th, unmL lv ts = ts.map (unm lv)
  | [] => rfl
  | t :: ts => by rw [unmL, unmL_map lv ts]; rfl
mutual
/-- every level within is told -/
def vrs (lv : List Nat) : Th → Bool
  | .vr i => lv.contains i
  | .mk _ ts => vrsL lv ts
  | .op _ ts => vrsL lv ts
  | .qn _ _ l t => vrs (l :: lv) t
  | _ => true
def vrsL (lv : List Nat) : List Th → Bool
  | [] => true
  | t :: ts => vrs lv t && vrsL lv ts
end
theorem vrs_mem {lv : List Nat} {t : Th} : ∀ {ts : List Th}, vrsL lv ts = true → t ∈ ts → vrs lv t = true
  | x :: ts, hu, h => by
    rw [vrsL, Bool.and_eq_true] at hu
    rcases List.mem_cons.mp h with e | h
    · rw [e]; exact hu.1
    · exact vrs_mem hu.2 h
theorem index_ivs (i : Nat) : ∀ (lv : List Nat) (k : Nat), i ∈ lv → indexOf (.int (i : Nat)) (ivs lv) k = some (k + lv.findIdx (· == i))
  | [], _, h => absurd h List.not_mem_nil
  | j :: lv, k, h => by
    unfold ivs
    rw [List.map_cons, indexOf, List.findIdx_cons]
    by_cases e : j = i
    · subst e
      simp [eqF]
    · have e1 : eqF (.int (j : Nat)) (.int (i : Nat)) = false := by simp [eqF]; omega
      have e2 : (j == i) = false := by simpa using e
      have z := index_ivs i lv (k + 1) ((List.mem_cons.mp h).resolve_left fun q => e q.symm)
      unfold ivs at z
      rw [e1, e2]
      simp only [Bool.false_eq_true, if_false, cond_false]
      rw [z]
      congr 1
      omega
theorem index_loc {c : Nat} {μ : Mem} {lv : List Nat} {i : Nat} (h : μ[c]? = some (.lst (ivs lv))) (hi : i ∈ lv) : evBM .index (.loc c) [.int (i : Nat)] μ = .ok (.int (lv.findIdx (· == i) : Nat)) μ := by
  unfold evBM one1 bmIndex lstS lstOf
  simp only [h]
  have fl : (ivs lv).all flat = true := by
    unfold ivs
    rw [List.all_map]
    exact List.all_eq_true.mpr fun _ _ => rfl
  rw [index_ivs i lv 0 hi, fl]
  simp [flat]
theorem f18_ok : ∀ (n : Nat) (t : Th) (lv : List Nat), na t = true → ht t ≤ n → wd t ≤ 1000 → vrs lv t = true → lv.length + ht t ≤ 1000 → ∀ (μ : Mem) (c : Nat), μ[c]? = some (.lst (ivs lv)) → nrm .val μ (PI.run pr n 18 [en t, .loc c] μ) = .ok (en (unm lv t)) μ := by
  intro n
  induction n with
  | zero => intro t lv hu hn; cases t <;> simp [ht] at hn
  | succ n ih =>
    intro t lv hu hn hw hb hlv μ c hc
    rw [PI.run]
    show nrm .val μ (exL pr (PI.run pr n) f18.body [some (en t), some (.loc c), none, none] μ).out = _
    simp only [f18, idx0, eqs, bind_ok, into_ok, seq_nx, seq_rt, seq_bk, seq_ct, out_rt, out_nx, vrD_ok, tup1, tup2, tup3, tup4, tup5, lst0, lst1, lst2, lst3, chB_t, chB_f, okB_some, tr_bl, setK_ok, kOk_eq, notK_eq, isNK_eq, notNK_eq, intO_ok, seqK_eq, strK_eq, rngK_eq, dctK_eq, consK_eq, someK_eq, noneK_eq, subK_ok, dropK_eq, retK_eq, asgK_eq, asgTK_eq, sub3_eq, binK_eq, cmpK_eq, idxK_eq, slcK2_eq, slcK_eq, ifK_eq, callK_eq, lK_eq, andK_eq, orK_eq, eltK_eq, allK_eq, lcK_eq, sub2_eq, sub1_eq, ifS_eq, forK_eq, e_var, e_ci, e_cs, e_cb, e_cn, e_not, e_isN, e_notN, e_bin, e_cmp, e_ifx, e_tup, e_lst, e_dnew, e_idx, e_slc, e_call, e_bi, e_isi, e_bm, e_lc, l_nil, l_cons, o_none, o_some, and_one, and_two, or_one, or_two, all_nil, all_one, trB_bl, i_seq, i_str, i_rng, i_keys, i_items, s_nil, s_cons, s_asg, s_asgT, s_sub, s_exp, s_ret, s_retN, s_if, s_for, List.getElem?_cons_zero, List.getElem?_cons_succ, List.set_cons_zero, List.set_cons_succ, List.length_cons, List.length_nil, Nat.reduceAdd, Nat.reduceLT, if_true, Bool.not_true, Bool.not_false]
    have step : ∀ (x : Th) (μ' : Mem), na x = true → ht x ≤ n → wd x ≤ 1000 → vrs lv x = true → lv.length + ht x ≤ 1000 → Gr [] μ μ' → nrm .val μ' (PI.run pr n 18 [en x, .loc c] μ') = .ok (en (unm lv x)) μ' := fun x μ' h1 h2 h3 h4 h5 g => ih x lv h1 h2 h3 h4 h5 μ' c (g.get hc)
    cases t with
    | nm x k =>
      have a1 : (hd (.nm x k) == Str.ofString "var") = false := rfl
      have a2 : (hd (.nm x k) == Str.ofString "name") = true := rfl
      simp only [a1, a2, eqs, bind_ok, into_ok, seq_nx, seq_rt, seq_bk, seq_ct, out_rt, out_nx, vrD_ok, tup1, tup2, tup3, tup4, tup5, lst0, lst1, lst2, lst3, chB_t, chB_f, okB_some, tr_bl, setK_ok, kOk_eq, notK_eq, isNK_eq, notNK_eq, intO_ok, seqK_eq, strK_eq, rngK_eq, dctK_eq, consK_eq, someK_eq, noneK_eq, subK_ok, dropK_eq, retK_eq, asgK_eq, asgTK_eq, sub3_eq, binK_eq, cmpK_eq, idxK_eq, slcK2_eq, slcK_eq, ifK_eq, callK_eq, lK_eq, andK_eq, orK_eq, eltK_eq, allK_eq, lcK_eq, sub2_eq, sub1_eq, ifS_eq, forK_eq, e_var, e_ci, e_cs, e_cb, e_cn, e_not, e_isN, e_notN, e_bin, e_cmp, e_ifx, e_tup, e_lst, e_dnew, e_idx, e_slc, e_call, e_bi, e_isi, e_bm, e_lc, l_nil, l_cons, o_none, o_some, and_one, and_two, or_one, or_two, all_nil, all_one, trB_bl, i_seq, i_str, i_rng, i_keys, i_items, s_nil, s_cons, s_asg, s_asgT, s_sub, s_exp, s_ret, s_retN, s_if, s_for, List.getElem?_cons_zero, List.getElem?_cons_succ, List.set_cons_zero, List.set_cons_succ, List.length_cons, List.length_nil, Nat.reduceAdd, Nat.reduceLT, if_true, Bool.not_true, Bool.not_false]
      exact nrm_val0 (Gr.refl μ) (en_solid _)
    | vr i =>
      have a1 : (hd (.vr i) == Str.ofString "var") = true := rfl
      have a2 : evIdx (en (.vr i)) (.int 1) μ = .ok (.int (i : Nat)) μ := rfl
      rw [vrs] at hb
      have hi : i ∈ lv := by simpa using hb
      have a3 : lstS μ (.loc c) = some (ivs lv) := by
        show lstOf μ (.loc c) = _
        simp only [lstOf, hc]
      simp only [a1, a2, bmK_ok pr _ _ a3, index_loc hc hi, bind_ok, into_ok, seq_nx, seq_rt, seq_bk, seq_ct, out_rt, out_nx, vrD_ok, tup1, tup2, tup3, tup4, tup5, lst0, lst1, lst2, lst3, chB_t, chB_f, okB_some, tr_bl, setK_ok, kOk_eq, notK_eq, isNK_eq, notNK_eq, intO_ok, seqK_eq, strK_eq, rngK_eq, dctK_eq, consK_eq, someK_eq, noneK_eq, subK_ok, dropK_eq, retK_eq, asgK_eq, asgTK_eq, sub3_eq, binK_eq, cmpK_eq, idxK_eq, slcK2_eq, slcK_eq, ifK_eq, callK_eq, lK_eq, andK_eq, orK_eq, eltK_eq, allK_eq, lcK_eq, sub2_eq, sub1_eq, ifS_eq, forK_eq, e_var, e_ci, e_cs, e_cb, e_cn, e_not, e_isN, e_notN, e_bin, e_cmp, e_ifx, e_tup, e_lst, e_dnew, e_idx, e_slc, e_call, e_bi, e_isi, e_bm, e_lc, l_nil, l_cons, o_none, o_some, and_one, and_two, or_one, or_two, all_nil, all_one, trB_bl, i_seq, i_str, i_rng, i_keys, i_items, s_nil, s_cons, s_asg, s_asgT, s_sub, s_exp, s_ret, s_retN, s_if, s_for, List.getElem?_cons_zero, List.getElem?_cons_succ, List.set_cons_zero, List.set_cons_succ, List.length_cons, List.length_nil, Nat.reduceAdd, Nat.reduceLT, if_true, Bool.not_true, Bool.not_false]
      exact nrm_val0 (Gr.refl μ) (en_solid (.bd (lv.findIdx (· == i))))
    | bd i => cases hu
    | qt w k t => cases hu
    | mk f ts =>
      have a1 : (hd (.mk f ts) == Str.ofString "var") = false := rfl
      have a2 : (hd (.mk f ts) == Str.ofString "name") = false := rfl
      have a3 : (hd (.mk f ts) == Str.ofString "made") = true := rfl
      have a4 : evIdx (en (.mk f ts)) (.int 1) μ = .ok (.str f) μ := rfl
      have a5 : evIdx (en (.mk f ts)) (.int 2) μ = .ok (.tup (enL ts)) μ := rfl
      have a6 : itSeq μ (.tup (enL ts)) = .ok (enL ts, []) μ := rfl
      rw [na] at hu
      rw [ht] at hn hlv
      rw [wd] at hw
      rw [vrs] at hb
      have a7 := parts_ok (C := PI.run pr n) (σ := [some (en (.mk f ts)), some (.loc c), some (.str (hd (.mk f ts))), none]) (f := 18) (i := 3) (args := [.var 3, .var 1]) (unm lv) μ ts (show 3 < 4 by decide) (by omega) fun x hx acc => by
        have h1 := ht_mem hx
        have h2 := wd_mem hx
        simp only [step x (μ ++ [.lst acc]) (na_mem hu hx) (by omega) (by omega) (vrs_mem hb hx) (by omega) (Gr.app μ _), bind_ok, into_ok, seq_nx, seq_rt, seq_bk, seq_ct, out_rt, out_nx, vrD_ok, tup1, tup2, tup3, tup4, tup5, lst0, lst1, lst2, lst3, chB_t, chB_f, okB_some, tr_bl, setK_ok, kOk_eq, notK_eq, isNK_eq, notNK_eq, intO_ok, seqK_eq, strK_eq, rngK_eq, dctK_eq, consK_eq, someK_eq, noneK_eq, subK_ok, dropK_eq, retK_eq, asgK_eq, asgTK_eq, sub3_eq, binK_eq, cmpK_eq, idxK_eq, slcK2_eq, slcK_eq, ifK_eq, callK_eq, lK_eq, andK_eq, orK_eq, eltK_eq, allK_eq, lcK_eq, sub2_eq, sub1_eq, ifS_eq, forK_eq, e_var, e_ci, e_cs, e_cb, e_cn, e_not, e_isN, e_notN, e_bin, e_cmp, e_ifx, e_tup, e_lst, e_dnew, e_idx, e_slc, e_call, e_bi, e_isi, e_bm, e_lc, l_nil, l_cons, o_none, o_some, and_one, and_two, or_one, or_two, all_nil, all_one, trB_bl, i_seq, i_str, i_rng, i_keys, i_items, s_nil, s_cons, s_asg, s_asgT, s_sub, s_exp, s_ret, s_retN, s_if, s_for, List.getElem?_cons_zero, List.getElem?_cons_succ, List.set_cons_zero, List.set_cons_succ, List.length_cons, List.length_nil, Nat.reduceAdd, Nat.reduceLT, if_true, Bool.not_true, Bool.not_false]
      simp only [a1, a2, a3, a4, a5, a6, a7, eqs, evBI, one, tuple_last, bind_ok, into_ok, seq_nx, seq_rt, seq_bk, seq_ct, out_rt, out_nx, vrD_ok, tup1, tup2, tup3, tup4, tup5, lst0, lst1, lst2, lst3, chB_t, chB_f, okB_some, tr_bl, setK_ok, kOk_eq, notK_eq, isNK_eq, notNK_eq, intO_ok, seqK_eq, strK_eq, rngK_eq, dctK_eq, consK_eq, someK_eq, noneK_eq, subK_ok, dropK_eq, retK_eq, asgK_eq, asgTK_eq, sub3_eq, binK_eq, cmpK_eq, idxK_eq, slcK2_eq, slcK_eq, ifK_eq, callK_eq, lK_eq, andK_eq, orK_eq, eltK_eq, allK_eq, lcK_eq, sub2_eq, sub1_eq, ifS_eq, forK_eq, e_var, e_ci, e_cs, e_cb, e_cn, e_not, e_isN, e_notN, e_bin, e_cmp, e_ifx, e_tup, e_lst, e_dnew, e_idx, e_slc, e_call, e_bi, e_isi, e_bm, e_lc, l_nil, l_cons, o_none, o_some, and_one, and_two, or_one, or_two, all_nil, all_one, trB_bl, i_seq, i_str, i_rng, i_keys, i_items, s_nil, s_cons, s_asg, s_asgT, s_sub, s_exp, s_ret, s_retN, s_if, s_for, List.getElem?_cons_zero, List.getElem?_cons_succ, List.set_cons_zero, List.set_cons_succ, List.length_cons, List.length_nil, Nat.reduceAdd, Nat.reduceLT, if_true, Bool.not_true, Bool.not_false]
      have e : D.tup [.str (Str.ofString "made"), .str f, .tup (ts.map fun t => en (unm lv t))] = en (unm lv (.mk f ts)) := by
        rw [unm, en, enL_map, unmL_map, List.map_map]
        rfl
      rw [e]
      exact nrm_val0 (Gr.app μ _) (en_solid _)
    | qn w k l t =>
      have a1 : (hd (.qn w k l t) == Str.ofString "var") = false := by cases w <;> rfl
      have a2 : (hd (.qn w k l t) == Str.ofString "name") = false := by cases w <;> rfl
      have a3 : (hd (.qn w k l t) == Str.ofString "made") = false := by cases w <;> rfl
      have a4 : (Str.ofString "all" == hd (.qn w k l t) || Str.ofString "some" == hd (.qn w k l t)) = true := by cases w <;> rfl
      have a5 : ∀ μ, evIdx (en (.qn w k l t)) (.int 1) μ = .ok (.str k) μ := fun _ => rfl
      have a6 : ∀ μ, evIdx (en (.qn w k l t)) (.int 2) μ = .ok (.int (l : Nat)) μ := fun _ => rfl
      have a8 : ∀ μ, evIdx (en (.qn w k l t)) (.int 3) μ = .ok (en t) μ := fun _ => rfl
      have hc1 : (μ ++ [al])[c]? = some (.lst (ivs lv)) := (Gr.app μ _).get hc
      rw [na] at hu
      rw [ht] at hn hlv
      rw [wd] at hw
      rw [vrs] at hb
      have b9 := in_last (hd (.qn w k l t)) (Str.ofString "all") (Str.ofString "some") μ
      generalize hm1 : μ ++ [.lst [.str (Str.ofString "all"), .str (Str.ofString "some")]] = μ1 at hc1 b9
      have g1 : Gr [] μ μ1 := by rw [← hm1]; exact Gr.app μ _
      have b1 := add_locs (get_last μ1 (.lst [.int (l : Nat)])) ((Gr.app μ1 [.lst [.int (l : Nat)]]).get hc1) (by rw [ivs_len]; unfold lim; simp only [List.length_cons, List.length_nil]; omega)
      have b2 := ih t (l :: lv) hu (by omega) hw hb (by rw [List.length_cons]; omega) _ _ (get_last (μ1 ++ [.lst [.int (l : Nat)]]) (.lst ([.int (l : Nat)] ++ ivs lv)))
      simp only [a1, a2, a3, a4, a5, a6, a8, eqs, b9, hm1, b1, b2, bind_ok, into_ok, seq_nx, seq_rt, seq_bk, seq_ct, out_rt, out_nx, vrD_ok, tup1, tup2, tup3, tup4, tup5, lst0, lst1, lst2, lst3, chB_t, chB_f, okB_some, tr_bl, setK_ok, kOk_eq, notK_eq, isNK_eq, notNK_eq, intO_ok, seqK_eq, strK_eq, rngK_eq, dctK_eq, consK_eq, someK_eq, noneK_eq, subK_ok, dropK_eq, retK_eq, asgK_eq, asgTK_eq, sub3_eq, binK_eq, cmpK_eq, idxK_eq, slcK2_eq, slcK_eq, ifK_eq, callK_eq, lK_eq, andK_eq, orK_eq, eltK_eq, allK_eq, lcK_eq, sub2_eq, sub1_eq, ifS_eq, forK_eq, e_var, e_ci, e_cs, e_cb, e_cn, e_not, e_isN, e_notN, e_bin, e_cmp, e_ifx, e_tup, e_lst, e_dnew, e_idx, e_slc, e_call, e_bi, e_isi, e_bm, e_lc, l_nil, l_cons, o_none, o_some, and_one, and_two, or_one, or_two, all_nil, all_one, trB_bl, i_seq, i_str, i_rng, i_keys, i_items, s_nil, s_cons, s_asg, s_asgT, s_sub, s_exp, s_ret, s_retN, s_if, s_for, List.getElem?_cons_zero, List.getElem?_cons_succ, List.set_cons_zero, List.set_cons_succ, List.length_cons, List.length_nil, Nat.reduceAdd, Nat.reduceLT, if_true, Bool.not_true, Bool.not_false]
      have e : D.tup [.str (hd (.qn w k l t)), .str k, en (unm (l :: lv) t)] = en (unm lv (.qn w k l t)) := rfl
      rw [e]
      exact nrm_val0 (g1.trans0 ((Gr.app μ1 _).trans0 (Gr.app _ _))) (en_solid _)
    | op w ts =>
      have a1 : (hd (.op w ts) == Str.ofString "var") = false := by cases w <;> rfl
      have a2 : (hd (.op w ts) == Str.ofString "name") = false := by cases w <;> rfl
      have a3 : (hd (.op w ts) == Str.ofString "made") = false := by cases w <;> rfl
      have a4 : (Str.ofString "all" == hd (.op w ts) || Str.ofString "some" == hd (.op w ts)) = false := by cases w <;> rfl
      have a6 : ∀ μ, itSeq μ (.tup (enL ts)) = .ok (enL ts, []) μ := fun _ => rfl
      rw [na] at hu
      rw [ht] at hn hlv
      rw [wd] at hw
      rw [vrs] at hb
      have a7 := parts_ok (C := PI.run pr n) (σ := [some (en (.op w ts)), some (.loc c), some (.str (hd (.op w ts))), none]) (f := 18) (i := 3) (args := [.var 3, .var 1]) (unm lv) (μ ++ [al]) ts (show 3 < 4 by decide) (by omega) fun x hx acc => by
        have h1 := ht_mem hx
        have h2 := wd_mem hx
        simp only [step x (μ ++ [al] ++ [.lst acc]) (na_mem hu hx) (by omega) (by omega) (vrs_mem hb hx) (by omega) ((Gr.app μ _).trans0 (Gr.app _ _)), bind_ok, into_ok, seq_nx, seq_rt, seq_bk, seq_ct, out_rt, out_nx, vrD_ok, tup1, tup2, tup3, tup4, tup5, lst0, lst1, lst2, lst3, chB_t, chB_f, okB_some, tr_bl, setK_ok, kOk_eq, notK_eq, isNK_eq, notNK_eq, intO_ok, seqK_eq, strK_eq, rngK_eq, dctK_eq, consK_eq, someK_eq, noneK_eq, subK_ok, dropK_eq, retK_eq, asgK_eq, asgTK_eq, sub3_eq, binK_eq, cmpK_eq, idxK_eq, slcK2_eq, slcK_eq, ifK_eq, callK_eq, lK_eq, andK_eq, orK_eq, eltK_eq, allK_eq, lcK_eq, sub2_eq, sub1_eq, ifS_eq, forK_eq, e_var, e_ci, e_cs, e_cb, e_cn, e_not, e_isN, e_notN, e_bin, e_cmp, e_ifx, e_tup, e_lst, e_dnew, e_idx, e_slc, e_call, e_bi, e_isi, e_bm, e_lc, l_nil, l_cons, o_none, o_some, and_one, and_two, or_one, or_two, all_nil, all_one, trB_bl, i_seq, i_str, i_rng, i_keys, i_items, s_nil, s_cons, s_asg, s_asgT, s_sub, s_exp, s_ret, s_retN, s_if, s_for, List.getElem?_cons_zero, List.getElem?_cons_succ, List.set_cons_zero, List.set_cons_succ, List.length_cons, List.length_nil, Nat.reduceAdd, Nat.reduceLT, if_true, Bool.not_true, Bool.not_false]
      simp only [a1, a2, a3, a4, a6, a7, slc1, eqs, in_last, evBI, one, tuple_last, bind_ok, into_ok, seq_nx, seq_rt, seq_bk, seq_ct, out_rt, out_nx, vrD_ok, tup1, tup2, tup3, tup4, tup5, lst0, lst1, lst2, lst3, chB_t, chB_f, okB_some, tr_bl, setK_ok, kOk_eq, notK_eq, isNK_eq, notNK_eq, intO_ok, seqK_eq, strK_eq, rngK_eq, dctK_eq, consK_eq, someK_eq, noneK_eq, subK_ok, dropK_eq, retK_eq, asgK_eq, asgTK_eq, sub3_eq, binK_eq, cmpK_eq, idxK_eq, slcK2_eq, slcK_eq, ifK_eq, callK_eq, lK_eq, andK_eq, orK_eq, eltK_eq, allK_eq, lcK_eq, sub2_eq, sub1_eq, ifS_eq, forK_eq, e_var, e_ci, e_cs, e_cb, e_cn, e_not, e_isN, e_notN, e_bin, e_cmp, e_ifx, e_tup, e_lst, e_dnew, e_idx, e_slc, e_call, e_bi, e_isi, e_bm, e_lc, l_nil, l_cons, o_none, o_some, and_one, and_two, or_one, or_two, all_nil, all_one, trB_bl, i_seq, i_str, i_rng, i_keys, i_items, s_nil, s_cons, s_asg, s_asgT, s_sub, s_exp, s_ret, s_retN, s_if, s_for, List.getElem?_cons_zero, List.getElem?_cons_succ, List.set_cons_zero, List.set_cons_succ, List.length_cons, List.length_nil, Nat.reduceAdd, Nat.reduceLT, if_true, Bool.not_true, Bool.not_false]
      rw [add_tup (by rw [List.length_map]; unfold lim; simp only [List.length_cons, List.length_nil]; omega)]
      have e : D.tup ([.str (hd (.op w ts))] ++ ts.map fun t => en (unm lv t)) = en (unm lv (.op w ts)) := by
        rw [unm, en, enL_map, unmL_map, List.map_map]
        rfl
      rw [e]
      simp only [bind_ok, into_ok, seq_nx, seq_rt, seq_bk, seq_ct, out_rt, out_nx, vrD_ok, tup1, tup2, tup3, tup4, tup5, lst0, lst1, lst2, lst3, chB_t, chB_f, okB_some, tr_bl, setK_ok, kOk_eq, notK_eq, isNK_eq, notNK_eq, intO_ok, seqK_eq, strK_eq, rngK_eq, dctK_eq, consK_eq, someK_eq, noneK_eq, subK_ok, dropK_eq, retK_eq, asgK_eq, asgTK_eq, sub3_eq, binK_eq, cmpK_eq, idxK_eq, slcK2_eq, slcK_eq, ifK_eq, callK_eq, lK_eq, andK_eq, orK_eq, eltK_eq, allK_eq, lcK_eq, sub2_eq, sub1_eq, ifS_eq, forK_eq, e_var, e_ci, e_cs, e_cb, e_cn, e_not, e_isN, e_notN, e_bin, e_cmp, e_ifx, e_tup, e_lst, e_dnew, e_idx, e_slc, e_call, e_bi, e_isi, e_bm, e_lc, l_nil, l_cons, o_none, o_some, and_one, and_two, or_one, or_two, all_nil, all_one, trB_bl, i_seq, i_str, i_rng, i_keys, i_items, s_nil, s_cons, s_asg, s_asgT, s_sub, s_exp, s_ret, s_retN, s_if, s_for, List.getElem?_cons_zero, List.getElem?_cons_succ, List.set_cons_zero, List.set_cons_succ, List.length_cons, List.length_nil, Nat.reduceAdd, Nat.reduceLT, if_true, Bool.not_true, Bool.not_false]
      exact nrm_val0 ((Gr.app μ _).trans0 (Gr.app _ _)) (en_solid _)
end K32

/-! k32: the plain law of opening and shutting -/
namespace K32
open PySem PI
def lv0 : Nat → List Nat
  | 0 => [0]
  | d + 1 => (d + 1) :: lv0 d
def lv1 : Nat → List Nat
  | 0 => []
  | d + 1 => (d + 1) :: lv1 d
theorem lv0_len : ∀ d, (lv0 d).length = d + 1
  | 0 => rfl
  | d + 1 => by rw [lv0, List.length_cons, lv0_len d]
theorem lv0_get : ∀ (d k : Nat), k ≤ d → (lv0 d).getD k 0 = d - k
  | 0, 0, _ => rfl
  | 0, k + 1, h => by omega
  | d + 1, 0, _ => rfl
  | d + 1, k + 1, h => by
    have z := lv0_get d k (by omega)
    rw [lv0, List.getD_cons_succ, z]
    omega
theorem lv0_ix : ∀ (d i : Nat), i ≤ d → (lv0 d).findIdx (· == i) = d - i
  | 0, 0, _ => rfl
  | 0, i + 1, h => by omega
  | d + 1, i, h => by
    rw [lv0, List.findIdx_cons]
    by_cases e : d + 1 = i
    · subst e; simp
    · have e2 : (d + 1 == i) = false := by simpa using e
      rw [e2, cond_false, lv0_ix d i (by omega)]
      omega
theorem lv1_ix : ∀ (d i : Nat), 1 ≤ i → i ≤ d → (lv1 d).findIdx (· == i) = d - i
  | 0, i, _, _ => by omega
  | d + 1, i, h1, h => by
    rw [lv1, List.findIdx_cons]
    by_cases e : d + 1 = i
    · subst e; simp
    · have e2 : (d + 1 == i) = false := by simpa using e
      rw [e2, cond_false, lv1_ix d i h1 (by omega)]
      omega
theorem lv0_mem : ∀ (d i : Nat), i ≤ d → (lv0 d).contains i = true
  | 0, 0, _ => rfl
  | 0, i + 1, h => by omega
  | d + 1, i, h => by
    rw [lv0, List.contains_cons]
    by_cases e : i = d + 1
    · subst e; simp
    · rw [lv0_mem d i (by omega), Bool.or_true]
theorem lv1_mem : ∀ (d i : Nat), 1 ≤ i → i ≤ d → (lv1 d).contains i = true
  | 0, i, _, _ => by omega
  | d + 1, i, h1, h => by
    rw [lv1, List.contains_cons]
    by_cases e : i = d + 1
    · subst e; simp
    · rw [lv1_mem d i h1 (by omega), Bool.or_true]
mutual
theorem unm_clean (lv : List Nat) : ∀ t : Th, un t = true → na t = true → unm lv t = t
  | .nm _ _, _, _ => rfl
  | .bd _, _, h => by cases h
  | .vr _, h, _ => by cases h
  | .mk f ts, h, h' => by rw [unm, unmL_clean lv ts (by rw [un] at h; exact h) (by rw [na] at h'; exact h')]
  | .op w ts, h, h' => by rw [unm, unmL_clean lv ts (by rw [un] at h; exact h) (by rw [na] at h'; exact h')]
  | .qt _ _ _, _, h => by cases h
  | .qn _ _ _ _, h, _ => by cases h
theorem unmL_clean (lv : List Nat) : ∀ ts : List Th, unL ts = true → naL ts = true → unmL lv ts = ts
  | [], _, _ => rfl
  | t :: ts, h, h' => by
    rw [unL, Bool.and_eq_true] at h
    rw [naL, Bool.and_eq_true] at h'
    rw [unmL, unm_clean lv t h.1 h'.1, unmL_clean lv ts h.2 h'.2]
end
mutual
theorem open_law {s : Th} (hs : un s = true) (hs' : na s = true) : ∀ (t : Th) (d : Nat), un t = true → bds (d + 1) t = true → unm (lv1 d) (lx none s (nmd (lv0 d) t)) = ex none (some s) d t
  | .nm x k, d, _, _ => by simp [nmd, lx, unm, ex]
  | .bd k, d, _, hb => by
    rw [bds, decide_eq_true_eq] at hb
    rw [nmd, lv0_get d k (by omega), lx, ex]
    by_cases e : k = d
    · subst e
      rw [if_pos ⟨rfl, by omega⟩, if_pos ⟨rfl, rfl⟩, unm_clean _ s hs hs']
      rfl
    · rw [if_neg (by omega), if_neg (by omega), unm, lv1_ix d (d - k) (by omega) (by omega)]
      congr 1
      omega
  | .vr _, _, h, _ => by cases h
  | .mk f ts, d, h, hb => by
    rw [un] at h
    rw [bds] at hb
    rw [nmd, lx, unm, ex, open_lawL hs hs' ts d h hb]
  | .op w ts, d, h, hb => by
    rw [un] at h
    rw [bds] at hb
    rw [nmd, lx, unm, ex, open_lawL hs hs' ts d h hb]
  | .qt w k t, d, h, hb => by
    rw [un] at h
    rw [bds] at hb
    have z := open_law hs hs' t (d + 1) h hb
    rw [nmd, lv0_len, lx, unm, ex]
    exact congrArg (Th.qt w k) z
  | .qn _ _ _ _, _, h, _ => by cases h
theorem open_lawL {s : Th} (hs : un s = true) (hs' : na s = true) : ∀ (ts : List Th) (d : Nat), unL ts = true → bdsL (d + 1) ts = true → unmL (lv1 d) (lxL none s (nmdL (lv0 d) ts)) = exL' none (some s) d ts
  | [], _, _, _ => rfl
  | t :: ts, d, h, hb => by
    rw [unL, Bool.and_eq_true] at h
    rw [bdsL, Bool.and_eq_true] at hb
    rw [nmdL, lxL, unmL, exL', open_law hs hs' t d h.1 hb.1, open_lawL hs hs' ts d h.2 hb.2]
end
/-- what is put in by a level -/
def lvBy : Option Th → Th
  | none => .vr 0
  | some s => s
mutual
theorem shut_law {p : Str × Str} {by_ : Option Th} (hs : ∀ s, by_ = some s → un s = true ∧ na s = true) : ∀ (t : Th) (d : Nat), un t = true → bds d t = true → unm (lv0 d) (lx (some p) (lvBy by_) (nmd (lv0 d) t)) = ex (some p) by_ d t
  | .nm x k, d, _, _ => by
    rw [nmd, lx, ex]
    by_cases e : some p = some (x, k)
    · rw [if_pos e, if_pos e]
      cases by_ with
      | none =>
        show unm (lv0 d) (.vr 0) = .bd d
        rw [unm, lv0_ix d 0 (by omega)]
        rfl
      | some s => exact unm_clean _ s (hs s rfl).1 (hs s rfl).2
    · rw [if_neg e, if_neg e]
      rfl
  | .bd k, d, _, hb => by
    rw [bds, decide_eq_true_eq] at hb
    rw [nmd, lv0_get d k (by omega), lx, ex, if_neg (by simp), if_neg (by simp), unm, lv0_ix d (d - k) (by omega)]
    congr 1
    omega
  | .vr _, _, h, _ => by cases h
  | .mk f ts, d, h, hb => by
    rw [un] at h
    rw [bds] at hb
    rw [nmd, lx, unm, ex, shut_lawL hs ts d h hb]
  | .op w ts, d, h, hb => by
    rw [un] at h
    rw [bds] at hb
    rw [nmd, lx, unm, ex, shut_lawL hs ts d h hb]
  | .qt w k t, d, h, hb => by
    rw [un] at h
    rw [bds] at hb
    have z := shut_law (p := p) hs t (d + 1) h hb
    rw [nmd, lv0_len, lx, unm, ex]
    exact congrArg (Th.qt w k) z
  | .qn _ _ _ _, _, h, _ => by cases h
theorem shut_lawL {p : Str × Str} {by_ : Option Th} (hs : ∀ s, by_ = some s → un s = true ∧ na s = true) : ∀ (ts : List Th) (d : Nat), unL ts = true → bdsL d ts = true → unmL (lv0 d) (lxL (some p) (lvBy by_) (nmdL (lv0 d) ts)) = exL' (some p) by_ d ts
  | [], _, _, _ => rfl
  | t :: ts, d, h, hb => by
    rw [unL, Bool.and_eq_true] at h
    rw [bdsL, Bool.and_eq_true] at hb
    rw [nmdL, lxL, unmL, exL', shut_law hs t d h.1 hb.1, shut_lawL hs ts d h.2 hb.2]
end
mutual
/-- the names within, from the left -/
def nms : Th → List (Str × Str)
  | .nm x k => [(x, k)]
  | .mk _ ts => nmsL ts
  | .op _ ts => nmsL ts
  | .qt _ _ t => nms t
  | .qn _ _ _ t => nms t
  | _ => []
def nmsL : List Th → List (Str × Str)
  | [] => []
  | t :: ts => nms t ++ nmsL ts
end
mutual
theorem back_law {p : Str × Str} : ∀ (t : Th) (d : Nat), un t = true → bds (d + 1) t = true → p ∉ nms t → ex (some p) none d (ex none (some (.nm p.1 p.2)) d t) = t
  | .nm x k, d, _, _, hn => by
    rw [ex, if_neg (by simp), ex, if_neg]
    intro e
    cases e
    exact hn (by rw [nms]; exact List.mem_singleton.mpr rfl)
  | .bd k, d, _, hb, _ => by
    rw [bds, decide_eq_true_eq] at hb
    rw [ex]
    by_cases e : k = d
    · subst e
      rw [if_pos ⟨rfl, rfl⟩]
      show ex (some p) none k (.nm p.1 p.2) = _
      rw [ex, if_pos rfl]
      rfl
    · rw [if_neg (by omega), ex, if_neg (by simp)]
  | .vr _, _, h, _, _ => by cases h
  | .mk f ts, d, h, hb, hn => by
    rw [un] at h
    rw [bds] at hb
    rw [nms] at hn
    rw [ex, ex, back_lawL ts d h hb hn]
  | .op w ts, d, h, hb, hn => by
    rw [un] at h
    rw [bds] at hb
    rw [nms] at hn
    rw [ex, ex, back_lawL ts d h hb hn]
  | .qt w k t, d, h, hb, hn => by
    rw [un] at h
    rw [bds] at hb
    rw [nms] at hn
    rw [ex, ex, back_law t (d + 1) h hb hn]
  | .qn _ _ _ _, _, h, _, _ => by cases h
theorem back_lawL {p : Str × Str} : ∀ (ts : List Th) (d : Nat), unL ts = true → bdsL (d + 1) ts = true → p ∉ nmsL ts → exL' (some p) none d (exL' none (some (.nm p.1 p.2)) d ts) = ts
  | [], _, _, _, _ => rfl
  | t :: ts, d, h, hb, hn => by
    rw [unL, Bool.and_eq_true] at h
    rw [bdsL, Bool.and_eq_true] at hb
    rw [nmsL, List.mem_append, not_or] at hn
    rw [exL', exL', back_law t d h.1 hb.1 hn.1, back_lawL ts d h.2 hb.2 hn.2]
end
/-! ### sizes and kinds of what comes out -/
mutual
theorem nmd_facts : ∀ (t : Th) (lv : List Nat), un t = true → na (nmd lv t) = true ∧ ht (nmd lv t) = ht t ∧ wd (nmd lv t) = wd t
  | .nm _ _, _, _ => ⟨rfl, rfl, rfl⟩
  | .bd _, _, _ => ⟨rfl, rfl, rfl⟩
  | .vr _, _, h => by cases h
  | .mk f ts, lv, h => by
    obtain ⟨h1, h2, h3, h4⟩ := nmdL_facts ts lv (by rw [un] at h; exact h)
    rw [nmd, na, ht, ht, wd, wd, h1, h2, h3, h4]
    exact ⟨rfl, rfl, rfl⟩
  | .op w ts, lv, h => by
    obtain ⟨h1, h2, h3, h4⟩ := nmdL_facts ts lv (by rw [un] at h; exact h)
    rw [nmd, na, ht, ht, wd, wd, h1, h2, h3, h4]
    exact ⟨rfl, rfl, rfl⟩
  | .qt w k t, lv, h => by
    obtain ⟨h1, h2, h3⟩ := nmd_facts t (lv.length :: lv) (by rw [un] at h; exact h)
    rw [nmd, na, ht, ht, wd, wd, h1, h2, h3]
    exact ⟨rfl, rfl, rfl⟩
  | .qn _ _ _ _, _, h => by cases h
theorem nmdL_facts : ∀ (ts : List Th) (lv : List Nat), unL ts = true → naL (nmdL lv ts) = true ∧ htL (nmdL lv ts) = htL ts ∧ wdL (nmdL lv ts) = wdL ts ∧ (nmdL lv ts).length = ts.length
  | [], _, _ => ⟨rfl, rfl, rfl, rfl⟩
  | t :: ts, lv, h => by
    rw [unL, Bool.and_eq_true] at h
    obtain ⟨h1, h2, h3⟩ := nmd_facts t lv h.1
    obtain ⟨g1, g2, g3, g4⟩ := nmdL_facts ts lv h.2
    rw [nmdL, naL, htL, htL, wdL, wdL, List.length_cons, List.length_cons, h1, h2, h3, g1, g2, g3, g4]
    exact ⟨rfl, rfl, rfl, rfl⟩
end
mutual
theorem lx_facts {o : Option (Str × Str)} {N : Th} (hN : na N = true) : ∀ (t : Th), na t = true → na (lx o N t) = true ∧ ht (lx o N t) ≤ ht t + ht N ∧ wd (lx o N t) ≤ max (wd t) (wd N)
  | .nm x k, _ => by
    rw [lx]
    split
    · exact ⟨hN, by omega, by omega⟩
    · exact ⟨rfl, by omega, by omega⟩
  | .vr i, _ => by
    rw [lx]
    split
    · exact ⟨hN, by omega, by omega⟩
    · exact ⟨rfl, by omega, by omega⟩
  | .bd _, h => by cases h
  | .mk f ts, h => by
    obtain ⟨h1, h2, h3, h4⟩ := lxL_facts (o := o) hN ts (by rw [na] at h; exact h)
    rw [lx, na, ht, ht, wd, wd]
    exact ⟨h1, by omega, by omega⟩
  | .op w ts, h => by
    obtain ⟨h1, h2, h3, h4⟩ := lxL_facts (o := o) hN ts (by rw [na] at h; exact h)
    rw [lx, na, ht, ht, wd, wd]
    exact ⟨h1, by omega, by omega⟩
  | .qt _ _ _, h => by cases h
  | .qn w k l t, h => by
    obtain ⟨h1, h2, h3⟩ := lx_facts (o := o) hN t (by rw [na] at h; exact h)
    rw [lx, na, ht, ht, wd, wd]
    exact ⟨h1, by omega, by omega⟩
theorem lxL_facts {o : Option (Str × Str)} {N : Th} (hN : na N = true) : ∀ (ts : List Th), naL ts = true → naL (lxL o N ts) = true ∧ htL (lxL o N ts) ≤ htL ts + ht N ∧ wdL (lxL o N ts) ≤ max (wdL ts) (wd N) ∧ (lxL o N ts).length = ts.length
  | [], _ => ⟨rfl, by simp [lxL, htL], by simp [lxL, wdL], rfl⟩
  | t :: ts, h => by
    rw [naL, Bool.and_eq_true] at h
    obtain ⟨h1, h2, h3⟩ := lx_facts (o := o) hN t h.1
    obtain ⟨g1, g2, g3, g4⟩ := lxL_facts (o := o) hN ts h.2
    rw [lxL, naL, htL, htL, wdL, wdL, List.length_cons, List.length_cons, h1, g1, g4]
    exact ⟨rfl, by omega, by omega, rfl⟩
end
mutual
theorem vrs_clean (lv : List Nat) : ∀ t : Th, un t = true → vrs lv t = true
  | .nm _ _, _ => rfl
  | .bd _, _ => rfl
  | .vr _, h => by cases h
  | .mk f ts, h => by rw [vrs]; exact vrsL_clean lv ts (by rw [un] at h; exact h)
  | .op w ts, h => by rw [vrs]; exact vrsL_clean lv ts (by rw [un] at h; exact h)
  | .qt _ _ _, _ => rfl
  | .qn _ _ _ _, h => by cases h
theorem vrsL_clean (lv : List Nat) : ∀ ts : List Th, unL ts = true → vrsL lv ts = true
  | [], _ => rfl
  | t :: ts, h => by
    rw [unL, Bool.and_eq_true] at h
    rw [vrsL, vrs_clean lv t h.1, vrsL_clean lv ts h.2]
    rfl
end
mutual
theorem vrs_open {s : Th} (hs : un s = true) : ∀ (t : Th) (d : Nat), un t = true → bds (d + 1) t = true → vrs (lv1 d) (lx none s (nmd (lv0 d) t)) = true
  | .nm x k, d, _, _ => by simp [nmd, lx, vrs]
  | .bd k, d, _, hb => by
    rw [bds, decide_eq_true_eq] at hb
    rw [nmd, lv0_get d k (by omega), lx]
    split
    · exact vrs_clean _ s hs
    · rename_i e
      rw [vrs, lv1_mem d (d - k) (by simp at e; omega) (by omega)]
  | .vr _, _, h, _ => by cases h
  | .mk f ts, d, h, hb => by
    rw [un] at h
    rw [bds] at hb
    rw [nmd, lx, vrs]
    exact vrsL_open hs ts d h hb
  | .op w ts, d, h, hb => by
    rw [un] at h
    rw [bds] at hb
    rw [nmd, lx, vrs]
    exact vrsL_open hs ts d h hb
  | .qt w k t, d, h, hb => by
    rw [un] at h
    rw [bds] at hb
    rw [nmd, lv0_len, lx, vrs]
    exact vrs_open hs t (d + 1) h hb
  | .qn _ _ _ _, _, h, _ => by cases h
theorem vrsL_open {s : Th} (hs : un s = true) : ∀ (ts : List Th) (d : Nat), unL ts = true → bdsL (d + 1) ts = true → vrsL (lv1 d) (lxL none s (nmdL (lv0 d) ts)) = true
  | [], _, _, _ => rfl
  | t :: ts, d, h, hb => by
    rw [unL, Bool.and_eq_true] at h
    rw [bdsL, Bool.and_eq_true] at hb
    rw [nmdL, lxL, vrsL, vrs_open hs t d h.1 hb.1, vrsL_open hs ts d h.2 hb.2]
    rfl
end
mutual
theorem vrs_shut {p : Str × Str} {N : Th} (hN : ∀ d, vrs (lv0 d) N = true) : ∀ (t : Th) (d : Nat), un t = true → bds d t = true → vrs (lv0 d) (lx (some p) N (nmd (lv0 d) t)) = true
  | .nm x k, d, _, _ => by
    rw [nmd, lx]
    split
    · exact hN d
    · rfl
  | .bd k, d, _, hb => by
    rw [bds, decide_eq_true_eq] at hb
    rw [nmd, lv0_get d k (by omega), lx, if_neg (by simp), vrs, lv0_mem d (d - k) (by omega)]
  | .vr _, _, h, _ => by cases h
  | .mk f ts, d, h, hb => by
    rw [un] at h
    rw [bds] at hb
    rw [nmd, lx, vrs]
    exact vrsL_shut hN ts d h hb
  | .op w ts, d, h, hb => by
    rw [un] at h
    rw [bds] at hb
    rw [nmd, lx, vrs]
    exact vrsL_shut hN ts d h hb
  | .qt w k t, d, h, hb => by
    rw [un] at h
    rw [bds] at hb
    rw [nmd, lv0_len, lx, vrs]
    exact vrs_shut hN t (d + 1) h hb
  | .qn _ _ _ _, _, h, _ => by cases h
theorem vrsL_shut {p : Str × Str} {N : Th} (hN : ∀ d, vrs (lv0 d) N = true) : ∀ (ts : List Th) (d : Nat), unL ts = true → bdsL d ts = true → vrsL (lv0 d) (lxL (some p) N (nmdL (lv0 d) ts)) = true
  | [], _, _, _ => rfl
  | t :: ts, d, h, hb => by
    rw [unL, Bool.and_eq_true] at h
    rw [bdsL, Bool.and_eq_true] at hb
    rw [nmdL, lxL, vrsL, vrs_shut hN t d h.1 hb.1, vrsL_shut hN ts d h.2 hb.2]
    rfl
end
mutual
theorem bds_up {m n : Nat} (hn : m ≤ n) : ∀ t : Th, bds m t = true → bds n t = true
  | .nm _ _, _ => rfl
  | .bd k, h => by rw [bds, decide_eq_true_eq] at h ⊢; omega
  | .vr _, _ => rfl
  | .mk f ts, h => by rw [bds] at h ⊢; exact bdsL_up hn ts h
  | .op w ts, h => by rw [bds] at h ⊢; exact bdsL_up hn ts h
  | .qt w k t, h => by rw [bds] at h ⊢; exact bds_up (Nat.succ_le_succ hn) t h
  | .qn _ _ _ _, _ => rfl
theorem bdsL_up {m n : Nat} (hn : m ≤ n) : ∀ ts : List Th, bdsL m ts = true → bdsL n ts = true
  | [], _ => rfl
  | t :: ts, h => by
    rw [bdsL, Bool.and_eq_true] at h
    rw [bdsL, bds_up hn t h.1, bdsL_up hn ts h.2]
    rfl
end
mutual
/-- opened: closed, and no more than the two were -/
theorem ex_facts {s : Th} (hs : un s = true) (hb0 : bds 0 s = true) : ∀ (t : Th) (d : Nat), un t = true → bds (d + 1) t = true →
    un (ex none (some s) d t) = true ∧ bds d (ex none (some s) d t) = true ∧ ht (ex none (some s) d t) ≤ ht t + ht s ∧ wd (ex none (some s) d t) ≤ max (wd t) (wd s) ∧ ∀ p ∈ nms (ex none (some s) d t), p ∈ nms t ∨ p ∈ nms s
  | .nm x k, d, _, _ => by
    rw [ex, if_neg (by simp)]
    exact ⟨rfl, rfl, by omega, by omega, fun p h => .inl h⟩
  | .bd k, d, _, hb => by
    rw [bds, decide_eq_true_eq] at hb
    rw [ex]
    split
    · exact ⟨hs, bds_up (Nat.zero_le _) s hb0, by show ht s ≤ _; omega, by show wd s ≤ _; omega, fun p h => .inr h⟩
    · rename_i e
      refine ⟨rfl, ?_, by omega, by omega, fun p h => .inl h⟩
      rw [bds, decide_eq_true_eq]
      simp at e
      omega
  | .vr _, _, h, _ => by cases h
  | .mk f ts, d, h, hb => by
    rw [un] at h
    rw [bds] at hb
    obtain ⟨h1, h2, h3, h4, h5, h6⟩ := exL_facts hs hb0 ts d h hb
    rw [ex, un, bds, ht, ht, wd, wd, nms, nms]
    exact ⟨h1, h2, by omega, by omega, h6⟩
  | .op w ts, d, h, hb => by
    rw [un] at h
    rw [bds] at hb
    obtain ⟨h1, h2, h3, h4, h5, h6⟩ := exL_facts hs hb0 ts d h hb
    rw [ex, un, bds, ht, ht, wd, wd, nms, nms]
    exact ⟨h1, h2, by omega, by omega, h6⟩
  | .qt w k t, d, h, hb => by
    rw [un] at h
    rw [bds] at hb
    obtain ⟨h1, h2, h3, h4, h5⟩ := ex_facts hs hb0 t (d + 1) h hb
    rw [ex, un, bds, ht, ht, wd, wd, nms, nms]
    exact ⟨h1, h2, by omega, by omega, h5⟩
  | .qn _ _ _ _, _, h, _ => by cases h
theorem exL_facts {s : Th} (hs : un s = true) (hb0 : bds 0 s = true) : ∀ (ts : List Th) (d : Nat), unL ts = true → bdsL (d + 1) ts = true →
    unL (exL' none (some s) d ts) = true ∧ bdsL d (exL' none (some s) d ts) = true ∧ htL (exL' none (some s) d ts) ≤ htL ts + ht s ∧ wdL (exL' none (some s) d ts) ≤ max (wdL ts) (wd s) ∧ (exL' none (some s) d ts).length = ts.length ∧ ∀ p ∈ nmsL (exL' none (some s) d ts), p ∈ nmsL ts ∨ p ∈ nms s
  | [], _, _, _ => ⟨rfl, rfl, by simp [exL', htL], by simp [exL', wdL], rfl, fun p h => .inl h⟩
  | t :: ts, d, h, hb => by
    rw [unL, Bool.and_eq_true] at h
    rw [bdsL, Bool.and_eq_true] at hb
    obtain ⟨h1, h2, h3, h4, h5⟩ := ex_facts hs hb0 t d h.1 hb.1
    obtain ⟨g1, g2, g3, g4, g5, g6⟩ := exL_facts hs hb0 ts d h.2 hb.2
    rw [exL', unL, bdsL, htL, htL, wdL, wdL, List.length_cons, List.length_cons, nmsL, nmsL, h1, h2, g1, g2, g5]
    refine ⟨rfl, rfl, by omega, by omega, rfl, fun p m => ?_⟩
    rcases List.mem_append.mp m with m | m
    · exact (h5 p m).imp (fun z => List.mem_append_left _ z) id
    · exact (g6 p m).imp (fun z => List.mem_append_right _ z) id
end
end K32

/-! k32: opened, shut, put_in; what is free; the law's two questions -/
namespace K32
open PySem PI
theorem f1_ok {n : Nat} {t s : Th} (hu : un t = true) (hn : ht t ≤ n) (hw : wd t ≤ 1000) : CallV (n + 1) 1 [en t, en s] (en (ex none (some s) 0 t)) := by
  intro μ
  rw [PI.run]
  show nrm .val μ (exL pr (PI.run pr n) f1.body [some (en t), some (en s)] μ).out = _
  have z : nrm .val μ (PI.run pr n 0 [en t, .non, en s, .int 0] μ) = .ok (en (ex none (some s) 0 t)) μ := f0_ok n t none (some s) 0 hu hn hw μ
  simp only [f1, z, bind_ok, into_ok, seq_nx, seq_rt, seq_bk, seq_ct, out_rt, out_nx, vrD_ok, tup1, tup2, tup3, tup4, tup5, lst0, lst1, lst2, lst3, chB_t, chB_f, okB_some, tr_bl, setK_ok, kOk_eq, notK_eq, isNK_eq, notNK_eq, intO_ok, seqK_eq, strK_eq, rngK_eq, dctK_eq, consK_eq, someK_eq, noneK_eq, subK_ok, dropK_eq, retK_eq, asgK_eq, asgTK_eq, sub3_eq, binK_eq, cmpK_eq, idxK_eq, slcK2_eq, slcK_eq, ifK_eq, callK_eq, lK_eq, andK_eq, orK_eq, eltK_eq, allK_eq, lcK_eq, sub2_eq, sub1_eq, ifS_eq, forK_eq, e_var, e_ci, e_cs, e_cb, e_cn, e_not, e_isN, e_notN, e_bin, e_cmp, e_ifx, e_tup, e_lst, e_dnew, e_idx, e_slc, e_call, e_bi, e_isi, e_bm, e_lc, l_nil, l_cons, o_none, o_some, and_one, and_two, or_one, or_two, all_nil, all_one, trB_bl, i_seq, i_str, i_rng, i_keys, i_items, s_nil, s_cons, s_asg, s_asgT, s_sub, s_exp, s_ret, s_retN, s_if, s_for, List.getElem?_cons_zero, List.getElem?_cons_succ, List.set_cons_zero, List.set_cons_succ, List.length_cons, List.length_nil, Nat.reduceAdd, Nat.reduceLT, if_true, Bool.not_true, Bool.not_false]
  exact nrm_val0 (Gr.refl μ) (en_solid _)
theorem f2_ok {n : Nat} {t : Th} {x k : Str} (hu : un t = true) (hn : ht t ≤ n) (hw : wd t ≤ 1000) : CallV (n + 1) 2 [en t, .str x, .str k] (en (ex (some (x, k)) none 0 t)) := by
  intro μ
  rw [PI.run]
  show nrm .val μ (exL pr (PI.run pr n) f2.body [some (en t), some (.str x), some (.str k)] μ).out = _
  have z : nrm .val μ (PI.run pr n 0 [en t, .tup [.str (Str.ofString "name"), .str x, .str k], .non, .int 0] μ) = .ok (en (ex (some (x, k)) none 0 t)) μ := f0_ok n t (some (x, k)) none 0 hu hn hw μ
  simp only [f2, z, bind_ok, into_ok, seq_nx, seq_rt, seq_bk, seq_ct, out_rt, out_nx, vrD_ok, tup1, tup2, tup3, tup4, tup5, lst0, lst1, lst2, lst3, chB_t, chB_f, okB_some, tr_bl, setK_ok, kOk_eq, notK_eq, isNK_eq, notNK_eq, intO_ok, seqK_eq, strK_eq, rngK_eq, dctK_eq, consK_eq, someK_eq, noneK_eq, subK_ok, dropK_eq, retK_eq, asgK_eq, asgTK_eq, sub3_eq, binK_eq, cmpK_eq, idxK_eq, slcK2_eq, slcK_eq, ifK_eq, callK_eq, lK_eq, andK_eq, orK_eq, eltK_eq, allK_eq, lcK_eq, sub2_eq, sub1_eq, ifS_eq, forK_eq, e_var, e_ci, e_cs, e_cb, e_cn, e_not, e_isN, e_notN, e_bin, e_cmp, e_ifx, e_tup, e_lst, e_dnew, e_idx, e_slc, e_call, e_bi, e_isi, e_bm, e_lc, l_nil, l_cons, o_none, o_some, and_one, and_two, or_one, or_two, all_nil, all_one, trB_bl, i_seq, i_str, i_rng, i_keys, i_items, s_nil, s_cons, s_asg, s_asgT, s_sub, s_exp, s_ret, s_retN, s_if, s_for, List.getElem?_cons_zero, List.getElem?_cons_succ, List.set_cons_zero, List.set_cons_succ, List.length_cons, List.length_nil, Nat.reduceAdd, Nat.reduceLT, if_true, Bool.not_true, Bool.not_false]
  exact nrm_val0 (Gr.refl μ) (en_solid _)
theorem f3_ok {n : Nat} {t s : Th} {x k : Str} (hu : un t = true) (hn : ht t ≤ n) (hw : wd t ≤ 1000) : CallV (n + 1) 3 [en t, .str x, .str k, en s] (en (ex (some (x, k)) (some s) 0 t)) := by
  intro μ
  rw [PI.run]
  show nrm .val μ (exL pr (PI.run pr n) f3.body [some (en t), some (.str x), some (.str k), some (en s)] μ).out = _
  have z : nrm .val μ (PI.run pr n 0 [en t, .tup [.str (Str.ofString "name"), .str x, .str k], en s, .int 0] μ) = .ok (en (ex (some (x, k)) (some s) 0 t)) μ := f0_ok n t (some (x, k)) (some s) 0 hu hn hw μ
  simp only [f3, z, bind_ok, into_ok, seq_nx, seq_rt, seq_bk, seq_ct, out_rt, out_nx, vrD_ok, tup1, tup2, tup3, tup4, tup5, lst0, lst1, lst2, lst3, chB_t, chB_f, okB_some, tr_bl, setK_ok, kOk_eq, notK_eq, isNK_eq, notNK_eq, intO_ok, seqK_eq, strK_eq, rngK_eq, dctK_eq, consK_eq, someK_eq, noneK_eq, subK_ok, dropK_eq, retK_eq, asgK_eq, asgTK_eq, sub3_eq, binK_eq, cmpK_eq, idxK_eq, slcK2_eq, slcK_eq, ifK_eq, callK_eq, lK_eq, andK_eq, orK_eq, eltK_eq, allK_eq, lcK_eq, sub2_eq, sub1_eq, ifS_eq, forK_eq, e_var, e_ci, e_cs, e_cb, e_cn, e_not, e_isN, e_notN, e_bin, e_cmp, e_ifx, e_tup, e_lst, e_dnew, e_idx, e_slc, e_call, e_bi, e_isi, e_bm, e_lc, l_nil, l_cons, o_none, o_some, and_one, and_two, or_one, or_two, all_nil, all_one, trB_bl, i_seq, i_str, i_rng, i_keys, i_items, s_nil, s_cons, s_asg, s_asgT, s_sub, s_exp, s_ret, s_retN, s_if, s_for, List.getElem?_cons_zero, List.getElem?_cons_succ, List.set_cons_zero, List.set_cons_succ, List.length_cons, List.length_nil, Nat.reduceAdd, Nat.reduceLT, if_true, Bool.not_true, Bool.not_false]
  exact nrm_val0 (Gr.refl μ) (en_solid _)
mutual
theorem clean_bds : ∀ s : Th, na s = true → un s = true → bds 0 s = true
  | .nm _ _, _, _ => rfl
  | .bd _, h, _ => by cases h
  | .vr _, _, h => by cases h
  | .mk f ts, h, h' => by rw [bds]; exact cleanL_bds ts (by rw [na] at h; exact h) (by rw [un] at h'; exact h')
  | .op w ts, h, h' => by rw [bds]; exact cleanL_bds ts (by rw [na] at h; exact h) (by rw [un] at h'; exact h')
  | .qt _ _ _, h, _ => by cases h
  | .qn _ _ _ _, _, h => by cases h
theorem cleanL_bds : ∀ ts : List Th, naL ts = true → unL ts = true → bdsL 0 ts = true
  | [], _, _ => rfl
  | t :: ts, h, h' => by
    rw [naL, Bool.and_eq_true] at h
    rw [unL, Bool.and_eq_true] at h'
    rw [bdsL, clean_bds t h.1 h'.1, cleanL_bds ts h.2 h'.2]
    rfl
end
mutual
theorem ex_ht {what : Option (Str × Str)} {by_ : Option Th} {B : Nat} (h : ∀ d, ht (nw by_ d) ≤ B) : ∀ (t : Th) (d : Nat), ht (ex what by_ d t) ≤ ht t + B
  | .nm x k, d => by
    have := h d
    rw [ex]
    split <;> omega
  | .bd i, d => by
    have := h d
    rw [ex]
    split <;> omega
  | .vr _, _ => by rw [ex]; omega
  | .mk f ts, d => by
    have := exL_ht (what := what) h ts d
    rw [ex, ht, ht]
    omega
  | .op w ts, d => by
    have := exL_ht (what := what) h ts d
    rw [ex, ht, ht]
    omega
  | .qt w k t, d => by
    have := ex_ht (what := what) h t (d + 1)
    rw [ex, ht, ht]
    omega
  | .qn _ _ _ _, _ => by rw [ex]; omega
theorem exL_ht {what : Option (Str × Str)} {by_ : Option Th} {B : Nat} (h : ∀ d, ht (nw by_ d) ≤ B) : ∀ (ts : List Th) (d : Nat), htL (exL' what by_ d ts) ≤ htL ts + B
  | [], _ => by rw [exL', htL]; omega
  | t :: ts, d => by
    have h1 := ex_ht (what := what) h t d
    have h2 := exL_ht (what := what) h ts d
    rw [exL', htL, htL]
    omega
end
/-- opened, shut and put in, rightly -/
theorem f20_ok {n : Nat} {t s : Th} {x k : Str} (hu : un t = true) (hb : bds 1 t = true) (hn : ht t ≤ 20) (hw : wd t ≤ 1000) (su : un s = true) (sn : na s = true) (sh : ht s ≤ 20) (sw : wd s ≤ 1000) (hx : (Str.ofString "strange", k) ∉ nms t) (n50 : 100 ≤ n) :
    CallV (n + 1) 20 [en t, .str k, en s, .str x] (.bl true) := by
  intro μ
  rw [PI.run]
  show nrm .val μ (exL pr (PI.run pr n) f20.body [some (en t), some (.str k), some (en s), some (.str x), none, none] μ).out = _
  obtain ⟨m, rfl⟩ : ∃ m, n = m + 1 := ⟨n - 1, by omega⟩
  obtain ⟨o1, o2, o3, o4, o5⟩ := ex_facts su (clean_bds s sn su) t 0 hu hb
  generalize hS : ex none (some s) 0 t = S at o1 o2 o3 o4 o5
  -- the first question
  obtain ⟨d1, d2, d3⟩ := nmd_facts t (lv0 0) hu
  obtain ⟨l1, l2, l3⟩ := lx_facts (o := none) sn (nmd (lv0 0) t) d1
  let m1 : Mem := μ ++ [Ob.lst [.int 0]]
  let m2 : Mem := m1 ++ [Ob.lst []]
  let m3 : Mem := m2 ++ [Ob.lst [.int 0]]
  let m4 : Mem := m3 ++ [Ob.lst [.int 0]]
  let m5 : Mem := m4 ++ [Ob.lst [.int 0]]
  have q1 : nrm .val m1 (PI.run pr (m + 1) 16 [en t, .loc μ.length] m1) = .ok (en (nmd (lv0 0) t)) m1 := f16_ok (m + 1) t (lv0 0) hu (by omega) hw hb (by show 1 + ht t ≤ 1000; omega) m1 μ.length (get_last _ _)
  have q2 := f1_ok (n := m) (t := t) (s := s) hu (by omega) hw m1
  rw [hS] at q2
  have q3 : nrm .val m1 (PI.run pr (m + 1) 17 [en (nmd (lv0 0) t), .tup [.str (Str.ofString "var"), .int 0], en s] m1) = .ok (en (lx none s (nmd (lv0 0) t))) m1 := f17_ok (m + 1) (nmd (lv0 0) t) none s d1 (by omega) (by omega) _
  have q4 : nrm .val m2 (PI.run pr (m + 1) 18 [en (lx none s (nmd (lv0 0) t)), .loc m1.length] m2) = .ok (en S) m2 := by
    have z := f18_ok (m + 1) (lx none s (nmd (lv0 0) t)) (lv1 0) l1 (by omega) (by omega) (vrs_open su t 0 hu hb) (by show 0 + _ ≤ 1000; omega) m2 m1.length (get_last _ _)
    rw [open_law su sn t 0 hu hb, hS] at z
    exact z
  have same : ∀ (t : Th) (μ : Mem), ht t ≤ 60 → evCmp .ne (en t) (en t) μ = .ok (.bl false) μ := fun t μ h => by
    rw [cmp_ne_en μ t t (by omega), eqv_same]
    rfl
  have q5 := same S m2 (by omega)
  -- the second
  obtain ⟨e1, e2, e3⟩ := nmd_facts S (lv0 0) o1
  have q6 : nrm .val m3 (PI.run pr (m + 1) 16 [en S, .loc m2.length] m3) = .ok (en (nmd (lv0 0) S)) m3 := f16_ok (m + 1) S (lv0 0) o1 (by omega) (by omega) (bds_up (Nat.zero_le _) S o2) (by show 1 + ht S ≤ 1000; omega) m3 m2.length (get_last _ _)
  have q7 := f2_ok (n := m) (t := S) (x := x) (k := k) o1 (by omega) (by omega) m3
  obtain ⟨v1, v2, v3⟩ := lx_facts (o := some (x, k)) (N := .vr 0) rfl (nmd (lv0 0) S) e1
  have q8 : nrm .val m3 (PI.run pr (m + 1) 17 [en (nmd (lv0 0) S), .tup [.str (Str.ofString "name"), .str x, .str k], .tup [.str (Str.ofString "var"), .int 0]] m3) = .ok (en (lx (some (x, k)) (.vr 0) (nmd (lv0 0) S))) m3 := f17_ok (m + 1) (nmd (lv0 0) S) (some (x, k)) (.vr 0) e1 (by omega) (by omega) _
  have w0 : ht (Th.vr 0) = 1 := rfl
  have w1 : wd (Th.vr 0) = 0 := rfl
  have q9 : nrm .val m4 (PI.run pr (m + 1) 18 [en (lx (some (x, k)) (.vr 0) (nmd (lv0 0) S)), .loc m3.length] m4) = .ok (en (ex (some (x, k)) none 0 S)) m4 := by
    have z := f18_ok (m + 1) (lx (some (x, k)) (.vr 0) (nmd (lv0 0) S)) (lv0 0) v1 (by omega) (by omega) (vrs_shut (fun d => by rw [vrs]; exact lv0_mem d 0 (Nat.zero_le _)) S 0 o1 o2) (by show 1 + _ ≤ 1000; omega) m4 m3.length (get_last _ _)
    rw [show lx (some (x, k)) (.vr 0) (nmd (lv0 0) S) = lx (some (x, k)) (lvBy none) (nmd (lv0 0) S) from rfl, shut_law (fun s h => by cases h) S 0 o1 o2] at z
    exact z
  have hex : ht (ex (some (x, k)) none 0 S) ≤ 60 := by
    have z := ex_ht (what := some (x, k)) (by_ := none) (B := 1) (fun d => Nat.le_refl _) S 0
    omega
  have q10 := same (ex (some (x, k)) none 0 S) m4 hex
  -- the third
  have q11 := f3_ok (n := m) (t := S) (s := s) (x := x) (k := k) o1 (by omega) (by omega) m4
  obtain ⟨u1, u2, u3⟩ := lx_facts (o := some (x, k)) sn (nmd (lv0 0) S) e1
  have q12 : nrm .val m4 (PI.run pr (m + 1) 17 [en (nmd (lv0 0) S), .tup [.str (Str.ofString "name"), .str x, .str k], en s] m4) = .ok (en (lx (some (x, k)) s (nmd (lv0 0) S))) m4 := f17_ok (m + 1) (nmd (lv0 0) S) (some (x, k)) s e1 (by omega) (by omega) _
  have q13 : nrm .val m5 (PI.run pr (m + 1) 18 [en (lx (some (x, k)) s (nmd (lv0 0) S)), .loc m4.length] m5) = .ok (en (ex (some (x, k)) (some s) 0 S)) m5 := by
    have z := f18_ok (m + 1) (lx (some (x, k)) s (nmd (lv0 0) S)) (lv0 0) u1 (by omega) (by omega) (vrs_shut (fun d => vrs_clean _ s su) S 0 o1 o2) (by show 1 + _ ≤ 1000; omega) m5 m4.length (get_last _ _)
    rw [show lx (some (x, k)) s (nmd (lv0 0) S) = lx (some (x, k)) (lvBy (some s)) (nmd (lv0 0) S) from rfl, shut_law (fun s' h => by cases h; exact ⟨su, sn⟩) S 0 o1 o2] at z
    exact z
  have hex2 : ht (ex (some (x, k)) (some s) 0 S) ≤ 60 := by
    have z := ex_ht (what := some (x, k)) (by_ := some s) (B := ht s) (fun d => Nat.le_refl _) S 0
    omega
  have q14 := same (ex (some (x, k)) (some s) 0 S) m5 hex2
  -- there and back
  obtain ⟨r1, r2, r3, r4, r5⟩ := ex_facts (s := .nm (Str.ofString "strange") k) rfl rfl t 0 hu hb
  have q15 : nrm .val m5 (PI.run pr (m + 1) 1 [en t, .tup [.str (Str.ofString "name"), .str (Str.ofString "strange"), .str k]] m5) = .ok (en (ex none (some (.nm (Str.ofString "strange") k)) 0 t)) m5 := f1_ok (n := m) (t := t) (s := .nm (Str.ofString "strange") k) hu (by omega) hw m5
  have w2 : ht (Th.nm (Str.ofString "strange") k) = 1 := rfl
  have w3 : wd (Th.nm (Str.ofString "strange") k) = 0 := rfl
  have q16 := f2_ok (n := m) (t := ex none (some (.nm (Str.ofString "strange") k)) 0 t) (x := Str.ofString "strange") (k := k) r1 (by omega) (by omega) m5
  rw [back_law (p := (Str.ofString "strange", k)) t 0 hu hb hx] at q16
  have q17 : evCmp .eq (en t) (en t) m5 = .ok (.bl true) m5 := by rw [cmp_eq_en m5 t t (by omega), eqv_same]
  have c1 : lstK [.int 0] μ = .ok (.loc μ.length) m1 := lst1 _ _
  have c2 : lstK [] m1 = .ok (.loc m1.length) m2 := lst0 _
  have c3 : lstK [.int 0] m2 = .ok (.loc m2.length) m3 := lst1 _ _
  have c4 : lstK [.int 0] m3 = .ok (.loc m3.length) m4 := lst1 _ _
  have c5 : lstK [.int 0] m4 = .ok (.loc m4.length) m5 := lst1 _ _
  have g : Gr [] μ m5 := ((((Gr.app μ _).trans0 (Gr.app m1 _)).trans0 (Gr.app m2 _)).trans0 (Gr.app m3 _)).trans0 (Gr.app m4 _)
  clear_value m1 m2 m3 m4 m5
  simp only [f20, c1, c2, c3, c4, c5, q1, q2, q3, q4, q5, q6, q7, q8, q9, q10, q11, q12, q13, q14, q15, q16, q17, bind_ok, into_ok, seq_nx, seq_rt, seq_bk, seq_ct, out_rt, out_nx, vrD_ok, tup1, tup2, tup3, tup4, tup5, lst0, lst1, lst2, lst3, chB_t, chB_f, okB_some, tr_bl, setK_ok, kOk_eq, notK_eq, isNK_eq, notNK_eq, intO_ok, seqK_eq, strK_eq, rngK_eq, dctK_eq, consK_eq, someK_eq, noneK_eq, subK_ok, dropK_eq, retK_eq, asgK_eq, asgTK_eq, sub3_eq, binK_eq, cmpK_eq, idxK_eq, slcK2_eq, slcK_eq, ifK_eq, callK_eq, lK_eq, andK_eq, orK_eq, eltK_eq, allK_eq, lcK_eq, sub2_eq, sub1_eq, ifS_eq, forK_eq, e_var, e_ci, e_cs, e_cb, e_cn, e_not, e_isN, e_notN, e_bin, e_cmp, e_ifx, e_tup, e_lst, e_dnew, e_idx, e_slc, e_call, e_bi, e_isi, e_bm, e_lc, l_nil, l_cons, o_none, o_some, and_one, and_two, or_one, or_two, all_nil, all_one, trB_bl, i_seq, i_str, i_rng, i_keys, i_items, s_nil, s_cons, s_asg, s_asgT, s_sub, s_exp, s_ret, s_retN, s_if, s_for, List.getElem?_cons_zero, List.getElem?_cons_succ, List.set_cons_zero, List.set_cons_succ, List.length_cons, List.length_nil, Nat.reduceAdd, Nat.reduceLT, if_true, Bool.not_true, Bool.not_false]
  exact nrm_val0 g rfl
end K32

/-! k32: the names within -/
namespace K32
open PySem PI
def prs (ps : List (Str × Str)) : List D := ps.map fun p => .tup [.str p.1, .str p.2]
theorem prs_solid : ∀ ps : List (Str × Str), closedL 0 (prs ps) = true
  | [] => rfl
  | p :: ps => by
    show (closed 0 (.tup [.str p.1, .str p.2]) && closedL 0 (prs ps)) = true
    rw [prs_solid ps]
    rfl
theorem prs_app (a b : List (Str × Str)) : prs (a ++ b) = prs a ++ prs b := List.map_append
theorem prs_len (a : List (Str × Str)) : (prs a).length = a.length := List.length_map _
theorem frz_at {μ' : Mem} {n c : Nat} {xs : List D} (hn : n ≤ c) (hc : μ'[c]? = some (.lst xs)) (hx : closedL 0 xs = true) : frz μ' n (.loc c) = some (.fl xs) := by
  unfold frz
  rw [frzW]
  unfold frzFuel
  rw [frzN, if_neg (by omega), if_neg (by simp), hc]
  show (frzL _ xs).map D.fl = _
  rw [frzL_solid _ hx]
  rfl
/-- a call that hands back a list of values -/
theorem val_list {μ μ' : Mem} {c : Nat} {xs : List D} (g : Gr [] μ μ') (hn : μ.length ≤ c) (hc : μ'[c]? = some (.lst xs)) (hx : closedL 0 xs = true) : nrm .val μ (.ok (.loc c) μ') = .ok (.fl xs) μ := by
  rw [nrm_frz g (frz_at hn hc hx), take_same g]
theorem ext_last (μ : Mem) (xs ys : List D) (h : xs.length + ys.length ≤ lim) : evBM .extend (.loc μ.length) [.fl ys] (μ ++ [Ob.lst xs]) = .ok .non (μ ++ [Ob.lst (xs ++ ys)]) := by
  unfold evBM one1 bmExtend lstOf
  simp only [get_last]
  rw [if_pos h, set_last]
theorem lstS_last (μ : Mem) (xs : List D) : lstS (μ ++ [Ob.lst xs]) (.loc μ.length) = some xs := by
  unfold lstS lstOf
  simp only [get_last]
theorem isi_tup (t : Th) (μ : Mem) : isiK .tuple (en t) μ = .ok (.bl true) μ := by cases t <;> rfl
theorem isi_int (i : Int) (μ : Mem) : isiK .tuple (.int i) μ = .ok (.bl false) μ := rfl
theorem isi_str (s : Str) (μ : Mem) : isiK .tuple (.str s) μ = .ok (.bl false) μ := rfl
theorem forGo_nil {step : D → PI.Env → Mem → RS} {σ : PI.Env} {μ : Mem} : forGo [] step [] σ μ = .nx σ μ := by
  unfold forGo endF
  rw [if_pos (still_nil μ)]
  rfl
theorem forGo_cons {step : D → PI.Env → Mem → RS} {σ σ' : PI.Env} {μ μ' : Mem} {x : D} {xs : List D} (h : step x σ μ = .nx σ' μ') : forGo [] step (x :: xs) σ μ = forGo [] step xs σ' μ' := by
  rw [forGo, if_pos (still_nil μ), h]
  rfl
/-- the suite of the loop of names_within -/
abbrev b4 : List S := [.ifs (.isi (.var 3) .tuple) [.exp (.bm .extend (.var 2) [.call 4 [.var 3] .val])] []]
theorem f4_loop {C : Calls} (μ : Mem) (a b : D) : ∀ (ts : List Th) (acc : List (Str × Str)) (z : Option D), acc.length + (nmsL ts).length ≤ 1000000 → (∀ t ∈ ts, ∀ acc, nrm .val (μ ++ [Ob.lst acc]) (C 4 [en t] (μ ++ [Ob.lst acc])) = .ok (.fl (prs (nms t))) (μ ++ [Ob.lst acc])) →
    ∃ z', forGo [] (forStep pr C (.nm 3) b4) (enL ts) [some a, some b, some (.loc μ.length), z] (μ ++ [Ob.lst (prs acc)]) = .nx [some a, some b, some (.loc μ.length), z'] (μ ++ [Ob.lst (prs (acc ++ nmsL ts))])
  | [], acc, z, _, _ => ⟨z, by rw [enL, forGo_nil, nmsL, List.append_nil]⟩
  | t :: ts, acc, z, hl, h => by
    rw [nmsL, List.length_append] at hl
    have q := h t List.mem_cons_self (prs acc)
    have e := ext_last μ (prs acc) (prs (nms t)) (by rw [prs_len, prs_len]; unfold lim; omega)
    obtain ⟨z', ih⟩ := f4_loop μ a b ts (acc ++ nms t) (some (en t)) (by rw [List.length_append]; omega) fun x m => h x (List.mem_cons_of_mem _ m)
    refine ⟨z', ?_⟩
    rw [enL, forGo_cons (σ' := [some a, some b, some (.loc μ.length), some (en t)]) (μ' := μ ++ [Ob.lst (prs (acc ++ nms t))]), ih, nmsL, List.append_assoc]
    rw [forStep_ok (σ' := [some a, some b, some (.loc μ.length), some (en t)]) pr C _ _ rfl, prs_app]
    simp only [isi_tup, bmK_ok pr _ _ (lstS_last μ (prs acc)), q, e, bind_ok, into_ok, seq_nx, seq_rt, seq_bk, seq_ct, out_rt, out_nx, vrD_ok, tup1, tup2, tup3, tup4, tup5, lst0, lst1, lst2, lst3, chB_t, chB_f, okB_some, tr_bl, setK_ok, kOk_eq, notK_eq, isNK_eq, notNK_eq, intO_ok, seqK_eq, strK_eq, rngK_eq, dctK_eq, consK_eq, someK_eq, noneK_eq, subK_ok, dropK_eq, retK_eq, asgK_eq, asgTK_eq, sub3_eq, binK_eq, cmpK_eq, idxK_eq, slcK2_eq, slcK_eq, ifK_eq, callK_eq, lK_eq, andK_eq, orK_eq, eltK_eq, allK_eq, lcK_eq, sub2_eq, sub1_eq, ifS_eq, forK_eq, e_var, e_ci, e_cs, e_cb, e_cn, e_not, e_isN, e_notN, e_bin, e_cmp, e_ifx, e_tup, e_lst, e_dnew, e_idx, e_slc, e_call, e_bi, e_isi, e_bm, e_lc, l_nil, l_cons, o_none, o_some, and_one, and_two, or_one, or_two, all_nil, all_one, trB_bl, i_seq, i_str, i_rng, i_keys, i_items, s_nil, s_cons, s_asg, s_asgT, s_sub, s_exp, s_ret, s_retN, s_if, s_for, List.getElem?_cons_zero, List.getElem?_cons_succ, List.set_cons_zero, List.set_cons_succ, List.length_cons, List.length_nil, Nat.reduceAdd, Nat.reduceLT, if_true, Bool.not_true, Bool.not_false]
theorem nmsL_mem {t : Th} : ∀ {ts : List Th}, t ∈ ts → (nms t).length ≤ (nmsL ts).length
  | x :: ts, h => by
    rw [nmsL, List.length_append]
    rcases List.mem_cons.mp h with e | h
    · rw [e]; omega
    · have := nmsL_mem h
      omega
theorem f4_ok : ∀ (n : Nat) (t : Th), un t = true → ht t ≤ n → (nms t).length ≤ 100000 → CallV n 4 [en t] (.fl (prs (nms t))) := by
  intro n
  induction n with
  | zero => intro t hu hn; cases t <;> simp [ht] at hn
  | succ n ih =>
    intro t hu hn hl μ
    rw [PI.run]
    show nrm .val μ (exL pr (PI.run pr n) f4.body [some (en t), none, none, none] μ).out = _
    have fin : ∀ (a b : D) (z : Option D) (ts : List Th), (nmsL ts).length ≤ 100000 → (∀ x ∈ ts, un x = true ∧ ht x ≤ n) → ∃ z', forGo [] (forStep pr (PI.run pr n) (.nm 3) b4) (enL ts) [some a, some b, some (.loc μ.length), z] (μ ++ [Ob.lst []]) = .nx [some a, some b, some (.loc μ.length), z'] (μ ++ [Ob.lst (prs (nmsL ts))]) := fun a b z ts h1 h2 => by
      obtain ⟨z', q⟩ := f4_loop (C := PI.run pr n) μ a b ts [] z (by simp only [List.length_nil]; omega) fun x m acc => ih x (h2 x m).1 (h2 x m).2 (by have := nmsL_mem m; omega) _
      exact ⟨z', q⟩
    simp only [f4, idx0, eqs, bind_ok, into_ok, seq_nx, seq_rt, seq_bk, seq_ct, out_rt, out_nx, vrD_ok, tup1, tup2, tup3, tup4, tup5, lst0, lst1, lst2, lst3, chB_t, chB_f, okB_some, tr_bl, setK_ok, kOk_eq, notK_eq, isNK_eq, notNK_eq, intO_ok, seqK_eq, strK_eq, rngK_eq, dctK_eq, consK_eq, someK_eq, noneK_eq, subK_ok, dropK_eq, retK_eq, asgK_eq, asgTK_eq, sub3_eq, binK_eq, cmpK_eq, idxK_eq, slcK2_eq, slcK_eq, ifK_eq, callK_eq, lK_eq, andK_eq, orK_eq, eltK_eq, allK_eq, lcK_eq, sub2_eq, sub1_eq, ifS_eq, forK_eq, e_var, e_ci, e_cs, e_cb, e_cn, e_not, e_isN, e_notN, e_bin, e_cmp, e_ifx, e_tup, e_lst, e_dnew, e_idx, e_slc, e_call, e_bi, e_isi, e_bm, e_lc, l_nil, l_cons, o_none, o_some, and_one, and_two, or_one, or_two, all_nil, all_one, trB_bl, i_seq, i_str, i_rng, i_keys, i_items, s_nil, s_cons, s_asg, s_asgT, s_sub, s_exp, s_ret, s_retN, s_if, s_for, List.getElem?_cons_zero, List.getElem?_cons_succ, List.set_cons_zero, List.set_cons_succ, List.length_cons, List.length_nil, Nat.reduceAdd, Nat.reduceLT, if_true, Bool.not_true, Bool.not_false]
    cases t with
    | nm x k =>
      have a1 : (hd (.nm x k) == Str.ofString "name") = true := rfl
      have a2 : evIdx (en (.nm x k)) (.int 1) μ = .ok (.str x) μ := rfl
      have a3 : evIdx (en (.nm x k)) (.int 2) μ = .ok (.str k) μ := rfl
      simp only [a1, a2, a3, bind_ok, into_ok, seq_nx, seq_rt, seq_bk, seq_ct, out_rt, out_nx, vrD_ok, tup1, tup2, tup3, tup4, tup5, lst0, lst1, lst2, lst3, chB_t, chB_f, okB_some, tr_bl, setK_ok, kOk_eq, notK_eq, isNK_eq, notNK_eq, intO_ok, seqK_eq, strK_eq, rngK_eq, dctK_eq, consK_eq, someK_eq, noneK_eq, subK_ok, dropK_eq, retK_eq, asgK_eq, asgTK_eq, sub3_eq, binK_eq, cmpK_eq, idxK_eq, slcK2_eq, slcK_eq, ifK_eq, callK_eq, lK_eq, andK_eq, orK_eq, eltK_eq, allK_eq, lcK_eq, sub2_eq, sub1_eq, ifS_eq, forK_eq, e_var, e_ci, e_cs, e_cb, e_cn, e_not, e_isN, e_notN, e_bin, e_cmp, e_ifx, e_tup, e_lst, e_dnew, e_idx, e_slc, e_call, e_bi, e_isi, e_bm, e_lc, l_nil, l_cons, o_none, o_some, and_one, and_two, or_one, or_two, all_nil, all_one, trB_bl, i_seq, i_str, i_rng, i_keys, i_items, s_nil, s_cons, s_asg, s_asgT, s_sub, s_exp, s_ret, s_retN, s_if, s_for, List.getElem?_cons_zero, List.getElem?_cons_succ, List.set_cons_zero, List.set_cons_succ, List.length_cons, List.length_nil, Nat.reduceAdd, Nat.reduceLT, if_true, Bool.not_true, Bool.not_false]
      exact val_list (xs := prs [(x, k)]) (Gr.app μ _) (Nat.le_refl _) (get_last _ _) rfl
    | bd i =>
      have a1 : (hd (.bd i) == Str.ofString "name") = false := rfl
      have a2 : evSlc (en (.bd i)) (some 1) none μ = .ok (.tup [.int (i : Nat)]) μ := rfl
      have a3 : (hd (.bd i) == Str.ofString "made") = false := rfl
      have a4 : (Str.ofString "all" == hd (.bd i) || Str.ofString "some" == hd (.bd i)) = false := rfl
      have a5 : ∀ μ, itSeq μ (.tup [.int (i : Nat)]) = .ok ([.int (i : Nat)], []) μ := fun _ => rfl
      simp only [a1, a2, a3, a4, a5, idx0, in2, eqs, e_gl0, bind_ok, into_ok, seq_nx, seq_rt, seq_bk, seq_ct, out_rt, out_nx, vrD_ok, tup1, tup2, tup3, tup4, tup5, lst0, lst1, lst2, lst3, chB_t, chB_f, okB_some, tr_bl, setK_ok, kOk_eq, notK_eq, isNK_eq, notNK_eq, intO_ok, seqK_eq, strK_eq, rngK_eq, dctK_eq, consK_eq, someK_eq, noneK_eq, subK_ok, dropK_eq, retK_eq, asgK_eq, asgTK_eq, sub3_eq, binK_eq, cmpK_eq, idxK_eq, slcK2_eq, slcK_eq, ifK_eq, callK_eq, lK_eq, andK_eq, orK_eq, eltK_eq, allK_eq, lcK_eq, sub2_eq, sub1_eq, ifS_eq, forK_eq, e_var, e_ci, e_cs, e_cb, e_cn, e_not, e_isN, e_notN, e_bin, e_cmp, e_ifx, e_tup, e_lst, e_dnew, e_idx, e_slc, e_call, e_bi, e_isi, e_bm, e_lc, l_nil, l_cons, o_none, o_some, and_one, and_two, or_one, or_two, all_nil, all_one, trB_bl, i_seq, i_str, i_rng, i_keys, i_items, s_nil, s_cons, s_asg, s_asgT, s_sub, s_exp, s_ret, s_retN, s_if, s_for, List.getElem?_cons_zero, List.getElem?_cons_succ, List.set_cons_zero, List.set_cons_succ, List.length_cons, List.length_nil, Nat.reduceAdd, Nat.reduceLT, if_true, Bool.not_true, Bool.not_false]
      rw [forGo_cons (σ' := [some (en (.bd i)), some (.tup [.int (i : Nat)]), some (.loc μ.length), some (.int (i : Nat))]) (μ' := μ ++ [Ob.lst []]), forGo_nil]
      · simp only [bind_ok, into_ok, seq_nx, seq_rt, seq_bk, seq_ct, out_rt, out_nx, vrD_ok, tup1, tup2, tup3, tup4, tup5, lst0, lst1, lst2, lst3, chB_t, chB_f, okB_some, tr_bl, setK_ok, kOk_eq, notK_eq, isNK_eq, notNK_eq, intO_ok, seqK_eq, strK_eq, rngK_eq, dctK_eq, consK_eq, someK_eq, noneK_eq, subK_ok, dropK_eq, retK_eq, asgK_eq, asgTK_eq, sub3_eq, binK_eq, cmpK_eq, idxK_eq, slcK2_eq, slcK_eq, ifK_eq, callK_eq, lK_eq, andK_eq, orK_eq, eltK_eq, allK_eq, lcK_eq, sub2_eq, sub1_eq, ifS_eq, forK_eq, e_var, e_ci, e_cs, e_cb, e_cn, e_not, e_isN, e_notN, e_bin, e_cmp, e_ifx, e_tup, e_lst, e_dnew, e_idx, e_slc, e_call, e_bi, e_isi, e_bm, e_lc, l_nil, l_cons, o_none, o_some, and_one, and_two, or_one, or_two, all_nil, all_one, trB_bl, i_seq, i_str, i_rng, i_keys, i_items, s_nil, s_cons, s_asg, s_asgT, s_sub, s_exp, s_ret, s_retN, s_if, s_for, List.getElem?_cons_zero, List.getElem?_cons_succ, List.set_cons_zero, List.set_cons_succ, List.length_cons, List.length_nil, Nat.reduceAdd, Nat.reduceLT, if_true, Bool.not_true, Bool.not_false]
        exact val_list (xs := []) (Gr.app μ _) (Nat.le_refl _) (get_last _ _) rfl
      · rw [forStep_ok (σ' := [some (en (.bd i)), some (.tup [.int (i : Nat)]), some (.loc μ.length), some (.int (i : Nat))]) pr _ _ _ rfl]
        simp only [isi_int, bind_ok, into_ok, seq_nx, seq_rt, seq_bk, seq_ct, out_rt, out_nx, vrD_ok, tup1, tup2, tup3, tup4, tup5, lst0, lst1, lst2, lst3, chB_t, chB_f, okB_some, tr_bl, setK_ok, kOk_eq, notK_eq, isNK_eq, notNK_eq, intO_ok, seqK_eq, strK_eq, rngK_eq, dctK_eq, consK_eq, someK_eq, noneK_eq, subK_ok, dropK_eq, retK_eq, asgK_eq, asgTK_eq, sub3_eq, binK_eq, cmpK_eq, idxK_eq, slcK2_eq, slcK_eq, ifK_eq, callK_eq, lK_eq, andK_eq, orK_eq, eltK_eq, allK_eq, lcK_eq, sub2_eq, sub1_eq, ifS_eq, forK_eq, e_var, e_ci, e_cs, e_cb, e_cn, e_not, e_isN, e_notN, e_bin, e_cmp, e_ifx, e_tup, e_lst, e_dnew, e_idx, e_slc, e_call, e_bi, e_isi, e_bm, e_lc, l_nil, l_cons, o_none, o_some, and_one, and_two, or_one, or_two, all_nil, all_one, trB_bl, i_seq, i_str, i_rng, i_keys, i_items, s_nil, s_cons, s_asg, s_asgT, s_sub, s_exp, s_ret, s_retN, s_if, s_for, List.getElem?_cons_zero, List.getElem?_cons_succ, List.set_cons_zero, List.set_cons_succ, List.length_cons, List.length_nil, Nat.reduceAdd, Nat.reduceLT, if_true, Bool.not_true, Bool.not_false]
    | vr i => cases hu
    | qn w k l t => cases hu
    | mk f ts =>
      have a1 : (hd (.mk f ts) == Str.ofString "name") = false := rfl
      have a2 : evSlc (en (.mk f ts)) (some 1) none μ = .ok (.tup [.str f, .tup (enL ts)]) μ := rfl
      have a3 : (hd (.mk f ts) == Str.ofString "made") = true := rfl
      have a4 : (Str.ofString "all" == hd (.mk f ts) || Str.ofString "some" == hd (.mk f ts)) = false := rfl
      have a5 : evIdx (en (.mk f ts)) (.int 2) μ = .ok (.tup (enL ts)) μ := rfl
      have a6 : ∀ μ, itSeq μ (.tup (enL ts)) = .ok (enL ts, []) μ := fun _ => rfl
      rw [un] at hu
      rw [ht] at hn
      rw [nms] at hl
      obtain ⟨z', q⟩ := fin (en (.mk f ts)) (.tup (enL ts)) none ts hl fun x m => ⟨un_mem hu m, by have := ht_mem m; omega⟩
      simp only [a1, a2, a3, a4, a5, a6, q, idx0, in2, eqs, e_gl0, bind_ok, into_ok, seq_nx, seq_rt, seq_bk, seq_ct, out_rt, out_nx, vrD_ok, tup1, tup2, tup3, tup4, tup5, lst0, lst1, lst2, lst3, chB_t, chB_f, okB_some, tr_bl, setK_ok, kOk_eq, notK_eq, isNK_eq, notNK_eq, intO_ok, seqK_eq, strK_eq, rngK_eq, dctK_eq, consK_eq, someK_eq, noneK_eq, subK_ok, dropK_eq, retK_eq, asgK_eq, asgTK_eq, sub3_eq, binK_eq, cmpK_eq, idxK_eq, slcK2_eq, slcK_eq, ifK_eq, callK_eq, lK_eq, andK_eq, orK_eq, eltK_eq, allK_eq, lcK_eq, sub2_eq, sub1_eq, ifS_eq, forK_eq, e_var, e_ci, e_cs, e_cb, e_cn, e_not, e_isN, e_notN, e_bin, e_cmp, e_ifx, e_tup, e_lst, e_dnew, e_idx, e_slc, e_call, e_bi, e_isi, e_bm, e_lc, l_nil, l_cons, o_none, o_some, and_one, and_two, or_one, or_two, all_nil, all_one, trB_bl, i_seq, i_str, i_rng, i_keys, i_items, s_nil, s_cons, s_asg, s_asgT, s_sub, s_exp, s_ret, s_retN, s_if, s_for, List.getElem?_cons_zero, List.getElem?_cons_succ, List.set_cons_zero, List.set_cons_succ, List.length_cons, List.length_nil, Nat.reduceAdd, Nat.reduceLT, if_true, Bool.not_true, Bool.not_false]
      rw [nms]
      exact val_list (Gr.app μ _) (Nat.le_refl _) (get_last _ _) (prs_solid _)
    | qt w k t =>
      have a1 : (hd (.qt w k t) == Str.ofString "name") = false := by cases w <;> rfl
      have a2 : evSlc (en (.qt w k t)) (some 1) none μ = .ok (.tup [.str k, en t]) μ := rfl
      have a3 : (hd (.qt w k t) == Str.ofString "made") = false := by cases w <;> rfl
      have a4 : (Str.ofString "all" == hd (.qt w k t) || Str.ofString "some" == hd (.qt w k t)) = true := by cases w <;> rfl
      have a5 : evSlc (en (.qt w k t)) (some 2) none μ = .ok (.tup (enL [t])) μ := rfl
      have a6 : ∀ μ, itSeq μ (.tup (enL [t])) = .ok (enL [t], []) μ := fun _ => rfl
      rw [un] at hu
      rw [ht] at hn
      rw [nms] at hl
      have e : nmsL [t] = nms t := by rw [nmsL, nmsL, List.append_nil]
      obtain ⟨z', q⟩ := fin (en (.qt w k t)) (.tup (enL [t])) none [t] (by rw [e]; exact hl) fun x m => by rw [List.mem_singleton.mp m]; exact ⟨hu, by omega⟩
      simp only [a1, a2, a3, a4, a5, a6, q, idx0, in2, eqs, e_gl0, bind_ok, into_ok, seq_nx, seq_rt, seq_bk, seq_ct, out_rt, out_nx, vrD_ok, tup1, tup2, tup3, tup4, tup5, lst0, lst1, lst2, lst3, chB_t, chB_f, okB_some, tr_bl, setK_ok, kOk_eq, notK_eq, isNK_eq, notNK_eq, intO_ok, seqK_eq, strK_eq, rngK_eq, dctK_eq, consK_eq, someK_eq, noneK_eq, subK_ok, dropK_eq, retK_eq, asgK_eq, asgTK_eq, sub3_eq, binK_eq, cmpK_eq, idxK_eq, slcK2_eq, slcK_eq, ifK_eq, callK_eq, lK_eq, andK_eq, orK_eq, eltK_eq, allK_eq, lcK_eq, sub2_eq, sub1_eq, ifS_eq, forK_eq, e_var, e_ci, e_cs, e_cb, e_cn, e_not, e_isN, e_notN, e_bin, e_cmp, e_ifx, e_tup, e_lst, e_dnew, e_idx, e_slc, e_call, e_bi, e_isi, e_bm, e_lc, l_nil, l_cons, o_none, o_some, and_one, and_two, or_one, or_two, all_nil, all_one, trB_bl, i_seq, i_str, i_rng, i_keys, i_items, s_nil, s_cons, s_asg, s_asgT, s_sub, s_exp, s_ret, s_retN, s_if, s_for, List.getElem?_cons_zero, List.getElem?_cons_succ, List.set_cons_zero, List.set_cons_succ, List.length_cons, List.length_nil, Nat.reduceAdd, Nat.reduceLT, if_true, Bool.not_true, Bool.not_false]
      rw [nms, e]
      exact val_list (Gr.app μ _) (Nat.le_refl _) (get_last _ _) (prs_solid _)
    | op w ts =>
      have a1 : (hd (.op w ts) == Str.ofString "name") = false := by cases w <;> rfl
      have a3 : (hd (.op w ts) == Str.ofString "made") = false := by cases w <;> rfl
      have a4 : (Str.ofString "all" == hd (.op w ts) || Str.ofString "some" == hd (.op w ts)) = false := by cases w <;> rfl
      have a6 : ∀ μ, itSeq μ (.tup (enL ts)) = .ok (enL ts, []) μ := fun _ => rfl
      rw [un] at hu
      rw [ht] at hn
      rw [nms] at hl
      obtain ⟨z', q⟩ := fin (en (.op w ts)) (.tup (enL ts)) none ts hl fun x m => ⟨un_mem hu m, by have := ht_mem m; omega⟩
      simp only [a1, a3, a4, a6, q, slc1, idx0, in2, eqs, e_gl0, bind_ok, into_ok, seq_nx, seq_rt, seq_bk, seq_ct, out_rt, out_nx, vrD_ok, tup1, tup2, tup3, tup4, tup5, lst0, lst1, lst2, lst3, chB_t, chB_f, okB_some, tr_bl, setK_ok, kOk_eq, notK_eq, isNK_eq, notNK_eq, intO_ok, seqK_eq, strK_eq, rngK_eq, dctK_eq, consK_eq, someK_eq, noneK_eq, subK_ok, dropK_eq, retK_eq, asgK_eq, asgTK_eq, sub3_eq, binK_eq, cmpK_eq, idxK_eq, slcK2_eq, slcK_eq, ifK_eq, callK_eq, lK_eq, andK_eq, orK_eq, eltK_eq, allK_eq, lcK_eq, sub2_eq, sub1_eq, ifS_eq, forK_eq, e_var, e_ci, e_cs, e_cb, e_cn, e_not, e_isN, e_notN, e_bin, e_cmp, e_ifx, e_tup, e_lst, e_dnew, e_idx, e_slc, e_call, e_bi, e_isi, e_bm, e_lc, l_nil, l_cons, o_none, o_some, and_one, and_two, or_one, or_two, all_nil, all_one, trB_bl, i_seq, i_str, i_rng, i_keys, i_items, s_nil, s_cons, s_asg, s_asgT, s_sub, s_exp, s_ret, s_retN, s_if, s_for, List.getElem?_cons_zero, List.getElem?_cons_succ, List.set_cons_zero, List.set_cons_succ, List.length_cons, List.length_nil, Nat.reduceAdd, Nat.reduceLT, if_true, Bool.not_true, Bool.not_false]
      rw [nms]
      exact val_list (Gr.app μ _) (Nat.le_refl _) (get_last _ _) (prs_solid _)
end K32

/-! k32: what is free, both ways -/
namespace K32
open PySem PI
theorem tup0 (μ : Mem) : tupK [] μ = .ok (.tup []) μ := tupK_ok (show 0 ≤ 1000 by decide)
theorem ne_nil (t : Th) (μ : Mem) : evCmp .ne (en t) (.tup []) μ = .ok (.bl true) μ := by
  have h : (pd t).eqv (.tuple []) = false := by cases t <;> (rw [pd, PyData.eqv, PyData.eqvAll])
  have d : PyData.depth (.tuple []) = 1 := by simp [PyData.depth, PyData.depthAll]
  unfold evCmp
  rw [flat_en]
  have e : eqM μ (en t) (.tup []) = some false := by
    unfold eqM py
    rw [py_en]
    show (if min (pd t).depth (PyData.depth (.tuple [])) ≤ eqDeep then some ((pd t).eqv (.tuple [])) else none) = _
    rw [if_pos (by rw [d]; unfold eqDeep; omega), h]
  simp only [Bool.false_and, Bool.false_eq_true, if_false, e, Bool.not_false]
theorem nes (a b : Str) (μ : Mem) : evCmp .ne (.str a) (.str b) μ = .ok (.bl (!(a == b))) μ := by
  unfold evCmp
  simp [flat, eqF]
theorem add_lf {c : Nat} {μ : Mem} {xs ys : List D} (h : μ[c]? = some (.lst xs)) (hl : xs.length + ys.length ≤ lim) : evBin .add (.loc c) (.fl ys) μ = .ok (.loc μ.length) (μ ++ [Ob.lst (xs ++ ys)]) := by
  show (match lstOf μ (.loc c), lstOf μ (.fl ys) with
    | some xs, some ys => if xs.length + ys.length ≤ lim then newL μ (xs ++ ys) else .bad
    | _, _ => .bad) = _
  simp only [lstOf, h]
  rw [if_pos hl]
  rfl
theorem forGo_nilS {src : List (Nat × Ob)} {step : D → PI.Env → Mem → RS} {σ : PI.Env} {μ : Mem} (h : Still src μ) (h' : unlO src μ = some μ) : forGo src step [] σ μ = .nx σ μ := by
  unfold forGo endF
  rw [if_pos h, h']
theorem forGo_consS {src : List (Nat × Ob)} {step : D → PI.Env → Mem → RS} {σ σ' : PI.Env} {μ μ' : Mem} {x : D} {xs : List D} (hs : Still src μ) (h : step x σ μ = .nx σ' μ') : forGo src step (x :: xs) σ μ = forGo src step xs σ' μ' := by
  rw [forGo, if_pos hs, h]
  rfl
theorem still_gr {m : Nat} {xs : List D} {μ μ' : Mem} (h : μ[m]? = some (.lst xs)) (g : Gr [] μ μ') : Still [(m, .lst xs)] μ' ∧ unlO [(m, .lst xs)] μ' = some μ' := ⟨fun p hp => by
  rw [List.mem_singleton.mp hp]
  exact g.get h, rfl⟩
/-- the suite of the first loop of _law_free -/
abbrev b19 : List S := [.ifs (.and_ [.isi (.var 2) .tuple, .cmp .ne (.var 2) (.tup []), .cmp .ne (.idx (.var 0) (.ci 0)) (.cs "made")]) [.asg (.g (.nm 1)) (.bin .add (.var 1) (.call 19 [.var 2] .val))] []]
/-- of the second -/
abbrev b19m : List S := [.asg (.g (.nm 1)) (.bin .add (.var 1) (.call 19 [.var 2] .val))]
theorem loop19 {C : Calls} (T : Th) (b : List S) (hb : b = b19m ∨ (b = b19 ∧ (hd T == Str.ofString "made") = false)) (μ : Mem) : ∀ (ts : List Th) (acc : List (Str × Str)) (c : Nat) (z : Option D) (μ' : Mem), Gr [] μ μ' → μ.length ≤ c → μ'[c]? = some (.lst (prs acc)) → acc.length + (nmsL ts).length ≤ 1000000 →
    (∀ t ∈ ts, ∀ μ', nrm .val μ' (C 19 [en t] μ') = .ok (.fl (prs (nms t))) μ') →
    ∃ z' c' μ2, forGo [] (forStep pr C (.nm 2) b) (enL ts) [some (en T), some (.loc c), z] μ' = .nx [some (en T), some (.loc c'), z'] μ2 ∧ Gr [] μ μ2 ∧ μ.length ≤ c' ∧ μ2[c']? = some (.lst (prs (acc ++ nmsL ts)))
  | [], acc, c, z, μ', g, hc, h1, _, _ => ⟨z, c, μ', by rw [enL, forGo_nil], g, hc, by rw [nmsL, List.append_nil]; exact h1⟩
  | t :: ts, acc, c, z, μ', g, hc, h1, hl, h => by
    rw [nmsL, List.length_append] at hl
    have q := h t List.mem_cons_self μ'
    have e := add_lf h1 (ys := prs (nms t)) (by rw [prs_len, prs_len]; unfold lim; omega)
    rw [← prs_app] at e
    have g' : Gr [] μ (μ' ++ [Ob.lst (prs (acc ++ nms t))]) := g.trans0 (Gr.app _ _)
    obtain ⟨z', c', μ2, e1, e2, e3, e4⟩ := loop19 T b hb μ ts (acc ++ nms t) μ'.length (some (en t)) (μ' ++ [Ob.lst (prs (acc ++ nms t))]) g' g.len (get_last _ _) (by rw [List.length_append]; omega) fun x m => h x (List.mem_cons_of_mem _ m)
    refine ⟨z', c', μ2, ?_, e2, e3, by rw [nmsL, ← List.append_assoc]; exact e4⟩
    rw [enL, forGo_cons (σ' := [some (en T), some (.loc μ'.length), some (en t)]) (μ' := μ' ++ [Ob.lst (prs (acc ++ nms t))]), e1]
    rw [forStep_ok (σ' := [some (en T), some (.loc c), some (en t)]) pr C _ _ rfl]
    rcases hb with rfl | ⟨rfl, hm⟩
    · simp only [q, e, bind_ok, into_ok, seq_nx, seq_rt, seq_bk, seq_ct, out_rt, out_nx, vrD_ok, tup1, tup2, tup3, tup4, tup5, lst0, lst1, lst2, lst3, chB_t, chB_f, okB_some, tr_bl, setK_ok, kOk_eq, notK_eq, isNK_eq, notNK_eq, intO_ok, seqK_eq, strK_eq, rngK_eq, dctK_eq, consK_eq, someK_eq, noneK_eq, subK_ok, dropK_eq, retK_eq, asgK_eq, asgTK_eq, sub3_eq, binK_eq, cmpK_eq, idxK_eq, slcK2_eq, slcK_eq, ifK_eq, callK_eq, lK_eq, andK_eq, orK_eq, eltK_eq, allK_eq, lcK_eq, sub2_eq, sub1_eq, ifS_eq, forK_eq, e_var, e_ci, e_cs, e_cb, e_cn, e_not, e_isN, e_notN, e_bin, e_cmp, e_ifx, e_tup, e_lst, e_dnew, e_idx, e_slc, e_call, e_bi, e_isi, e_bm, e_lc, l_nil, l_cons, o_none, o_some, and_one, and_two, or_one, or_two, all_nil, all_one, trB_bl, i_seq, i_str, i_rng, i_keys, i_items, s_nil, s_cons, s_asg, s_asgT, s_sub, s_exp, s_ret, s_retN, s_if, s_for, List.getElem?_cons_zero, List.getElem?_cons_succ, List.set_cons_zero, List.set_cons_succ, List.length_cons, List.length_nil, Nat.reduceAdd, Nat.reduceLT, if_true, Bool.not_true, Bool.not_false]
    · simp only [isi_tup, tup0, ne_nil, idx0, nes, hm, q, e, bind_ok, into_ok, seq_nx, seq_rt, seq_bk, seq_ct, out_rt, out_nx, vrD_ok, tup1, tup2, tup3, tup4, tup5, lst0, lst1, lst2, lst3, chB_t, chB_f, okB_some, tr_bl, setK_ok, kOk_eq, notK_eq, isNK_eq, notNK_eq, intO_ok, seqK_eq, strK_eq, rngK_eq, dctK_eq, consK_eq, someK_eq, noneK_eq, subK_ok, dropK_eq, retK_eq, asgK_eq, asgTK_eq, sub3_eq, binK_eq, cmpK_eq, idxK_eq, slcK2_eq, slcK_eq, ifK_eq, callK_eq, lK_eq, andK_eq, orK_eq, eltK_eq, allK_eq, lcK_eq, sub2_eq, sub1_eq, ifS_eq, forK_eq, e_var, e_ci, e_cs, e_cb, e_cn, e_not, e_isN, e_notN, e_bin, e_cmp, e_ifx, e_tup, e_lst, e_dnew, e_idx, e_slc, e_call, e_bi, e_isi, e_bm, e_lc, l_nil, l_cons, o_none, o_some, and_one, and_two, or_one, or_two, all_nil, all_one, trB_bl, i_seq, i_str, i_rng, i_keys, i_items, s_nil, s_cons, s_asg, s_asgT, s_sub, s_exp, s_ret, s_retN, s_if, s_for, List.getElem?_cons_zero, List.getElem?_cons_succ, List.set_cons_zero, List.set_cons_succ, List.length_cons, List.length_nil, Nat.reduceAdd, Nat.reduceLT, if_true, Bool.not_true, Bool.not_false]
theorem f19_ok : ∀ (n : Nat) (t : Th), un t = true → ht t ≤ n → (nms t).length ≤ 100000 → CallV n 19 [en t] (.fl (prs (nms t))) := by
  intro n
  induction n with
  | zero => intro t hu hn; cases t <;> simp [ht] at hn
  | succ n ih =>
    intro t hu hn hl μ
    rw [PI.run]
    show nrm .val μ (exL pr (PI.run pr n) f19.body [some (en t), none, none] μ).out = _
    have g0 : Gr [] μ (μ ++ [Ob.lst []]) := Gr.app _ _
    have c0 : (μ ++ [Ob.lst []])[μ.length]? = some (.lst (prs [])) := get_last _ _
    simp only [f19, idx0, eqs, bind_ok, into_ok, seq_nx, seq_rt, seq_bk, seq_ct, out_rt, out_nx, vrD_ok, tup1, tup2, tup3, tup4, tup5, lst0, lst1, lst2, lst3, chB_t, chB_f, okB_some, tr_bl, setK_ok, kOk_eq, notK_eq, isNK_eq, notNK_eq, intO_ok, seqK_eq, strK_eq, rngK_eq, dctK_eq, consK_eq, someK_eq, noneK_eq, subK_ok, dropK_eq, retK_eq, asgK_eq, asgTK_eq, sub3_eq, binK_eq, cmpK_eq, idxK_eq, slcK2_eq, slcK_eq, ifK_eq, callK_eq, lK_eq, andK_eq, orK_eq, eltK_eq, allK_eq, lcK_eq, sub2_eq, sub1_eq, ifS_eq, forK_eq, e_var, e_ci, e_cs, e_cb, e_cn, e_not, e_isN, e_notN, e_bin, e_cmp, e_ifx, e_tup, e_lst, e_dnew, e_idx, e_slc, e_call, e_bi, e_isi, e_bm, e_lc, l_nil, l_cons, o_none, o_some, and_one, and_two, or_one, or_two, all_nil, all_one, trB_bl, i_seq, i_str, i_rng, i_keys, i_items, s_nil, s_cons, s_asg, s_asgT, s_sub, s_exp, s_ret, s_retN, s_if, s_for, List.getElem?_cons_zero, List.getElem?_cons_succ, List.set_cons_zero, List.set_cons_succ, List.length_cons, List.length_nil, Nat.reduceAdd, Nat.reduceLT, if_true, Bool.not_true, Bool.not_false]
    cases t with
    | nm x k =>
      have a1 : (hd (.nm x k) == Str.ofString "name") = true := rfl
      have a2 : evIdx (en (.nm x k)) (.int 1) μ = .ok (.str x) μ := rfl
      have a3 : evIdx (en (.nm x k)) (.int 2) μ = .ok (.str k) μ := rfl
      simp only [a1, a2, a3, bind_ok, into_ok, seq_nx, seq_rt, seq_bk, seq_ct, out_rt, out_nx, vrD_ok, tup1, tup2, tup3, tup4, tup5, lst0, lst1, lst2, lst3, chB_t, chB_f, okB_some, tr_bl, setK_ok, kOk_eq, notK_eq, isNK_eq, notNK_eq, intO_ok, seqK_eq, strK_eq, rngK_eq, dctK_eq, consK_eq, someK_eq, noneK_eq, subK_ok, dropK_eq, retK_eq, asgK_eq, asgTK_eq, sub3_eq, binK_eq, cmpK_eq, idxK_eq, slcK2_eq, slcK_eq, ifK_eq, callK_eq, lK_eq, andK_eq, orK_eq, eltK_eq, allK_eq, lcK_eq, sub2_eq, sub1_eq, ifS_eq, forK_eq, e_var, e_ci, e_cs, e_cb, e_cn, e_not, e_isN, e_notN, e_bin, e_cmp, e_ifx, e_tup, e_lst, e_dnew, e_idx, e_slc, e_call, e_bi, e_isi, e_bm, e_lc, l_nil, l_cons, o_none, o_some, and_one, and_two, or_one, or_two, all_nil, all_one, trB_bl, i_seq, i_str, i_rng, i_keys, i_items, s_nil, s_cons, s_asg, s_asgT, s_sub, s_exp, s_ret, s_retN, s_if, s_for, List.getElem?_cons_zero, List.getElem?_cons_succ, List.set_cons_zero, List.set_cons_succ, List.length_cons, List.length_nil, Nat.reduceAdd, Nat.reduceLT, if_true, Bool.not_true, Bool.not_false]
      exact val_list (xs := prs [(x, k)]) (Gr.app μ _) (Nat.le_refl _) (get_last _ _) rfl
    | bd i =>
      have a1 : (hd (.bd i) == Str.ofString "name") = false := rfl
      have a2 : ∀ μ, evSlc (en (.bd i)) (some 1) none μ = .ok (.tup [.int (i : Nat)]) μ := fun _ => rfl
      have a3 : (hd (.bd i) == Str.ofString "made") = false := rfl
      have a5 : ∀ μ, itSeq μ (.tup [.int (i : Nat)]) = .ok ([.int (i : Nat)], []) μ := fun _ => rfl
      simp only [a1, a2, a5, bind_ok, into_ok, seq_nx, seq_rt, seq_bk, seq_ct, out_rt, out_nx, vrD_ok, tup1, tup2, tup3, tup4, tup5, lst0, lst1, lst2, lst3, chB_t, chB_f, okB_some, tr_bl, setK_ok, kOk_eq, notK_eq, isNK_eq, notNK_eq, intO_ok, seqK_eq, strK_eq, rngK_eq, dctK_eq, consK_eq, someK_eq, noneK_eq, subK_ok, dropK_eq, retK_eq, asgK_eq, asgTK_eq, sub3_eq, binK_eq, cmpK_eq, idxK_eq, slcK2_eq, slcK_eq, ifK_eq, callK_eq, lK_eq, andK_eq, orK_eq, eltK_eq, allK_eq, lcK_eq, sub2_eq, sub1_eq, ifS_eq, forK_eq, e_var, e_ci, e_cs, e_cb, e_cn, e_not, e_isN, e_notN, e_bin, e_cmp, e_ifx, e_tup, e_lst, e_dnew, e_idx, e_slc, e_call, e_bi, e_isi, e_bm, e_lc, l_nil, l_cons, o_none, o_some, and_one, and_two, or_one, or_two, all_nil, all_one, trB_bl, i_seq, i_str, i_rng, i_keys, i_items, s_nil, s_cons, s_asg, s_asgT, s_sub, s_exp, s_ret, s_retN, s_if, s_for, List.getElem?_cons_zero, List.getElem?_cons_succ, List.set_cons_zero, List.set_cons_succ, List.length_cons, List.length_nil, Nat.reduceAdd, Nat.reduceLT, if_true, Bool.not_true, Bool.not_false]
      rw [forGo_cons (σ' := [some (en (.bd i)), some (.loc μ.length), some (.int (i : Nat))]) (μ' := μ ++ [Ob.lst []]), forGo_nil]
      · simp only [idx0, eqs, a3, bind_ok, into_ok, seq_nx, seq_rt, seq_bk, seq_ct, out_rt, out_nx, vrD_ok, tup1, tup2, tup3, tup4, tup5, lst0, lst1, lst2, lst3, chB_t, chB_f, okB_some, tr_bl, setK_ok, kOk_eq, notK_eq, isNK_eq, notNK_eq, intO_ok, seqK_eq, strK_eq, rngK_eq, dctK_eq, consK_eq, someK_eq, noneK_eq, subK_ok, dropK_eq, retK_eq, asgK_eq, asgTK_eq, sub3_eq, binK_eq, cmpK_eq, idxK_eq, slcK2_eq, slcK_eq, ifK_eq, callK_eq, lK_eq, andK_eq, orK_eq, eltK_eq, allK_eq, lcK_eq, sub2_eq, sub1_eq, ifS_eq, forK_eq, e_var, e_ci, e_cs, e_cb, e_cn, e_not, e_isN, e_notN, e_bin, e_cmp, e_ifx, e_tup, e_lst, e_dnew, e_idx, e_slc, e_call, e_bi, e_isi, e_bm, e_lc, l_nil, l_cons, o_none, o_some, and_one, and_two, or_one, or_two, all_nil, all_one, trB_bl, i_seq, i_str, i_rng, i_keys, i_items, s_nil, s_cons, s_asg, s_asgT, s_sub, s_exp, s_ret, s_retN, s_if, s_for, List.getElem?_cons_zero, List.getElem?_cons_succ, List.set_cons_zero, List.set_cons_succ, List.length_cons, List.length_nil, Nat.reduceAdd, Nat.reduceLT, if_true, Bool.not_true, Bool.not_false]
        exact val_list (xs := []) (Gr.app μ _) (Nat.le_refl _) (get_last _ _) rfl
      · rw [forStep_ok (σ' := [some (en (.bd i)), some (.loc μ.length), some (.int (i : Nat))]) pr _ _ _ rfl]
        simp only [isi_int, bind_ok, into_ok, seq_nx, seq_rt, seq_bk, seq_ct, out_rt, out_nx, vrD_ok, tup1, tup2, tup3, tup4, tup5, lst0, lst1, lst2, lst3, chB_t, chB_f, okB_some, tr_bl, setK_ok, kOk_eq, notK_eq, isNK_eq, notNK_eq, intO_ok, seqK_eq, strK_eq, rngK_eq, dctK_eq, consK_eq, someK_eq, noneK_eq, subK_ok, dropK_eq, retK_eq, asgK_eq, asgTK_eq, sub3_eq, binK_eq, cmpK_eq, idxK_eq, slcK2_eq, slcK_eq, ifK_eq, callK_eq, lK_eq, andK_eq, orK_eq, eltK_eq, allK_eq, lcK_eq, sub2_eq, sub1_eq, ifS_eq, forK_eq, e_var, e_ci, e_cs, e_cb, e_cn, e_not, e_isN, e_notN, e_bin, e_cmp, e_ifx, e_tup, e_lst, e_dnew, e_idx, e_slc, e_call, e_bi, e_isi, e_bm, e_lc, l_nil, l_cons, o_none, o_some, and_one, and_two, or_one, or_two, all_nil, all_one, trB_bl, i_seq, i_str, i_rng, i_keys, i_items, s_nil, s_cons, s_asg, s_asgT, s_sub, s_exp, s_ret, s_retN, s_if, s_for, List.getElem?_cons_zero, List.getElem?_cons_succ, List.set_cons_zero, List.set_cons_succ, List.length_cons, List.length_nil, Nat.reduceAdd, Nat.reduceLT, if_true, Bool.not_true, Bool.not_false]
    | vr i => cases hu
    | qn w k l t => cases hu
    | mk f ts =>
      have a1 : (hd (.mk f ts) == Str.ofString "name") = false := rfl
      have a2 : ∀ μ, evSlc (en (.mk f ts)) (some 1) none μ = .ok (.tup [.str f, .tup (enL ts)]) μ := fun _ => rfl
      have a3 : (hd (.mk f ts) == Str.ofString "made") = true := rfl
      have a4 : ∀ μ, itSeq μ (.tup [.str f, .tup (enL ts)]) = .ok ([.str f, .tup (enL ts)], []) μ := fun _ => rfl
      have a5 : ∀ μ, evIdx (en (.mk f ts)) (.int 2) μ = .ok (.tup (enL ts)) μ := fun _ => rfl
      have a6 : ∀ μ, itSeq μ (.tup (enL ts)) = .ok (enL ts, []) μ := fun _ => rfl
      rw [un] at hu
      rw [ht] at hn
      rw [nms] at hl
      obtain ⟨z', c', μ2, e1, e2, e3, e4⟩ := loop19 (C := PI.run pr n) (.mk f ts) b19m (.inl rfl) μ ts [] μ.length (some (.tup (enL ts))) (μ ++ [Ob.lst []]) g0 (Nat.le_refl _) c0 (by simp only [List.length_nil]; omega) fun x m μ' => ih x (un_mem hu m) (by have := ht_mem m; omega) (by have := nmsL_mem m; omega) μ'
      simp only [a1, a2, a4, bind_ok, into_ok, seq_nx, seq_rt, seq_bk, seq_ct, out_rt, out_nx, vrD_ok, tup1, tup2, tup3, tup4, tup5, lst0, lst1, lst2, lst3, chB_t, chB_f, okB_some, tr_bl, setK_ok, kOk_eq, notK_eq, isNK_eq, notNK_eq, intO_ok, seqK_eq, strK_eq, rngK_eq, dctK_eq, consK_eq, someK_eq, noneK_eq, subK_ok, dropK_eq, retK_eq, asgK_eq, asgTK_eq, sub3_eq, binK_eq, cmpK_eq, idxK_eq, slcK2_eq, slcK_eq, ifK_eq, callK_eq, lK_eq, andK_eq, orK_eq, eltK_eq, allK_eq, lcK_eq, sub2_eq, sub1_eq, ifS_eq, forK_eq, e_var, e_ci, e_cs, e_cb, e_cn, e_not, e_isN, e_notN, e_bin, e_cmp, e_ifx, e_tup, e_lst, e_dnew, e_idx, e_slc, e_call, e_bi, e_isi, e_bm, e_lc, l_nil, l_cons, o_none, o_some, and_one, and_two, or_one, or_two, all_nil, all_one, trB_bl, i_seq, i_str, i_rng, i_keys, i_items, s_nil, s_cons, s_asg, s_asgT, s_sub, s_exp, s_ret, s_retN, s_if, s_for, List.getElem?_cons_zero, List.getElem?_cons_succ, List.set_cons_zero, List.set_cons_succ, List.length_cons, List.length_nil, Nat.reduceAdd, Nat.reduceLT, if_true, Bool.not_true, Bool.not_false]
      rw [forGo_cons (σ' := [some (en (.mk f ts)), some (.loc μ.length), some (.str f)]) (μ' := μ ++ [Ob.lst []]), forGo_cons (σ' := [some (en (.mk f ts)), some (.loc μ.length), some (.tup (enL ts))]) (μ' := μ ++ [Ob.lst []]), forGo_nil]
      · simp only [idx0, eqs, a3, a5, a6, e1, bind_ok, into_ok, seq_nx, seq_rt, seq_bk, seq_ct, out_rt, out_nx, vrD_ok, tup1, tup2, tup3, tup4, tup5, lst0, lst1, lst2, lst3, chB_t, chB_f, okB_some, tr_bl, setK_ok, kOk_eq, notK_eq, isNK_eq, notNK_eq, intO_ok, seqK_eq, strK_eq, rngK_eq, dctK_eq, consK_eq, someK_eq, noneK_eq, subK_ok, dropK_eq, retK_eq, asgK_eq, asgTK_eq, sub3_eq, binK_eq, cmpK_eq, idxK_eq, slcK2_eq, slcK_eq, ifK_eq, callK_eq, lK_eq, andK_eq, orK_eq, eltK_eq, allK_eq, lcK_eq, sub2_eq, sub1_eq, ifS_eq, forK_eq, e_var, e_ci, e_cs, e_cb, e_cn, e_not, e_isN, e_notN, e_bin, e_cmp, e_ifx, e_tup, e_lst, e_dnew, e_idx, e_slc, e_call, e_bi, e_isi, e_bm, e_lc, l_nil, l_cons, o_none, o_some, and_one, and_two, or_one, or_two, all_nil, all_one, trB_bl, i_seq, i_str, i_rng, i_keys, i_items, s_nil, s_cons, s_asg, s_asgT, s_sub, s_exp, s_ret, s_retN, s_if, s_for, List.getElem?_cons_zero, List.getElem?_cons_succ, List.set_cons_zero, List.set_cons_succ, List.length_cons, List.length_nil, Nat.reduceAdd, Nat.reduceLT, if_true, Bool.not_true, Bool.not_false]
        rw [nms]
        exact val_list e2 e3 e4 (prs_solid _)
      · rw [forStep_ok (σ' := [some (en (.mk f ts)), some (.loc μ.length), some (.tup (enL ts))]) pr _ _ _ rfl]
        have i1 : ∀ μ, isiK .tuple (.tup (enL ts)) μ = .ok (.bl true) μ := fun _ => rfl
        have i2 : ∃ b, ∀ μ, evCmp .ne (.tup (enL ts)) (.tup []) μ = .ok (.bl b) μ := by
          refine ⟨!(PyData.tuple (pdL ts)).eqv (.tuple []), fun μ => ?_⟩
          have d : PyData.depth (.tuple []) = 1 := by simp [PyData.depth, PyData.depthAll]
          have e : eqM μ (.tup (enL ts)) (.tup []) = some ((PyData.tuple (pdL ts)).eqv (.tuple [])) := by
            unfold eqM py
            rw [pyW, py_enL]
            show (if min (PyData.depth (.tuple (pdL ts))) (PyData.depth (.tuple [])) ≤ eqDeep then some ((PyData.tuple (pdL ts)).eqv (.tuple [])) else none) = _
            rw [if_pos (by rw [d]; unfold eqDeep; omega)]
          unfold evCmp
          simp only [flat, Bool.false_and, Bool.false_eq_true, if_false, e]
        obtain ⟨b, i2⟩ := i2
        cases b with
        | false => simp only [i1, i2, tup0, bind_ok, into_ok, seq_nx, seq_rt, seq_bk, seq_ct, out_rt, out_nx, vrD_ok, tup1, tup2, tup3, tup4, tup5, lst0, lst1, lst2, lst3, chB_t, chB_f, okB_some, tr_bl, setK_ok, kOk_eq, notK_eq, isNK_eq, notNK_eq, intO_ok, seqK_eq, strK_eq, rngK_eq, dctK_eq, consK_eq, someK_eq, noneK_eq, subK_ok, dropK_eq, retK_eq, asgK_eq, asgTK_eq, sub3_eq, binK_eq, cmpK_eq, idxK_eq, slcK2_eq, slcK_eq, ifK_eq, callK_eq, lK_eq, andK_eq, orK_eq, eltK_eq, allK_eq, lcK_eq, sub2_eq, sub1_eq, ifS_eq, forK_eq, e_var, e_ci, e_cs, e_cb, e_cn, e_not, e_isN, e_notN, e_bin, e_cmp, e_ifx, e_tup, e_lst, e_dnew, e_idx, e_slc, e_call, e_bi, e_isi, e_bm, e_lc, l_nil, l_cons, o_none, o_some, and_one, and_two, or_one, or_two, all_nil, all_one, trB_bl, i_seq, i_str, i_rng, i_keys, i_items, s_nil, s_cons, s_asg, s_asgT, s_sub, s_exp, s_ret, s_retN, s_if, s_for, List.getElem?_cons_zero, List.getElem?_cons_succ, List.set_cons_zero, List.set_cons_succ, List.length_cons, List.length_nil, Nat.reduceAdd, Nat.reduceLT, if_true, Bool.not_true, Bool.not_false]
        | true => simp only [i1, i2, tup0, idx0, nes, a3, bind_ok, into_ok, seq_nx, seq_rt, seq_bk, seq_ct, out_rt, out_nx, vrD_ok, tup1, tup2, tup3, tup4, tup5, lst0, lst1, lst2, lst3, chB_t, chB_f, okB_some, tr_bl, setK_ok, kOk_eq, notK_eq, isNK_eq, notNK_eq, intO_ok, seqK_eq, strK_eq, rngK_eq, dctK_eq, consK_eq, someK_eq, noneK_eq, subK_ok, dropK_eq, retK_eq, asgK_eq, asgTK_eq, sub3_eq, binK_eq, cmpK_eq, idxK_eq, slcK2_eq, slcK_eq, ifK_eq, callK_eq, lK_eq, andK_eq, orK_eq, eltK_eq, allK_eq, lcK_eq, sub2_eq, sub1_eq, ifS_eq, forK_eq, e_var, e_ci, e_cs, e_cb, e_cn, e_not, e_isN, e_notN, e_bin, e_cmp, e_ifx, e_tup, e_lst, e_dnew, e_idx, e_slc, e_call, e_bi, e_isi, e_bm, e_lc, l_nil, l_cons, o_none, o_some, and_one, and_two, or_one, or_two, all_nil, all_one, trB_bl, i_seq, i_str, i_rng, i_keys, i_items, s_nil, s_cons, s_asg, s_asgT, s_sub, s_exp, s_ret, s_retN, s_if, s_for, List.getElem?_cons_zero, List.getElem?_cons_succ, List.set_cons_zero, List.set_cons_succ, List.length_cons, List.length_nil, Nat.reduceAdd, Nat.reduceLT, if_true, Bool.not_true, Bool.not_false]
      · rw [forStep_ok (σ' := [some (en (.mk f ts)), some (.loc μ.length), some (.str f)]) pr _ _ _ rfl]
        simp only [isi_str, bind_ok, into_ok, seq_nx, seq_rt, seq_bk, seq_ct, out_rt, out_nx, vrD_ok, tup1, tup2, tup3, tup4, tup5, lst0, lst1, lst2, lst3, chB_t, chB_f, okB_some, tr_bl, setK_ok, kOk_eq, notK_eq, isNK_eq, notNK_eq, intO_ok, seqK_eq, strK_eq, rngK_eq, dctK_eq, consK_eq, someK_eq, noneK_eq, subK_ok, dropK_eq, retK_eq, asgK_eq, asgTK_eq, sub3_eq, binK_eq, cmpK_eq, idxK_eq, slcK2_eq, slcK_eq, ifK_eq, callK_eq, lK_eq, andK_eq, orK_eq, eltK_eq, allK_eq, lcK_eq, sub2_eq, sub1_eq, ifS_eq, forK_eq, e_var, e_ci, e_cs, e_cb, e_cn, e_not, e_isN, e_notN, e_bin, e_cmp, e_ifx, e_tup, e_lst, e_dnew, e_idx, e_slc, e_call, e_bi, e_isi, e_bm, e_lc, l_nil, l_cons, o_none, o_some, and_one, and_two, or_one, or_two, all_nil, all_one, trB_bl, i_seq, i_str, i_rng, i_keys, i_items, s_nil, s_cons, s_asg, s_asgT, s_sub, s_exp, s_ret, s_retN, s_if, s_for, List.getElem?_cons_zero, List.getElem?_cons_succ, List.set_cons_zero, List.set_cons_succ, List.length_cons, List.length_nil, Nat.reduceAdd, Nat.reduceLT, if_true, Bool.not_true, Bool.not_false]
    | qt w k t =>
      have a1 : (hd (.qt w k t) == Str.ofString "name") = false := by cases w <;> rfl
      have a2 : ∀ μ, evSlc (en (.qt w k t)) (some 1) none μ = .ok (.tup [.str k, en t]) μ := fun _ => rfl
      have a3 : (hd (.qt w k t) == Str.ofString "made") = false := by cases w <;> rfl
      have a6 : ∀ μ, itSeq μ (.tup [.str k, en t]) = .ok (.str k :: enL [t], []) μ := fun _ => rfl
      rw [un] at hu
      rw [ht] at hn
      rw [nms] at hl
      have e : nmsL [t] = nms t := by rw [nmsL, nmsL, List.append_nil]
      obtain ⟨z', c', μ2, e1, e2, e3, e4⟩ := loop19 (C := PI.run pr n) (.qt w k t) b19 (.inr ⟨rfl, a3⟩) μ [t] [] μ.length (some (.str k)) (μ ++ [Ob.lst []]) g0 (Nat.le_refl _) c0 (by rw [e]; simp only [List.length_nil]; omega) fun x m μ' => by rw [List.mem_singleton.mp m]; exact ih t hu (by omega) hl μ'
      simp only [a1, a2, a6, bind_ok, into_ok, seq_nx, seq_rt, seq_bk, seq_ct, out_rt, out_nx, vrD_ok, tup1, tup2, tup3, tup4, tup5, lst0, lst1, lst2, lst3, chB_t, chB_f, okB_some, tr_bl, setK_ok, kOk_eq, notK_eq, isNK_eq, notNK_eq, intO_ok, seqK_eq, strK_eq, rngK_eq, dctK_eq, consK_eq, someK_eq, noneK_eq, subK_ok, dropK_eq, retK_eq, asgK_eq, asgTK_eq, sub3_eq, binK_eq, cmpK_eq, idxK_eq, slcK2_eq, slcK_eq, ifK_eq, callK_eq, lK_eq, andK_eq, orK_eq, eltK_eq, allK_eq, lcK_eq, sub2_eq, sub1_eq, ifS_eq, forK_eq, e_var, e_ci, e_cs, e_cb, e_cn, e_not, e_isN, e_notN, e_bin, e_cmp, e_ifx, e_tup, e_lst, e_dnew, e_idx, e_slc, e_call, e_bi, e_isi, e_bm, e_lc, l_nil, l_cons, o_none, o_some, and_one, and_two, or_one, or_two, all_nil, all_one, trB_bl, i_seq, i_str, i_rng, i_keys, i_items, s_nil, s_cons, s_asg, s_asgT, s_sub, s_exp, s_ret, s_retN, s_if, s_for, List.getElem?_cons_zero, List.getElem?_cons_succ, List.set_cons_zero, List.set_cons_succ, List.length_cons, List.length_nil, Nat.reduceAdd, Nat.reduceLT, if_true, Bool.not_true, Bool.not_false]
      rw [forGo_cons (σ' := [some (en (.qt w k t)), some (.loc μ.length), some (.str k)]) (μ' := μ ++ [Ob.lst []])]
      · simp only [e1, idx0, eqs, a3, bind_ok, into_ok, seq_nx, seq_rt, seq_bk, seq_ct, out_rt, out_nx, vrD_ok, tup1, tup2, tup3, tup4, tup5, lst0, lst1, lst2, lst3, chB_t, chB_f, okB_some, tr_bl, setK_ok, kOk_eq, notK_eq, isNK_eq, notNK_eq, intO_ok, seqK_eq, strK_eq, rngK_eq, dctK_eq, consK_eq, someK_eq, noneK_eq, subK_ok, dropK_eq, retK_eq, asgK_eq, asgTK_eq, sub3_eq, binK_eq, cmpK_eq, idxK_eq, slcK2_eq, slcK_eq, ifK_eq, callK_eq, lK_eq, andK_eq, orK_eq, eltK_eq, allK_eq, lcK_eq, sub2_eq, sub1_eq, ifS_eq, forK_eq, e_var, e_ci, e_cs, e_cb, e_cn, e_not, e_isN, e_notN, e_bin, e_cmp, e_ifx, e_tup, e_lst, e_dnew, e_idx, e_slc, e_call, e_bi, e_isi, e_bm, e_lc, l_nil, l_cons, o_none, o_some, and_one, and_two, or_one, or_two, all_nil, all_one, trB_bl, i_seq, i_str, i_rng, i_keys, i_items, s_nil, s_cons, s_asg, s_asgT, s_sub, s_exp, s_ret, s_retN, s_if, s_for, List.getElem?_cons_zero, List.getElem?_cons_succ, List.set_cons_zero, List.set_cons_succ, List.length_cons, List.length_nil, Nat.reduceAdd, Nat.reduceLT, if_true, Bool.not_true, Bool.not_false]
        rw [nms, ← e]
        exact val_list e2 e3 e4 (prs_solid _)
      · rw [forStep_ok (σ' := [some (en (.qt w k t)), some (.loc μ.length), some (.str k)]) pr _ _ _ rfl]
        simp only [isi_str, bind_ok, into_ok, seq_nx, seq_rt, seq_bk, seq_ct, out_rt, out_nx, vrD_ok, tup1, tup2, tup3, tup4, tup5, lst0, lst1, lst2, lst3, chB_t, chB_f, okB_some, tr_bl, setK_ok, kOk_eq, notK_eq, isNK_eq, notNK_eq, intO_ok, seqK_eq, strK_eq, rngK_eq, dctK_eq, consK_eq, someK_eq, noneK_eq, subK_ok, dropK_eq, retK_eq, asgK_eq, asgTK_eq, sub3_eq, binK_eq, cmpK_eq, idxK_eq, slcK2_eq, slcK_eq, ifK_eq, callK_eq, lK_eq, andK_eq, orK_eq, eltK_eq, allK_eq, lcK_eq, sub2_eq, sub1_eq, ifS_eq, forK_eq, e_var, e_ci, e_cs, e_cb, e_cn, e_not, e_isN, e_notN, e_bin, e_cmp, e_ifx, e_tup, e_lst, e_dnew, e_idx, e_slc, e_call, e_bi, e_isi, e_bm, e_lc, l_nil, l_cons, o_none, o_some, and_one, and_two, or_one, or_two, all_nil, all_one, trB_bl, i_seq, i_str, i_rng, i_keys, i_items, s_nil, s_cons, s_asg, s_asgT, s_sub, s_exp, s_ret, s_retN, s_if, s_for, List.getElem?_cons_zero, List.getElem?_cons_succ, List.set_cons_zero, List.set_cons_succ, List.length_cons, List.length_nil, Nat.reduceAdd, Nat.reduceLT, if_true, Bool.not_true, Bool.not_false]
    | op w ts =>
      have a1 : (hd (.op w ts) == Str.ofString "name") = false := by cases w <;> rfl
      have a3 : (hd (.op w ts) == Str.ofString "made") = false := by cases w <;> rfl
      have a6 : ∀ μ, itSeq μ (.tup (enL ts)) = .ok (enL ts, []) μ := fun _ => rfl
      rw [un] at hu
      rw [ht] at hn
      rw [nms] at hl
      obtain ⟨z', c', μ2, e1, e2, e3, e4⟩ := loop19 (C := PI.run pr n) (.op w ts) b19 (.inr ⟨rfl, a3⟩) μ ts [] μ.length none (μ ++ [Ob.lst []]) g0 (Nat.le_refl _) c0 (by simp only [List.length_nil]; omega) fun x m μ' => ih x (un_mem hu m) (by have := ht_mem m; omega) (by have := nmsL_mem m; omega) μ'
      simp only [a1, a6, slc1, e1, idx0, eqs, a3, bind_ok, into_ok, seq_nx, seq_rt, seq_bk, seq_ct, out_rt, out_nx, vrD_ok, tup1, tup2, tup3, tup4, tup5, lst0, lst1, lst2, lst3, chB_t, chB_f, okB_some, tr_bl, setK_ok, kOk_eq, notK_eq, isNK_eq, notNK_eq, intO_ok, seqK_eq, strK_eq, rngK_eq, dctK_eq, consK_eq, someK_eq, noneK_eq, subK_ok, dropK_eq, retK_eq, asgK_eq, asgTK_eq, sub3_eq, binK_eq, cmpK_eq, idxK_eq, slcK2_eq, slcK_eq, ifK_eq, callK_eq, lK_eq, andK_eq, orK_eq, eltK_eq, allK_eq, lcK_eq, sub2_eq, sub1_eq, ifS_eq, forK_eq, e_var, e_ci, e_cs, e_cb, e_cn, e_not, e_isN, e_notN, e_bin, e_cmp, e_ifx, e_tup, e_lst, e_dnew, e_idx, e_slc, e_call, e_bi, e_isi, e_bm, e_lc, l_nil, l_cons, o_none, o_some, and_one, and_two, or_one, or_two, all_nil, all_one, trB_bl, i_seq, i_str, i_rng, i_keys, i_items, s_nil, s_cons, s_asg, s_asgT, s_sub, s_exp, s_ret, s_retN, s_if, s_for, List.getElem?_cons_zero, List.getElem?_cons_succ, List.set_cons_zero, List.set_cons_succ, List.length_cons, List.length_nil, Nat.reduceAdd, Nat.reduceLT, if_true, Bool.not_true, Bool.not_false]
      rw [nms]
      exact val_list e2 e3 e4 (prs_solid _)
end K32

/-! k32: free_in, and the law's second question -/
namespace K32
open PySem PI
def pk (p : Str × Str) : List Str := [p.1, p.2]
def srt (ps : List (Str × Str)) : List D := (sortK (ps.map pk)).map fun k => .tup (k.map .str)
theorem tups_prs : ∀ ps : List (Str × Str), tupsOf (prs ps) = some (ps.map pk)
  | [] => rfl
  | p :: ps => by
    show tupsOf (.tup [.str p.1, .str p.2] :: prs ps) = _
    rw [tupsOf, tups_prs ps]
    rfl
theorem strs_solid : ∀ k : List Str, closedL 0 (k.map D.str) = true
  | [] => rfl
  | a :: k => by rw [List.map_cons, closedL, strs_solid k]; rfl
theorem tupl_solid : ∀ ks : List (List Str), closedL 0 (ks.map fun k : List Str => D.tup (k.map D.str)) = true
  | [] => rfl
  | k :: ks => by rw [List.map_cons, closedL, closed, strs_solid k, tupl_solid ks]; rfl
theorem srt_solid (ps : List (Str × Str)) : closedL 0 (srt ps) = true := tupl_solid _
theorem sorted_last {c : Nat} {μ : Mem} {ps : List (Str × Str)} (h : μ[c]? = some (.lst (prs ps))) (few : (dd (ps.map pk)).length < 64) : evBI .sortedSet [.loc c] μ = .ok (.loc μ.length) (μ ++ [Ob.lst (srt ps)]) := by
  show biSortedSet (.loc c) μ = _
  unfold biSortedSet lstOf
  simp only [h]
  show (match tupsOf (prs ps) with
    | some ks => if (dd ks).length < 64 then newL μ ((sortK ks).map fun k : List Str => D.tup (k.map D.str)) else .bad
    | none => .bad) = _
  rw [tups_prs]
  dsimp only
  rw [if_pos few]
  rfl
/-- == of what is sorted -/
theorem py_strs (g : Nat → Option PyData) : ∀ k : List Str, pyL g (k.map D.str) = some (k.map PyData.str)
  | [] => rfl
  | a :: k => by rw [List.map_cons, pyL, py_strs g k]; rfl
theorem py_tupl (g : Nat → Option PyData) : ∀ ks : List (List Str), pyL g (ks.map fun k : List Str => D.tup (k.map D.str)) = some (ks.map tupS)
  | [] => rfl
  | k :: ks => by rw [List.map_cons, pyL, pyW, py_strs g k, py_tupl g ks]; rfl
theorem eqv_strs : ∀ k : List Str, PyData.eqvAll (k.map PyData.str) (k.map PyData.str) = true
  | [] => by rw [List.map_nil, PyData.eqvAll]
  | a :: k => by rw [List.map_cons, PyData.eqvAll, eqv_strs k, PyData.eqv]; simp
theorem eqv_tupl : ∀ ks : List (List Str), PyData.eqvAll (ks.map tupS) (ks.map tupS) = true
  | [] => by rw [List.map_nil, PyData.eqvAll]
  | k :: ks => by
    rw [List.map_cons, PyData.eqvAll, eqv_tupl ks]
    unfold tupS
    rw [PyData.eqv, eqv_strs k]
    rfl
theorem dep_tupl : ∀ ks : List (List Str), PyData.depthAll (ks.map tupS) ≤ 3
  | [] => by simp [PyData.depthAll]
  | k :: ks => by
    have h1 := depth_tup k
    have h2 := dep_tupl ks
    rw [List.map_cons, PyData.depthAll]
    omega
theorem eqM_srt {a b : Nat} {μ : Mem} {ps : List (Str × Str)} (h : μ[a]? = some (.lst (srt ps))) (h' : μ[b]? = some (.lst (srt ps))) : eqM μ (.loc a) (.loc b) = some true := by
  have z : ∀ c, μ[c]? = some (.lst (srt ps)) → py μ (.loc c) = some (.list ((sortK (ps.map pk)).map tupS)) := fun c hc => by
    unfold py
    rw [pyW, pyN, hc]
    show (pyL (pyN μ 7) (srt ps)).map PyData.list = _
    unfold srt
    rw [py_tupl]
    rfl
  unfold eqM
  rw [z a h, z b h']
  dsimp only
  have d := dep_tupl (sortK (ps.map pk))
  rw [if_pos (by rw [PyData.depth]; unfold eqDeep; omega), PyData.eqv, eqv_tupl]
theorem ne_srt {a b : Nat} {μ : Mem} {ps : List (Str × Str)} (h : μ[a]? = some (.lst (srt ps))) (h' : μ[b]? = some (.lst (srt ps))) : evCmp .ne (.loc a) (.loc b) μ = .ok (.bl false) μ := by
  unfold evCmp
  simp only [flat, Bool.false_and, Bool.false_eq_true, if_false, eqM_srt h h', Bool.not_true]
theorem eq_srt {a b : Nat} {μ : Mem} {ps : List (Str × Str)} (h : μ[a]? = some (.lst (srt ps))) (h' : μ[b]? = some (.lst (srt ps))) : evCmp .eq (.loc a) (.loc b) μ = .ok (.bl true) μ := by
  unfold evCmp
  simp only [flat, Bool.false_and, Bool.false_eq_true, if_false, eqM_srt h h']
/-- a call that hands back a list of its own -/
theorem own_list {μ μ' : Mem} {c : Nat} {xs : List D} (g : Gr [] μ μ') (hn : μ.length ≤ c) (hc : μ'[c]? = some (.lst xs)) (hx : closedL 0 xs = true) : nrm .own μ (.ok (.loc c) μ') = .ok (.loc μ.length) (μ ++ [Ob.lst xs]) := by
  unfold nrm
  dsimp only
  rw [if_pos g.trim, if_neg (by omega), hc]
  dsimp only
  have e : frzTop μ' μ.length c (.lst xs) = some (.lst xs) := by
    show (frzL _ xs).map Ob.lst = _
    rw [frzL_solid _ hx]
    rfl
  rw [e]
  dsimp only
  rw [take_same g]
/-! ### free_in -/
abbrev b5 : List S := [.exp (.bm .extend (.var 1) [.call 4 [.var 2] .val])]
theorem f5_loop {C : Calls} (μ : Mem) {src : List (Nat × Ob)} (hs : ∀ J, Still src (μ ++ J) ∧ unlO src (μ ++ J) = some (μ ++ J)) (a : D) : ∀ (ts : List Th) (acc : List (Str × Str)) (z : Option D), acc.length + (nmsL ts).length ≤ 1000000 → (∀ t ∈ ts, ∀ μ', nrm .val μ' (C 4 [en t] μ') = .ok (.fl (prs (nms t))) μ') →
    ∃ z', forGo src (forStep pr C (.nm 2) b5) (enL ts) [some a, some (.loc μ.length), z] (μ ++ [Ob.lst (prs acc)]) = .nx [some a, some (.loc μ.length), z'] (μ ++ [Ob.lst (prs (acc ++ nmsL ts))])
  | [], acc, z, _, _ => ⟨z, by rw [enL, forGo_nilS (hs _).1 (hs _).2, nmsL, List.append_nil]⟩
  | t :: ts, acc, z, hl, h => by
    rw [nmsL, List.length_append] at hl
    have q := h t List.mem_cons_self (μ ++ [Ob.lst (prs acc)])
    have e := ext_last μ (prs acc) (prs (nms t)) (by rw [prs_len, prs_len]; unfold lim; omega)
    obtain ⟨z', ih⟩ := f5_loop (C := C) μ hs a ts (acc ++ nms t) (some (en t)) (by rw [List.length_append]; omega) fun x m => h x (List.mem_cons_of_mem _ m)
    refine ⟨z', ?_⟩
    rw [enL, forGo_consS (σ' := [some a, some (.loc μ.length), some (en t)]) (μ' := μ ++ [Ob.lst (prs (acc ++ nms t))]) (hs _).1, ih, nmsL, List.append_assoc]
    rw [forStep_ok (σ' := [some a, some (.loc μ.length), some (en t)]) pr C _ _ rfl, prs_app]
    simp only [bmK_ok pr _ _ (lstS_last μ (prs acc)), q, e, bind_ok, into_ok, seq_nx, seq_rt, seq_bk, seq_ct, out_rt, out_nx, vrD_ok, tup1, tup2, tup3, tup4, tup5, lst0, lst1, lst2, lst3, chB_t, chB_f, okB_some, tr_bl, setK_ok, kOk_eq, notK_eq, isNK_eq, notNK_eq, intO_ok, seqK_eq, strK_eq, rngK_eq, dctK_eq, consK_eq, someK_eq, noneK_eq, subK_ok, dropK_eq, retK_eq, asgK_eq, asgTK_eq, sub3_eq, binK_eq, cmpK_eq, idxK_eq, slcK2_eq, slcK_eq, ifK_eq, callK_eq, lK_eq, andK_eq, orK_eq, eltK_eq, allK_eq, lcK_eq, sub2_eq, sub1_eq, ifS_eq, forK_eq, e_var, e_ci, e_cs, e_cb, e_cn, e_not, e_isN, e_notN, e_bin, e_cmp, e_ifx, e_tup, e_lst, e_dnew, e_idx, e_slc, e_call, e_bi, e_isi, e_bm, e_lc, l_nil, l_cons, o_none, o_some, and_one, and_two, or_one, or_two, all_nil, all_one, trB_bl, i_seq, i_str, i_rng, i_keys, i_items, s_nil, s_cons, s_asg, s_asgT, s_sub, s_exp, s_ret, s_retN, s_if, s_for, List.getElem?_cons_zero, List.getElem?_cons_succ, List.set_cons_zero, List.set_cons_succ, List.length_cons, List.length_nil, Nat.reduceAdd, Nat.reduceLT, if_true, Bool.not_true, Bool.not_false]
theorem f5_ok {n : Nat} {ts : List Th} (hts : ∀ t ∈ ts, un t = true ∧ ht t ≤ n) (hl : (nmsL ts).length ≤ 100000) (few : (dd ((nmsL ts).map pk)).length < 64) (μ : Mem) (c : Nat) (hc : μ[c]? = some (.lst (enL ts))) : nrm .own μ (PI.run pr (n + 1) 5 [.loc c] μ) = .ok (.loc μ.length) (μ ++ [Ob.lst (srt (nmsL ts))]) := by
  rw [PI.run]
  show nrm .own μ (exL pr (PI.run pr n) f5.body [some (.loc c), none, none] μ).out = _
  have a1 : ∀ J, itSeq (μ ++ J) (.loc c) = .ok (enL ts, [(c, .lst (enL ts))]) (μ ++ J) := fun J => by
    unfold itSeq seqOf srcOf
    simp only [(Gr.app μ J).get hc]
  obtain ⟨z', q⟩ := f5_loop (C := PI.run pr n) μ (fun J => still_gr hc (Gr.app μ J)) (.loc c) ts [] none (by simp only [List.length_nil]; omega) fun t m μ' => f4_ok n t (hts t m).1 (hts t m).2 (by have := nmsL_mem m; omega) μ'
  have q : forGo [(c, .lst (enL ts))] (forStep pr (PI.run pr n) (.nm 2) b5) (enL ts) [some (.loc c), some (.loc μ.length), none] (μ ++ [Ob.lst []]) = .nx [some (.loc c), some (.loc μ.length), z'] (μ ++ [Ob.lst (prs (nmsL ts))]) := q
  have s := sorted_last (get_last μ (.lst (prs (nmsL ts)))) few
  simp only [f5, a1, q, s, bind_ok, into_ok, seq_nx, seq_rt, seq_bk, seq_ct, out_rt, out_nx, vrD_ok, tup1, tup2, tup3, tup4, tup5, lst0, lst1, lst2, lst3, chB_t, chB_f, okB_some, tr_bl, setK_ok, kOk_eq, notK_eq, isNK_eq, notNK_eq, intO_ok, seqK_eq, strK_eq, rngK_eq, dctK_eq, consK_eq, someK_eq, noneK_eq, subK_ok, dropK_eq, retK_eq, asgK_eq, asgTK_eq, sub3_eq, binK_eq, cmpK_eq, idxK_eq, slcK2_eq, slcK_eq, ifK_eq, callK_eq, lK_eq, andK_eq, orK_eq, eltK_eq, allK_eq, lcK_eq, sub2_eq, sub1_eq, ifS_eq, forK_eq, e_var, e_ci, e_cs, e_cb, e_cn, e_not, e_isN, e_notN, e_bin, e_cmp, e_ifx, e_tup, e_lst, e_dnew, e_idx, e_slc, e_call, e_bi, e_isi, e_bm, e_lc, l_nil, l_cons, o_none, o_some, and_one, and_two, or_one, or_two, all_nil, all_one, trB_bl, i_seq, i_str, i_rng, i_keys, i_items, s_nil, s_cons, s_asg, s_asgT, s_sub, s_exp, s_ret, s_retN, s_if, s_for, List.getElem?_cons_zero, List.getElem?_cons_succ, List.set_cons_zero, List.set_cons_succ, List.length_cons, List.length_nil, Nat.reduceAdd, Nat.reduceLT, if_true, Bool.not_true, Bool.not_false]
  exact own_list ((Gr.app μ _).trans0 (Gr.app _ _)) (by simp) (get_last _ _) (srt_solid _)
/-! ### the second question -/
abbrev b21 : List S := [.asg (.g (.nm 2)) (.bin .add (.var 2) (.call 19 [.var 3] .val))]
theorem loop21 {C : Calls} (μ : Mem) {src : List (Nat × Ob)} (hs : ∀ μ', Gr [] μ μ' → Still src μ' ∧ unlO src μ' = some μ') (a b : D) : ∀ (ts : List Th) (acc : List (Str × Str)) (c : Nat) (z : Option D) (μ' : Mem), Gr [] μ μ' → μ.length ≤ c → μ'[c]? = some (.lst (prs acc)) → acc.length + (nmsL ts).length ≤ 1000000 →
    (∀ t ∈ ts, ∀ μ', nrm .val μ' (C 19 [en t] μ') = .ok (.fl (prs (nms t))) μ') →
    ∃ z' c' μ2, forGo src (forStep pr C (.nm 3) b21) (enL ts) [some a, some b, some (.loc c), z] μ' = .nx [some a, some b, some (.loc c'), z'] μ2 ∧ Gr [] μ' μ2 ∧ μ.length ≤ c' ∧ μ2[c']? = some (.lst (prs (acc ++ nmsL ts)))
  | [], acc, c, z, μ', g, hc, h1, _, _ => ⟨z, c, μ', by rw [enL, forGo_nilS (hs _ g).1 (hs _ g).2], Gr.refl _, hc, by rw [nmsL, List.append_nil]; exact h1⟩
  | t :: ts, acc, c, z, μ', g, hc, h1, hl, h => by
    rw [nmsL, List.length_append] at hl
    have q := h t List.mem_cons_self μ'
    have e := add_lf h1 (ys := prs (nms t)) (by rw [prs_len, prs_len]; unfold lim; omega)
    rw [← prs_app] at e
    have g' : Gr [] μ (μ' ++ [Ob.lst (prs (acc ++ nms t))]) := g.trans0 (Gr.app _ _)
    obtain ⟨z', c', μ2, e1, e2, e3, e4⟩ := loop21 (C := C) μ hs a b ts (acc ++ nms t) μ'.length (some (en t)) (μ' ++ [Ob.lst (prs (acc ++ nms t))]) g' g.len (get_last _ _) (by rw [List.length_append]; omega) fun x m => h x (List.mem_cons_of_mem _ m)
    refine ⟨z', c', μ2, ?_, (Gr.app μ' _).trans0 e2, e3, by rw [nmsL, ← List.append_assoc]; exact e4⟩
    rw [enL, forGo_consS (σ' := [some a, some b, some (.loc μ'.length), some (en t)]) (μ' := μ' ++ [Ob.lst (prs (acc ++ nms t))]) (hs _ g).1, e1]
    rw [forStep_ok (σ' := [some a, some b, some (.loc c), some (en t)]) pr C _ _ rfl]
    simp only [q, e, bind_ok, into_ok, seq_nx, seq_rt, seq_bk, seq_ct, out_rt, out_nx, vrD_ok, tup1, tup2, tup3, tup4, tup5, lst0, lst1, lst2, lst3, chB_t, chB_f, okB_some, tr_bl, setK_ok, kOk_eq, notK_eq, isNK_eq, notNK_eq, intO_ok, seqK_eq, strK_eq, rngK_eq, dctK_eq, consK_eq, someK_eq, noneK_eq, subK_ok, dropK_eq, retK_eq, asgK_eq, asgTK_eq, sub3_eq, binK_eq, cmpK_eq, idxK_eq, slcK2_eq, slcK_eq, ifK_eq, callK_eq, lK_eq, andK_eq, orK_eq, eltK_eq, allK_eq, lcK_eq, sub2_eq, sub1_eq, ifS_eq, forK_eq, e_var, e_ci, e_cs, e_cb, e_cn, e_not, e_isN, e_notN, e_bin, e_cmp, e_ifx, e_tup, e_lst, e_dnew, e_idx, e_slc, e_call, e_bi, e_isi, e_bm, e_lc, l_nil, l_cons, o_none, o_some, and_one, and_two, or_one, or_two, all_nil, all_one, trB_bl, i_seq, i_str, i_rng, i_keys, i_items, s_nil, s_cons, s_asg, s_asgT, s_sub, s_exp, s_ret, s_retN, s_if, s_for, List.getElem?_cons_zero, List.getElem?_cons_succ, List.set_cons_zero, List.set_cons_succ, List.length_cons, List.length_nil, Nat.reduceAdd, Nat.reduceLT, if_true, Bool.not_true, Bool.not_false]
theorem f21_ok {n : Nat} {ts : List Th} (hts : ∀ t ∈ ts, un t = true ∧ ht t ≤ n) (hl : (nmsL ts).length ≤ 100000) (few : (dd ((nmsL ts).map pk)).length < 64) (μ : Mem) (c : Nat) (hc : μ[c]? = some (.lst (enL ts))) : nrm .val μ (PI.run pr (n + 2) 21 [.loc c] μ) = .ok (.bl true) μ := by
  rw [PI.run]
  show nrm .val μ (exL pr (PI.run pr (n + 1)) f21.body [some (.loc c), none, none, none] μ).out = _
  have q1 := f5_ok hts hl few μ c hc
  let m1 : Mem := μ ++ [Ob.lst (srt (nmsL ts))]
  let m2 : Mem := m1 ++ [Ob.lst []]
  have g2 : Gr [] μ m2 := (Gr.app μ _).trans0 (Gr.app m1 _)
  have q1 : nrm .own μ (PI.run pr (n + 1) 5 [.loc c] μ) = .ok (.loc μ.length) m1 := q1
  have c1 : lstK [] m1 = .ok (.loc m1.length) m2 := lst0 _
  have a1 : itSeq m2 (.loc c) = .ok (enL ts, [(c, .lst (enL ts))]) m2 := by
    unfold itSeq seqOf srcOf
    simp only [g2.get hc]
  have f1 : m2[μ.length]? = some (.lst (srt (nmsL ts))) := (Gr.app m1 _).get (get_last μ _)
  have hc1 : m1[c]? = some (.lst (enL ts)) := (Gr.app μ _).get hc
  obtain ⟨z', c', μ2, e1, e2, e3, e4⟩ := loop21 (C := PI.run pr (n + 1)) m1 (src := [(c, .lst (enL ts))]) (fun μ' g => still_gr hc1 g) (.loc c) (.loc μ.length) ts [] m1.length none m2 (Gr.app m1 _) (Nat.le_refl _) (get_last _ _) (by simp only [List.length_nil]; omega) fun t m μ' => f19_ok (n + 1) t (hts t m).1 (by have := (hts t m).2; omega) (by have := nmsL_mem m; omega) μ'
  rw [List.nil_append] at e4
  have ml : m1.length = μ.length + 1 := by simp [m1]
  have s1 := sorted_last e4 few
  let m3 : Mem := μ2 ++ [Ob.lst (srt (nmsL ts))]
  have s1 : evBI .sortedSet [.loc c'] μ2 = .ok (.loc μ2.length) m3 := s1
  have f2 : μ2[μ.length]? = some (.lst (srt (nmsL ts))) := e2.get f1
  have f3 : m3[μ.length]? = some (.lst (srt (nmsL ts))) := (Gr.app μ2 _).get f2
  have n1 : evCmp .ne (.loc μ.length) (.loc μ2.length) m3 = .ok (.bl false) m3 := ne_srt f3 (get_last μ2 _)
  have i1 : isiK .list (.loc μ.length) μ2 = .ok (.bl true) μ2 := by
    unfold isiK isTy tyD
    simp only [f2]
    rfl
  -- the append
  let m4 : Mem := m3.set μ.length (.lst (srt (nmsL ts) ++ [.tup [.str (Str.ofString "x"), .str (Str.ofString "x")]]))
  have sl : (srt (nmsL ts)).length < 64 := by
    unfold srt sortK
    rw [List.length_map, (List.mergeSort_perm _ leK).length_eq]
    exact few
  have l3 : lstS m3 (.loc μ.length) = some (srt (nmsL ts)) := by
    unfold lstS lstOf
    simp only [f3]
  have ap : evBM .append (.loc μ.length) [.tup [.str (Str.ofString "x"), .str (Str.ofString "x")]] m3 = .ok .non m4 := by
    unfold evBM one1 bmAppend
    simp only [f3]
    rw [if_pos (by unfold lim; omega)]
  have g3 : Gr [] μ m3 := (g2.trans0 e2).trans0 (Gr.app μ2 _)
  have g4 : Gr [] μ m4 := ⟨by simp only [m4, List.length_set]; exact g3.len, fun i hi h => by
    show (m3.set _ _)[i]? = _
    rw [List.getElem?_set_ne (by omega)]
    exact g3.same i hi h, fun _ _ h => absurd h List.not_mem_nil⟩
  have q2 := f5_ok hts hl few m4 c (g4.get hc)
  let m5 : Mem := m4 ++ [Ob.lst (srt (nmsL ts))]
  have q2 : nrm .own m4 (PI.run pr (n + 1) 5 [.loc c] m4) = .ok (.loc m4.length) m5 := q2
  have e5 : m5[c']? = some (.lst (prs (nmsL ts))) := by
    refine (Gr.app m4 _).get ?_
    show (m3.set _ _)[c']? = _
    rw [List.getElem?_set_ne (by omega)]
    exact (Gr.app μ2 _).get e4
  have s2 := sorted_last e5 few
  let m6 : Mem := m5 ++ [Ob.lst (srt (nmsL ts))]
  have s2 : evBI .sortedSet [.loc c'] m5 = .ok (.loc m5.length) m6 := s2
  have n2 : evCmp .eq (.loc m4.length) (.loc m5.length) m6 = .ok (.bl true) m6 := eq_srt ((Gr.app m5 _).get (get_last m4 _)) (get_last m5 _)
  have g6 : Gr [] μ m6 := (g4.trans0 (Gr.app m4 _)).trans0 (Gr.app m5 _)
  have b1 : bmK pr (PI.run pr (n + 1)) [some (.loc c), some (.loc μ.length), some (.loc c'), z'] .append [.tup [.cs (Str.ofString "x"), .cs (Str.ofString "x")]] (.loc μ.length) m3 = .ok .non m4 := by
    rw [bmK_ok pr _ _ l3]
    simp only [bind_ok, into_ok, seq_nx, seq_rt, seq_bk, seq_ct, out_rt, out_nx, vrD_ok, tup1, tup2, tup3, tup4, tup5, lst0, lst1, lst2, lst3, chB_t, chB_f, okB_some, tr_bl, setK_ok, kOk_eq, notK_eq, isNK_eq, notNK_eq, intO_ok, seqK_eq, strK_eq, rngK_eq, dctK_eq, consK_eq, someK_eq, noneK_eq, subK_ok, dropK_eq, retK_eq, asgK_eq, asgTK_eq, sub3_eq, binK_eq, cmpK_eq, idxK_eq, slcK2_eq, slcK_eq, ifK_eq, callK_eq, lK_eq, andK_eq, orK_eq, eltK_eq, allK_eq, lcK_eq, sub2_eq, sub1_eq, ifS_eq, forK_eq, e_var, e_ci, e_cs, e_cb, e_cn, e_not, e_isN, e_notN, e_bin, e_cmp, e_ifx, e_tup, e_lst, e_dnew, e_idx, e_slc, e_call, e_bi, e_isi, e_bm, e_lc, l_nil, l_cons, o_none, o_some, and_one, and_two, or_one, or_two, all_nil, all_one, trB_bl, i_seq, i_str, i_rng, i_keys, i_items, s_nil, s_cons, s_asg, s_asgT, s_sub, s_exp, s_ret, s_retN, s_if, s_for, List.getElem?_cons_zero, List.getElem?_cons_succ, List.set_cons_zero, List.set_cons_succ, List.length_cons, List.length_nil, Nat.reduceAdd, Nat.reduceLT, if_true, Bool.not_true, Bool.not_false]
    exact ap
  clear_value m1 m2 m3 m4 m5 m6
  simp only [f21, q1, c1, a1, e1, i1, s1, n1, b1, q2, s2, n2, bind_ok, into_ok, seq_nx, seq_rt, seq_bk, seq_ct, out_rt, out_nx, vrD_ok, tup1, tup2, tup3, tup4, tup5, lst0, lst1, lst2, lst3, chB_t, chB_f, okB_some, tr_bl, setK_ok, kOk_eq, notK_eq, isNK_eq, notNK_eq, intO_ok, seqK_eq, strK_eq, rngK_eq, dctK_eq, consK_eq, someK_eq, noneK_eq, subK_ok, dropK_eq, retK_eq, asgK_eq, asgTK_eq, sub3_eq, binK_eq, cmpK_eq, idxK_eq, slcK2_eq, slcK_eq, ifK_eq, callK_eq, lK_eq, andK_eq, orK_eq, eltK_eq, allK_eq, lcK_eq, sub2_eq, sub1_eq, ifS_eq, forK_eq, e_var, e_ci, e_cs, e_cb, e_cn, e_not, e_isN, e_notN, e_bin, e_cmp, e_ifx, e_tup, e_lst, e_dnew, e_idx, e_slc, e_call, e_bi, e_isi, e_bm, e_lc, l_nil, l_cons, o_none, o_some, and_one, and_two, or_one, or_two, all_nil, all_one, trB_bl, i_seq, i_str, i_rng, i_keys, i_items, s_nil, s_cons, s_asg, s_asgT, s_sub, s_exp, s_ret, s_retN, s_if, s_for, List.getElem?_cons_zero, List.getElem?_cons_succ, List.set_cons_zero, List.set_cons_succ, List.length_cons, List.length_nil, Nat.reduceAdd, Nat.reduceLT, if_true, Bool.not_true, Bool.not_false]
  exact nrm_val0 g6 rfl
end K32

/-! k32: drawing -/
namespace K32
open PySem PI
/-- a state at the place m -/
def St (μ : Mem) (m : Nat) : Prop := ∃ a b : Int, μ[m]? = some (.lst [.int a, .int b]) ∧ 0 ≤ a ∧ a < 2147483647 ∧ 0 ≤ b
/-- longer, the old places but for S as they were -/
structure Up (S : List Nat) (μ μ' : Mem) : Prop where
  len : μ.length ≤ μ'.length
  same : ∀ i, i < μ.length → i ∉ S → μ'[i]? = μ[i]?
theorem Up.refl (S : List Nat) (μ : Mem) : Up S μ μ := ⟨Nat.le_refl _, fun _ _ _ => rfl⟩
theorem Up.trans {S : List Nat} {μ μ1 μ2 : Mem} (g : Up S μ μ1) (h : Up S μ1 μ2) : Up S μ μ2 := ⟨Nat.le_trans g.len h.len, fun i hi n => (h.same i (Nat.lt_of_lt_of_le hi g.len) n).trans (g.same i hi n)⟩
theorem Up.app (S : List Nat) (μ J : Mem) : Up S μ (μ ++ J) := ⟨by simp, fun i hi _ => by rw [List.getElem?_append_left hi]⟩
theorem Up.set {S : List Nat} {m : Nat} (hm : m ∈ S) (μ : Mem) (ob : Ob) : Up S μ (μ.set m ob) := ⟨by rw [List.length_set]; exact Nat.le_refl _, fun i hi n => List.getElem?_set_ne (fun z => n (by rw [← z]; exact hm))⟩
theorem Up.more {S S' : List Nat} (h : ∀ i ∈ S, i ∈ S') {μ μ' : Mem} (g : Up S μ μ') : Up S' μ μ' := ⟨g.len, fun i hi n => g.same i hi fun z => n (h i z)⟩
theorem Up.get {S : List Nat} {μ μ' : Mem} (g : Up S μ μ') {i : Nat} {ob : Ob} (n : i ∉ S) (h : μ[i]? = some ob) : μ'[i]? = some ob := (g.same i (List.getElem?_eq_some_iff.mp h).1 n).trans h
/-- places above do not count -/
theorem Up.low {S : List Nat} {μ0 μ μ' : Mem} (g0 : Up S μ0 μ) {m : Nat} (hm : μ0.length ≤ m) (ob : Ob) : Up S μ0 (μ.set m ob) := ⟨by rw [List.length_set]; exact g0.len, fun i hi n => by rw [List.getElem?_set_ne (by omega)]; exact g0.same i hi n⟩
theorem St.gr {S : List Nat} {μ μ' : Mem} (g : Up S μ μ') (h : ∀ m ∈ S, m < μ.length → ∃ ob, μ'[m]? = some ob ∧ closedO 0 ob = true) : Gr S μ μ' := ⟨g.len, g.same, fun i hi n => by
  obtain ⟨ob, h1, h2⟩ := h i n hi
  refine ⟨ob, h1, ?_⟩
  cases ob with
  | lst xs => exact closedL_mono (Nat.zero_le _) h2
  | dct k kvs => exact closedP_mono (Nat.zero_le _) h2
  | ins c fs => exact closedF_mono (Nat.zero_le _) h2⟩
theorem St.solid {μ : Mem} {m : Nat} (h : St μ m) : ∃ ob, μ[m]? = some ob ∧ closedO 0 ob = true := by
  obtain ⟨a, b, h1, _⟩ := h
  exact ⟨_, h1, rfl⟩
theorem St.up {μ μ' : Mem} {m : Nat} (h : St μ m) (e : μ'[m]? = μ[m]?) : St μ' m := by
  obtain ⟨a, b, h1, r⟩ := h
  exact ⟨a, b, e.trans h1, r⟩
theorem take_up {S : List Nat} {μ μ' : Mem} (g : Up S μ μ') : Up S μ (μ'.take μ.length) ∧ (μ'.take μ.length).length = μ.length ∧ ∀ i, i < μ.length → (μ'.take μ.length)[i]? = μ'[i]? := by
  have hl := g.len
  have z : ∀ i, i < μ.length → (μ'.take μ.length)[i]? = μ'[i]? := fun i hi => by rw [List.getElem?_take, if_pos hi]
  refine ⟨⟨by rw [List.length_take]; omega, fun i hi n => by rw [z i hi]; exact g.same i hi n⟩, by rw [List.length_take]; omega, z⟩
theorem idx_at {c : Nat} {μ : Mem} {xs : List D} {i : Int} {k : Nat} {d : D} (h : μ[c]? = some (.lst xs)) (hi : i = (k : Nat)) (hk : xs[k]? = some d) : evIdx (.loc c) (.int i) μ = .ok d μ := by
  subst hi
  exact idx_loc h hk
theorem set_at {c : Nat} {μ : Mem} {xs : List D} {k : Nat} (h : μ[c]? = some (.lst xs)) (hk : k < xs.length) (v : D) : setSub (.loc c) (.int (k : Nat)) v μ = some (μ.set c (.lst (xs.set k v))) := by
  unfold setSub
  simp only [h]
  have : ixOf xs.length (k : Int) = some k := by
    unfold ixOf
    rw [if_pos (by omega), if_pos (by omega)]
    rfl
  rw [this]
theorem mod_int {i j : Int} (h : 0 < j) (μ : Mem) : evBin .mod (.int i) (.int j) μ = .ok (.int (i % j)) μ := by
  show (if 0 < j then _ else _) = _
  rw [if_pos h]
theorem div_int {i j : Int} (h : 0 < j) (h' : j < 1073741824) (μ : Mem) : evBin .div (.int i) (.int j) μ = .ok (.int (i / j)) μ := by
  show (if 0 < j ∧ j < 1073741824 then _ else _) = _
  rw [if_pos ⟨h, h'⟩]
theorem mul_int {i j : Int} (h : B64 i = true ∨ B64 j = true) (μ : Mem) : evBin .mul (.int i) (.int j) μ = .ok (.int (i * j)) μ := by
  show (if (B64 i || B64 j) = true then _ else _) = _
  rw [if_pos (by rw [Bool.or_eq_true]; exact h)]
theorem sub_int (i j : Int) (μ : Mem) : evBin .sub (.int i) (.int j) μ = .ok (.int (i - j)) μ := rfl
theorem gt_int (i j : Int) (μ : Mem) : evCmp .gt (.int i) (.int j) μ = .ok (.bl (decide (j < i))) μ := rfl
theorem lt_int' (i j : Int) (μ : Mem) : evCmp .lt (.int i) (.int j) μ = .ok (.bl (decide (i < j))) μ := rfl
theorem eq_int (i j : Int) (μ : Mem) : evCmp .eq (.int i) (.int j) μ = .ok (.bl (i == j)) μ := rfl
theorem f8_ok (n : Nat) (μ : Mem) (m : Nat) (many : Int) (hs : St μ m) (h1 : 0 < many) (h2 : many < 1073741824) :
    ∃ r μ', nrm .val μ (PI.run pr (n + 1) 8 [.loc m, .int many] μ) = .ok (.int r) μ' ∧ 0 ≤ r ∧ r < many ∧ St μ' m ∧ Up [m] μ μ' ∧ μ'.length = μ.length := by
  obtain ⟨a, b, hm, ha, ha', hb⟩ := hs
  rw [PI.run]
  have hl := (List.getElem?_eq_some_iff.mp hm).1
  -- whatever it ends with
  have fin : ∀ (r : Int) (a' b' : Int), 0 ≤ r → r < many → 0 ≤ a' → a' < 2147483647 → 0 ≤ b' → ∃ r' μ', nrm .val μ (.ok (.int r) (μ.set m (.lst [.int a', .int b']))) = .ok (.int r') μ' ∧ 0 ≤ r' ∧ r' < many ∧ St μ' m ∧ Up [m] μ μ' ∧ μ'.length = μ.length := fun r a' b' k1 k2 k3 k4 k5 => by
    have e : (μ.set m (.lst [.int a', .int b']))[m]? = some (.lst [.int a', .int b']) := List.getElem?_set_self hl
    have u : Up [m] μ (μ.set m (.lst [.int a', .int b'])) := Up.set (List.mem_singleton.mpr rfl) _ _
    have g : Gr [m] μ (μ.set m (.lst [.int a', .int b'])) := St.gr u fun i hi _ => by rw [List.mem_singleton.mp hi]; exact ⟨_, e, rfl⟩
    obtain ⟨t1, t2, t3⟩ := take_up u
    exact ⟨r, _, nrm_val g rfl, k1, k2, ⟨a', b', (t3 m hl).trans e, k3, k4, k5⟩, t1, t2⟩
  show ∃ r μ', nrm .val μ (exL pr (PI.run pr n) f8.body [some (.loc m), some (.int many), none] μ).out = .ok (.int r) μ' ∧ _
  have x1 : evIdx (.loc m) (.int 1) μ = .ok (.int b) μ := idx_loc (k := 1) hm rfl
  have x0 : evIdx (.loc m) (.int 0) μ = .ok (.int a) μ := idx_loc (k := 0) hm rfl
  simp only [f8, x1, gt_int, bind_ok, into_ok, seq_nx, seq_rt, seq_bk, seq_ct, out_rt, out_nx, vrD_ok, tup1, tup2, tup3, tup4, tup5, lst0, lst1, lst2, lst3, chB_t, chB_f, okB_some, tr_bl, setK_ok, kOk_eq, notK_eq, isNK_eq, notNK_eq, intO_ok, seqK_eq, strK_eq, rngK_eq, dctK_eq, consK_eq, someK_eq, noneK_eq, subK_ok, dropK_eq, retK_eq, asgK_eq, asgTK_eq, sub3_eq, binK_eq, cmpK_eq, idxK_eq, slcK2_eq, slcK_eq, ifK_eq, callK_eq, lK_eq, andK_eq, orK_eq, eltK_eq, allK_eq, lcK_eq, sub2_eq, sub1_eq, ifS_eq, forK_eq, e_var, e_ci, e_cs, e_cb, e_cn, e_not, e_isN, e_notN, e_bin, e_cmp, e_ifx, e_tup, e_lst, e_dnew, e_idx, e_slc, e_call, e_bi, e_isi, e_bm, e_lc, l_nil, l_cons, o_none, o_some, and_one, and_two, or_one, or_two, all_nil, all_one, trB_bl, i_seq, i_str, i_rng, i_keys, i_items, s_nil, s_cons, s_asg, s_asgT, s_sub, s_exp, s_ret, s_retN, s_if, s_for, List.getElem?_cons_zero, List.getElem?_cons_succ, List.set_cons_zero, List.set_cons_succ, List.length_cons, List.length_nil, Nat.reduceAdd, Nat.reduceLT, if_true, Bool.not_true, Bool.not_false]
  by_cases c : 0 < b
  · rw [decide_eq_true c]
    have s1 : setSub (.loc m) (.int 1) (.int (b / many)) μ = some (μ.set m (.lst [.int a, .int (b / many)])) := set_at (k := 1) hm (show 1 < 2 by decide) _
    simp only [x1, mod_int h1, div_int h1 h2, s1, bind_ok, into_ok, seq_nx, seq_rt, seq_bk, seq_ct, out_rt, out_nx, vrD_ok, tup1, tup2, tup3, tup4, tup5, lst0, lst1, lst2, lst3, chB_t, chB_f, okB_some, tr_bl, setK_ok, kOk_eq, notK_eq, isNK_eq, notNK_eq, intO_ok, seqK_eq, strK_eq, rngK_eq, dctK_eq, consK_eq, someK_eq, noneK_eq, subK_ok, dropK_eq, retK_eq, asgK_eq, asgTK_eq, sub3_eq, binK_eq, cmpK_eq, idxK_eq, slcK2_eq, slcK_eq, ifK_eq, callK_eq, lK_eq, andK_eq, orK_eq, eltK_eq, allK_eq, lcK_eq, sub2_eq, sub1_eq, ifS_eq, forK_eq, e_var, e_ci, e_cs, e_cb, e_cn, e_not, e_isN, e_notN, e_bin, e_cmp, e_ifx, e_tup, e_lst, e_dnew, e_idx, e_slc, e_call, e_bi, e_isi, e_bm, e_lc, l_nil, l_cons, o_none, o_some, and_one, and_two, or_one, or_two, all_nil, all_one, trB_bl, i_seq, i_str, i_rng, i_keys, i_items, s_nil, s_cons, s_asg, s_asgT, s_sub, s_exp, s_ret, s_retN, s_if, s_for, List.getElem?_cons_zero, List.getElem?_cons_succ, List.set_cons_zero, List.set_cons_succ, List.length_cons, List.length_nil, Nat.reduceAdd, Nat.reduceLT, if_true, Bool.not_true, Bool.not_false]
    exact fin _ _ _ (Int.emod_nonneg _ (by omega)) (Int.emod_lt_of_pos _ h1) ha ha' (Int.ediv_nonneg hb (by omega))
  · rw [decide_eq_false c]
    have p1 : (0 : Int) < 2147483647 := by decide
    have s0 : ∀ v, setSub (.loc m) (.int 0) v μ = some (μ.set m (.lst [v, .int b])) := fun v => set_at (k := 0) hm (show 0 < 2 by decide) v
    have x2 : ∀ v, evIdx (.loc m) (.int 0) (μ.set m (.lst [v, .int b])) = .ok v (μ.set m (.lst [v, .int b])) := fun v => idx_loc (k := 0) (List.getElem?_set_self hl) rfl
    have m1 : ∀ μ, evBin .mul (.int a) (.int 48271) μ = .ok (.int (a * 48271)) μ := fun μ => mul_int (.inr (by decide)) μ
    simp only [x0, m1, add_int, mod_int p1, s0, x2, div_int (show (0 : Int) < 16 by decide) (show (16 : Int) < 1073741824 by decide), mod_int h1, bind_ok, into_ok, seq_nx, seq_rt, seq_bk, seq_ct, out_rt, out_nx, vrD_ok, tup1, tup2, tup3, tup4, tup5, lst0, lst1, lst2, lst3, chB_t, chB_f, okB_some, tr_bl, setK_ok, kOk_eq, notK_eq, isNK_eq, notNK_eq, intO_ok, seqK_eq, strK_eq, rngK_eq, dctK_eq, consK_eq, someK_eq, noneK_eq, subK_ok, dropK_eq, retK_eq, asgK_eq, asgTK_eq, sub3_eq, binK_eq, cmpK_eq, idxK_eq, slcK2_eq, slcK_eq, ifK_eq, callK_eq, lK_eq, andK_eq, orK_eq, eltK_eq, allK_eq, lcK_eq, sub2_eq, sub1_eq, ifS_eq, forK_eq, e_var, e_ci, e_cs, e_cb, e_cn, e_not, e_isN, e_notN, e_bin, e_cmp, e_ifx, e_tup, e_lst, e_dnew, e_idx, e_slc, e_call, e_bi, e_isi, e_bm, e_lc, l_nil, l_cons, o_none, o_some, and_one, and_two, or_one, or_two, all_nil, all_one, trB_bl, i_seq, i_str, i_rng, i_keys, i_items, s_nil, s_cons, s_asg, s_asgT, s_sub, s_exp, s_ret, s_retN, s_if, s_for, List.getElem?_cons_zero, List.getElem?_cons_succ, List.set_cons_zero, List.set_cons_succ, List.length_cons, List.length_nil, Nat.reduceAdd, Nat.reduceLT, if_true, Bool.not_true, Bool.not_false]
    exact fin _ _ _ (Int.emod_nonneg _ (by omega)) (Int.emod_lt_of_pos _ h1) (Int.emod_nonneg _ (by decide)) (Int.emod_lt_of_pos _ p1) hb
theorem f7_ok (n : Nat) (μ : Mem) (cell : Int) : ∃ a b : Int, nrm .own μ (PI.run pr (n + 1) 7 [.int cell] μ) = .ok (.loc μ.length) (μ ++ [Ob.lst [.int a, .int b]]) ∧ 0 ≤ a ∧ a < 2147483647 ∧ 0 ≤ b := by
  rw [PI.run]
  have p1 : (0 : Int) < 2147483647 := by decide
  have pw : ∀ μ, evBin .pow (.int 10) (.int 18) μ = .ok (.int (10 ^ (18 : Int).toNat)) μ := fun μ => rfl
  have mx : ∀ j μ, evBI .max2 [.int 0, .int j] μ = .ok (.int (if j > 0 then j else 0)) μ := fun _ _ => rfl
  show ∃ a b : Int, nrm .own μ (exL pr (PI.run pr n) f7.body [some (.int cell)] μ).out = _ ∧ _
  simp only [f7, mod_int p1, pw, sub_int, mx, bind_ok, into_ok, seq_nx, seq_rt, seq_bk, seq_ct, out_rt, out_nx, vrD_ok, tup1, tup2, tup3, tup4, tup5, lst0, lst1, lst2, lst3, chB_t, chB_f, okB_some, tr_bl, setK_ok, kOk_eq, notK_eq, isNK_eq, notNK_eq, intO_ok, seqK_eq, strK_eq, rngK_eq, dctK_eq, consK_eq, someK_eq, noneK_eq, subK_ok, dropK_eq, retK_eq, asgK_eq, asgTK_eq, sub3_eq, binK_eq, cmpK_eq, idxK_eq, slcK2_eq, slcK_eq, ifK_eq, callK_eq, lK_eq, andK_eq, orK_eq, eltK_eq, allK_eq, lcK_eq, sub2_eq, sub1_eq, ifS_eq, forK_eq, e_var, e_ci, e_cs, e_cb, e_cn, e_not, e_isN, e_notN, e_bin, e_cmp, e_ifx, e_tup, e_lst, e_dnew, e_idx, e_slc, e_call, e_bi, e_isi, e_bm, e_lc, l_nil, l_cons, o_none, o_some, and_one, and_two, or_one, or_two, all_nil, all_one, trB_bl, i_seq, i_str, i_rng, i_keys, i_items, s_nil, s_cons, s_asg, s_asgT, s_sub, s_exp, s_ret, s_retN, s_if, s_for, List.getElem?_cons_zero, List.getElem?_cons_succ, List.set_cons_zero, List.set_cons_succ, List.length_cons, List.length_nil, Nat.reduceAdd, Nat.reduceLT, if_true, Bool.not_true, Bool.not_false]
  refine ⟨_, _, own_list (Gr.app μ _) (Nat.le_refl _) (get_last _ _) rfl, Int.emod_nonneg _ (by decide), Int.emod_lt_of_pos _ p1, ?_⟩
  split <;> omega
theorem f6_ok (n : Nat) (μ : Mem) (ns : List Int) (k : Nat) : ∃ v, nrm .val μ (PI.run pr (n + 1) 6 [.sl (ns.map D.int), .int (k : Nat)] μ) = .ok (.int v) μ := by
  rw [PI.run]
  show ∃ v, nrm .val μ (exL pr (PI.run pr n) f6.body [some (.sl (ns.map D.int)), some (.int (k : Nat))] μ).out = _
  have ln : evBI .len [.sl (ns.map D.int)] μ = .ok (.int (ns.length : Nat)) μ := by
    show R.ok (D.int ((ns.map D.int).length : Nat)) μ = _
    rw [List.length_map]
  simp only [f6, ln, lt_int', bind_ok, into_ok, seq_nx, seq_rt, seq_bk, seq_ct, out_rt, out_nx, vrD_ok, tup1, tup2, tup3, tup4, tup5, lst0, lst1, lst2, lst3, chB_t, chB_f, okB_some, tr_bl, setK_ok, kOk_eq, notK_eq, isNK_eq, notNK_eq, intO_ok, seqK_eq, strK_eq, rngK_eq, dctK_eq, consK_eq, someK_eq, noneK_eq, subK_ok, dropK_eq, retK_eq, asgK_eq, asgTK_eq, sub3_eq, binK_eq, cmpK_eq, idxK_eq, slcK2_eq, slcK_eq, ifK_eq, callK_eq, lK_eq, andK_eq, orK_eq, eltK_eq, allK_eq, lcK_eq, sub2_eq, sub1_eq, ifS_eq, forK_eq, e_var, e_ci, e_cs, e_cb, e_cn, e_not, e_isN, e_notN, e_bin, e_cmp, e_ifx, e_tup, e_lst, e_dnew, e_idx, e_slc, e_call, e_bi, e_isi, e_bm, e_lc, l_nil, l_cons, o_none, o_some, and_one, and_two, or_one, or_two, all_nil, all_one, trB_bl, i_seq, i_str, i_rng, i_keys, i_items, s_nil, s_cons, s_asg, s_asgT, s_sub, s_exp, s_ret, s_retN, s_if, s_for, List.getElem?_cons_zero, List.getElem?_cons_succ, List.set_cons_zero, List.set_cons_succ, List.length_cons, List.length_nil, Nat.reduceAdd, Nat.reduceLT, if_true, Bool.not_true, Bool.not_false]
  by_cases c : (k : Int) < (ns.length : Nat)
  · have hk : k < ns.length := by omega
    have ix : evIdx (.sl (ns.map D.int)) (.int (k : Nat)) μ = .ok (.int ns[k]) μ := by
      unfold evIdx dctOf seqOf
      dsimp only
      have : ixOf (ns.map D.int).length (k : Int) = some k := by
        unfold ixOf
        rw [List.length_map, if_pos (by omega), if_pos c]
        rfl
      rw [this]
      show (match (ns.map D.int)[k]? with
        | some v => R.ok v μ
        | none => .bad) = _
      rw [List.getElem?_map, List.getElem?_eq_getElem hk]
      rfl
    rw [decide_eq_true c]
    simp only [ix, bind_ok, into_ok, seq_nx, seq_rt, seq_bk, seq_ct, out_rt, out_nx, vrD_ok, tup1, tup2, tup3, tup4, tup5, lst0, lst1, lst2, lst3, chB_t, chB_f, okB_some, tr_bl, setK_ok, kOk_eq, notK_eq, isNK_eq, notNK_eq, intO_ok, seqK_eq, strK_eq, rngK_eq, dctK_eq, consK_eq, someK_eq, noneK_eq, subK_ok, dropK_eq, retK_eq, asgK_eq, asgTK_eq, sub3_eq, binK_eq, cmpK_eq, idxK_eq, slcK2_eq, slcK_eq, ifK_eq, callK_eq, lK_eq, andK_eq, orK_eq, eltK_eq, allK_eq, lcK_eq, sub2_eq, sub1_eq, ifS_eq, forK_eq, e_var, e_ci, e_cs, e_cb, e_cn, e_not, e_isN, e_notN, e_bin, e_cmp, e_ifx, e_tup, e_lst, e_dnew, e_idx, e_slc, e_call, e_bi, e_isi, e_bm, e_lc, l_nil, l_cons, o_none, o_some, and_one, and_two, or_one, or_two, all_nil, all_one, trB_bl, i_seq, i_str, i_rng, i_keys, i_items, s_nil, s_cons, s_asg, s_asgT, s_sub, s_exp, s_ret, s_retN, s_if, s_for, List.getElem?_cons_zero, List.getElem?_cons_succ, List.set_cons_zero, List.set_cons_succ, List.length_cons, List.length_nil, Nat.reduceAdd, Nat.reduceLT, if_true, Bool.not_true, Bool.not_false]
    exact ⟨_, nrm_val0 (Gr.refl μ) rfl⟩
  · rw [decide_eq_false c]
    have m1 : evBin .mul (.int 40503) (.int (k : Nat)) μ = .ok (.int (40503 * (k : Nat))) μ := mul_int (.inl (by decide)) μ
    simp only [m1, add_int, bind_ok, into_ok, seq_nx, seq_rt, seq_bk, seq_ct, out_rt, out_nx, vrD_ok, tup1, tup2, tup3, tup4, tup5, lst0, lst1, lst2, lst3, chB_t, chB_f, okB_some, tr_bl, setK_ok, kOk_eq, notK_eq, isNK_eq, notNK_eq, intO_ok, seqK_eq, strK_eq, rngK_eq, dctK_eq, consK_eq, someK_eq, noneK_eq, subK_ok, dropK_eq, retK_eq, asgK_eq, asgTK_eq, sub3_eq, binK_eq, cmpK_eq, idxK_eq, slcK2_eq, slcK_eq, ifK_eq, callK_eq, lK_eq, andK_eq, orK_eq, eltK_eq, allK_eq, lcK_eq, sub2_eq, sub1_eq, ifS_eq, forK_eq, e_var, e_ci, e_cs, e_cb, e_cn, e_not, e_isN, e_notN, e_bin, e_cmp, e_ifx, e_tup, e_lst, e_dnew, e_idx, e_slc, e_call, e_bi, e_isi, e_bm, e_lc, l_nil, l_cons, o_none, o_some, and_one, and_two, or_one, or_two, all_nil, all_one, trB_bl, i_seq, i_str, i_rng, i_keys, i_items, s_nil, s_cons, s_asg, s_asgT, s_sub, s_exp, s_ret, s_retN, s_if, s_for, List.getElem?_cons_zero, List.getElem?_cons_succ, List.set_cons_zero, List.set_cons_succ, List.length_cons, List.length_nil, Nat.reduceAdd, Nat.reduceLT, if_true, Bool.not_true, Bool.not_false]
    exact ⟨_, nrm_val0 (Gr.refl μ) rfl⟩
end K32

/-! k32: a word drawn -/
namespace K32
open PySem PI
abbrev abc : Str := Str.ofString "abcdefghijklmnopqrstuvwxyz"
def ch (c : Nat) : Str := ⟨#[c]⟩
theorem abc_cps : abc.cps.toList = (List.range 26).map (97 + ·) := by decide +kernel
theorem idx_abc {r : Int} (h0 : 0 ≤ r) (h1 : r < 26) : ∃ c, ∀ μ, evIdx (.str abc) (.int r) μ = .ok (.str (ch c)) μ := by
  obtain ⟨k, rfl⟩ := Int.eq_ofNat_of_zero_le h0
  have hk : k < 26 := by omega
  refine ⟨97 + k, fun μ => ?_⟩
  show (if abc.length ≤ lim then (match (ixOf abc.cps.toList.length k).bind (abc.cps.toList[·]?) with
    | some c => R.ok (D.str ⟨#[c]⟩) μ
    | none => .bad) else .bad) = _
  rw [if_pos (by decide +kernel), abc_cps]
  have : ixOf ((List.range 26).map (97 + ·)).length (k : Int) = some k := by
    unfold ixOf
    rw [List.length_map, List.length_range, if_pos (by omega), if_pos (by omega)]
    rfl
  rw [this]
  simp [hk, ch]
theorem sub_len {α : Type} [DecidableEq α] : ∀ {xs ys : List α}, xs.Nodup → (∀ x ∈ xs, x ∈ ys) → xs.length ≤ ys.length
  | [], _, _, _ => Nat.zero_le _
  | x :: xs, ys, h, s => by
    have hx := s x List.mem_cons_self
    have n := List.nodup_cons.mp h
    have := sub_len (ys := ys.erase x) n.2 fun y m => (List.mem_erase_of_ne (fun z => n.1 (by rw [← z]; exact m))).mpr (s y (List.mem_cons_of_mem _ m))
    rw [List.length_erase_of_mem hx] at this
    have := List.length_pos_of_mem hx
    rw [List.length_cons]
    omega
theorem in_strs {c : Nat} {μ : Mem} {bs : List Str} (h : μ[c]? = some (.lst (bs.map D.str))) (w : Str) : evIn (.str w) (.loc c) μ = some (decide (w ∈ bs)) := by
  have a : (bs.map D.str).all flat = true := by simp [flat]
  have e : ((bs.map D.str).any fun x => eqF x (.str w)) = decide (w ∈ bs) := by
    rw [Bool.eq_iff_iff]
    simp [eqF]
  unfold evIn
  dsimp only
  unfold dctOf seqOf inSeq
  simp only [h]
  rw [a, e]
  rfl
theorem in_w {c : Nat} {μ : Mem} {bs : List Str} (h : μ[c]? = some (.lst (bs.map D.str))) (w : Str) : evCmp .in_ (.str w) (.loc c) μ = .ok (.bl (decide (w ∈ bs))) μ := by
  unfold evCmp
  simp only [in_strs h w]
theorem nin_w {c : Nat} {μ : Mem} {bs : List Str} (h : μ[c]? = some (.lst (bs.map D.str))) (w : Str) : evCmp .nin (.str w) (.loc c) μ = .ok (.bl (!decide (w ∈ bs))) μ := by
  unfold evCmp
  simp only [in_strs h w]
def sev : List Str := ["no", "not", "and", "or", "so", "all", "some"]
/-- some letter is free -/
theorem letter_free {ws : List Str} (hw : ws.length ≤ 25) : ∃ c ∈ abc.cps.toList, ch c ∉ ws ++ sev := by
  by_cases hx : ∃ c ∈ abc.cps.toList, ch c ∉ ws ++ sev
  · exact hx
  · exfalso
    have all : ∀ x ∈ abc.cps.toList.map ch, x ∈ ws := fun x hm => by
      obtain ⟨c, hc, rfl⟩ := List.mem_map.mp hm
      have : ch c ∈ ws ++ sev := Classical.byContradiction fun z => hx ⟨c, hc, z⟩
      rcases List.mem_append.mp this with h | h
      · exact h
      · exfalso
        have l : ∀ s ∈ sev, s.cps.size ≠ 1 := by decide +kernel
        exact l _ h rfl
    have nd : (abc.cps.toList.map ch).Nodup := by rw [abc_cps]; decide +kernel
    have := sub_len nd all
    rw [List.length_map, abc_cps, List.length_map, List.length_range] at this
    omega
abbrev b9 : List S := [.asg (.g (.nm 4)) (.bin .add (.var 4) (.idx (.var 2) (.call 8 [.var 0, .ci 26] .val)))]
theorem add_ch (w : Str) (c : Nat) (h : w.length ≤ 100) (μ : Mem) : evBin .add (.str w) (.str (ch c)) μ = .ok (.str (w ++ ch c)) μ := by
  show (if w.length + (ch c).length ≤ lim then _ else _) = _
  rw [if_pos (by show w.length + 1 ≤ lim; unfold lim; omega)]
theorem f9_loop {n : Nat} {m : Nat} (a b : D) (μ0 : Mem) {xs : List D} (hl : xs.length ≤ 9) {μ : Mem} (hs : St μ m) (u : Up [m] μ0 μ) :
    ∃ w z μ', forGo [] (forStep pr (PI.run pr (n + 1)) (.nm 5) b9) xs [some (.loc m), some a, some (.str abc), some b, some (.str (Str.ofString "")), none, none] μ = .nx [some (.loc m), some a, some (.str abc), some b, some (.str w), z, none] μ' ∧ St μ' m ∧ Up [m] μ0 μ' := by
  let I : List D → PI.Env → Mem → Prop := fun xs σ μ' => ∃ (w : Str) (z : Option D), σ = [some (.loc m), some a, some (.str abc), some b, some (.str w), z, none] ∧ w.length + xs.length ≤ 9 ∧ St μ' m ∧ Up [m] μ0 μ'
  have i0 : I xs [some (.loc m), some a, some (.str abc), some b, some (.str (Str.ofString "")), none, none] μ := ⟨_, _, rfl, by rw [show (Str.ofString "").length = 0 by decide +kernel]; omega, hs, u⟩
  obtain ⟨σ', μ', e, w, z, rfl, _, h1, h2⟩ := for_inv (src := []) (step := forStep pr (PI.run pr (n + 1)) (.nm 5) b9) I (fun _ _ _ _ => ⟨still_nil _, rfl⟩) i0 fun x xs σ μ1 i => by
    obtain ⟨w, z, rfl, hl, hs, u⟩ := i
    rw [List.length_cons] at hl
    obtain ⟨r, μ2, q, r0, r1, hs2, u2, _⟩ := f8_ok n μ1 m 26 hs (by decide) (by decide)
    obtain ⟨c, hc⟩ := idx_abc r0 r1
    have ad := add_ch w c (by omega) μ2
    refine ⟨[some (.loc m), some a, some (.str abc), some b, some (.str (w ++ ch c)), some x, none], μ2, .inl ?_, _, _, rfl, ?_, hs2, u.trans u2⟩
    · rw [forStep_ok (σ' := [some (.loc m), some a, some (.str abc), some b, some (.str w), some x, none]) pr _ _ _ rfl]
      simp only [q, hc, ad, bind_ok, into_ok, seq_nx, seq_rt, seq_bk, seq_ct, out_rt, out_nx, vrD_ok, tup1, tup2, tup3, tup4, tup5, lst0, lst1, lst2, lst3, chB_t, chB_f, okB_some, tr_bl, setK_ok, kOk_eq, notK_eq, isNK_eq, notNK_eq, intO_ok, seqK_eq, strK_eq, rngK_eq, dctK_eq, consK_eq, someK_eq, noneK_eq, subK_ok, dropK_eq, retK_eq, asgK_eq, asgTK_eq, sub3_eq, binK_eq, cmpK_eq, idxK_eq, slcK2_eq, slcK_eq, ifK_eq, callK_eq, lK_eq, andK_eq, orK_eq, eltK_eq, allK_eq, lcK_eq, sub2_eq, sub1_eq, ifS_eq, forK_eq, e_var, e_ci, e_cs, e_cb, e_cn, e_not, e_isN, e_notN, e_bin, e_cmp, e_ifx, e_tup, e_lst, e_dnew, e_idx, e_slc, e_call, e_bi, e_isi, e_bm, e_lc, l_nil, l_cons, o_none, o_some, and_one, and_two, or_one, or_two, all_nil, all_one, trB_bl, i_seq, i_str, i_rng, i_keys, i_items, s_nil, s_cons, s_asg, s_asgT, s_sub, s_exp, s_ret, s_retN, s_if, s_for, List.getElem?_cons_zero, List.getElem?_cons_succ, List.set_cons_zero, List.set_cons_succ, List.length_cons, List.length_nil, Nat.reduceAdd, Nat.reduceLT, if_true, Bool.not_true, Bool.not_false]
    · have : (w ++ ch c).length = w.length + 1 := by
        show (w.cps ++ #[c]).size = _
        rw [Array.size_append]
        rfl
      omega
  exact ⟨w, z, μ', e, h1, h2⟩
theorem rng_ok {k : Int} (h0 : 0 ≤ k) (h1 : k < 1000) (μ : Mem) : itRng μ [.int k] = .ok (rngD 0 k.toNat, []) μ := by
  have : B62 k = true := by unfold B62; rw [Bool.and_eq_true, decide_eq_true_iff, decide_eq_true_iff]; omega
  show (if B62 k = true then _ else _) = _
  rw [if_pos this]
theorem rng_len (lo : Int) (n : Nat) : (rngD lo n).length = n := by unfold rngD; simp
theorem f9_ok (n : Nat) (μ : Mem) (m tk : Nat) (ws : List Str) (hs : St μ m) (hk : μ[tk]? = some (.lst (ws.map D.str))) (hne : tk ≠ m) (hw : ws.length ≤ 25) :
    ∃ w μ', nrm .val μ (PI.run pr (n + 2) 9 [.loc m, .loc tk] μ) = .ok (.str w) μ' ∧ St μ' m ∧ Up [m] μ μ' ∧ μ'.length = μ.length := by
  rw [PI.run]
  have hm : m < μ.length := by
    obtain ⟨_, _, h, _⟩ := hs
    exact (List.getElem?_eq_some_iff.mp h).1
  have fin : ∀ (w : Str) (μ' : Mem), St μ' m → Up [m] μ μ' → ∃ w' μ2, nrm .val μ (.ok (.str w) μ') = .ok (.str w') μ2 ∧ St μ2 m ∧ Up [m] μ μ2 ∧ μ2.length = μ.length := fun w μ' h u => by
    have g : Gr [m] μ μ' := St.gr u fun i hi _ => by rw [List.mem_singleton.mp hi]; exact h.solid
    obtain ⟨t1, t2, t3⟩ := take_up u
    exact ⟨w, _, nrm_val g rfl, h.up (t3 m hm), t1, t2⟩
  show ∃ w μ', nrm .val μ (exL pr (PI.run pr (n + 1)) f9.body [some (.loc m), some (.loc tk), none, none, none, none, none] μ).out = .ok (.str w) μ' ∧ _
  let m1 : Mem := μ ++ [Ob.lst (sev.map D.str)]
  let m2 : Mem := m1 ++ [Ob.lst ((ws ++ sev).map D.str)]
  have l7 : lstK [.str "no", .str "not", .str "and", .str "or", .str "so", .str "all", .str "some"] μ = .ok (.loc μ.length) m1 := lstK_ok (show 7 ≤ 1000 by decide)
  have ad : evBin .add (.loc tk) (.loc μ.length) m1 = .ok (.loc m1.length) m2 := by
    have := add_locs (c := tk) (c' := μ.length) (μ := m1) ((Gr.app μ _).get hk) (get_last _ _) (by rw [List.length_map]; show ws.length + 7 ≤ lim; unfold lim; omega)
    rw [← List.map_append] at this
    exact this
  have u2 : Up [m] μ m2 := (Up.app _ μ _).trans (Up.app _ m1 _)
  have hs2 : St m2 m := hs.up (by
    show (m1 ++ _)[m]? = _
    rw [List.getElem?_append_left (by simp [m1]; omega)]
    show (μ ++ _)[m]? = _
    rw [List.getElem?_append_left hm])
  have hb2 : m2[m1.length]? = some (.lst ((ws ++ sev).map D.str)) := get_last _ _
  have nb : m1.length ∉ [m] := by rw [List.mem_singleton]; simp [m1]; omega
  obtain ⟨r1, m3, q1, r10, r11, hs3, u3, _⟩ := f8_ok n m2 m 2 hs2 (by decide) (by decide)
  obtain ⟨r2, m4, q2, r20, r21, hs4, u4, _⟩ := f8_ok n m3 m 8 hs3 (by decide) (by decide)
  have mu := mul_int (i := r1) (j := r2) (.inl (by unfold B64; rw [Bool.and_eq_true, decide_eq_true_iff, decide_eq_true_iff]; omega)) m4
  have hr : 0 ≤ r1 * r2 ∧ r1 * r2 ≤ 7 := by
    rcases (by omega : r1 = 0 ∨ r1 = 1) with rfl | rfl <;> omega
  have rg := rng_ok (k := 1 + r1 * r2) (by omega) (by omega) m4
  obtain ⟨w, z, m5, lp, hs5, u5⟩ := f9_loop (n := n) (.loc tk) (.loc m1.length) m4 (xs := rngD 0 (1 + r1 * r2).toNat) (by rw [rng_len]; omega) hs4 (Up.refl _ _)
  have ub : Up [m] m2 m5 := (u3.trans u4).trans u5
  have uu : Up [m] μ m5 := u2.trans ub
  have hb5 : m5[m1.length]? = some (.lst ((ws ++ sev).map D.str)) := ub.get nb hb2
  have i1 := in_w hb5 w
  have it : itStr m5 (.str abc) = .ok (abc.cps.toList.map (fun c => D.str (ch c)), []) m5 := rfl
  clear_value m1 m2
  simp only [f9, l7, ad, q1, q2, mu, add_int, rg, lp, i1, bind_ok, into_ok, seq_nx, seq_rt, seq_bk, seq_ct, out_rt, out_nx, vrD_ok, tup1, tup2, tup3, tup4, tup5, lst0, lst1, lst2, lst3, chB_t, chB_f, okB_some, tr_bl, setK_ok, kOk_eq, notK_eq, isNK_eq, notNK_eq, intO_ok, seqK_eq, strK_eq, rngK_eq, dctK_eq, consK_eq, someK_eq, noneK_eq, subK_ok, dropK_eq, retK_eq, asgK_eq, asgTK_eq, sub3_eq, binK_eq, cmpK_eq, idxK_eq, slcK2_eq, slcK_eq, ifK_eq, callK_eq, lK_eq, andK_eq, orK_eq, eltK_eq, allK_eq, lcK_eq, sub2_eq, sub1_eq, ifS_eq, forK_eq, e_var, e_ci, e_cs, e_cb, e_cn, e_not, e_isN, e_notN, e_bin, e_cmp, e_ifx, e_tup, e_lst, e_dnew, e_idx, e_slc, e_call, e_bi, e_isi, e_bm, e_lc, l_nil, l_cons, o_none, o_some, and_one, and_two, or_one, or_two, all_nil, all_one, trB_bl, i_seq, i_str, i_rng, i_keys, i_items, s_nil, s_cons, s_asg, s_asgT, s_sub, s_exp, s_ret, s_retN, s_if, s_for, List.getElem?_cons_zero, List.getElem?_cons_succ, List.set_cons_zero, List.set_cons_succ, List.length_cons, List.length_nil, Nat.reduceAdd, Nat.reduceLT, if_true, Bool.not_true, Bool.not_false]
  by_cases c : w ∈ ws ++ sev
  · rw [decide_eq_true c]
    let fl : Nat → Option D := fun c => if ch c ∈ ws ++ sev then none else some (.str (ch c))
    have lc := lc_nil (step := lcStep pr (PI.run pr (n + 1)) [some (.loc m), some (.loc tk), some (.str abc), some (.loc m1.length), some (.str w), z, none] (.var 6) (.nm 6) [.cmp .nin (.var 6) (.var 3)] [6]) (μ := m5) (e := fun c => D.str (ch c)) (f := fl) (xs := abc.cps.toList) (by rw [abc_cps]; decide) fun x _ acc => by
      rw [lcStep_ok (σ' := [some (.loc m), some (.loc tk), some (.str abc), some (.loc m1.length), some (.str w), z, some (.str (ch x))]) pr _ _ _ rfl]
      have ni := nin_w (μ := m5 ++ [.lst acc]) ((Gr.app m5 _).get hb5) (ch x)
      simp only [ni, bind_ok, into_ok, seq_nx, seq_rt, seq_bk, seq_ct, out_rt, out_nx, vrD_ok, tup1, tup2, tup3, tup4, tup5, lst0, lst1, lst2, lst3, chB_t, chB_f, okB_some, tr_bl, setK_ok, kOk_eq, notK_eq, isNK_eq, notNK_eq, intO_ok, seqK_eq, strK_eq, rngK_eq, dctK_eq, consK_eq, someK_eq, noneK_eq, subK_ok, dropK_eq, retK_eq, asgK_eq, asgTK_eq, sub3_eq, binK_eq, cmpK_eq, idxK_eq, slcK2_eq, slcK_eq, ifK_eq, callK_eq, lK_eq, andK_eq, orK_eq, eltK_eq, allK_eq, lcK_eq, sub2_eq, sub1_eq, ifS_eq, forK_eq, e_var, e_ci, e_cs, e_cb, e_cn, e_not, e_isN, e_notN, e_bin, e_cmp, e_ifx, e_tup, e_lst, e_dnew, e_idx, e_slc, e_call, e_bi, e_isi, e_bm, e_lc, l_nil, l_cons, o_none, o_some, and_one, and_two, or_one, or_two, all_nil, all_one, trB_bl, i_seq, i_str, i_rng, i_keys, i_items, s_nil, s_cons, s_asg, s_asgT, s_sub, s_exp, s_ret, s_retN, s_if, s_for, List.getElem?_cons_zero, List.getElem?_cons_succ, List.set_cons_zero, List.set_cons_succ, List.length_cons, List.length_nil, Nat.reduceAdd, Nat.reduceLT, if_true, Bool.not_true, Bool.not_false]
      by_cases d : ch x ∈ ws ++ sev
      · rw [decide_eq_true d]
        simp only [bind_ok, into_ok, seq_nx, seq_rt, seq_bk, seq_ct, out_rt, out_nx, vrD_ok, tup1, tup2, tup3, tup4, tup5, lst0, lst1, lst2, lst3, chB_t, chB_f, okB_some, tr_bl, setK_ok, kOk_eq, notK_eq, isNK_eq, notNK_eq, intO_ok, seqK_eq, strK_eq, rngK_eq, dctK_eq, consK_eq, someK_eq, noneK_eq, subK_ok, dropK_eq, retK_eq, asgK_eq, asgTK_eq, sub3_eq, binK_eq, cmpK_eq, idxK_eq, slcK2_eq, slcK_eq, ifK_eq, callK_eq, lK_eq, andK_eq, orK_eq, eltK_eq, allK_eq, lcK_eq, sub2_eq, sub1_eq, ifS_eq, forK_eq, e_var, e_ci, e_cs, e_cb, e_cn, e_not, e_isN, e_notN, e_bin, e_cmp, e_ifx, e_tup, e_lst, e_dnew, e_idx, e_slc, e_call, e_bi, e_isi, e_bm, e_lc, l_nil, l_cons, o_none, o_some, and_one, and_two, or_one, or_two, all_nil, all_one, trB_bl, i_seq, i_str, i_rng, i_keys, i_items, s_nil, s_cons, s_asg, s_asgT, s_sub, s_exp, s_ret, s_retN, s_if, s_for, List.getElem?_cons_zero, List.getElem?_cons_succ, List.set_cons_zero, List.set_cons_succ, List.length_cons, List.length_nil, Nat.reduceAdd, Nat.reduceLT, if_true, Bool.not_true, Bool.not_false]
        show _ = R.ok (if ch x ∈ ws ++ sev then none else some (D.str (ch x))) _
        rw [if_pos d]
      · rw [decide_eq_false d]
        simp only [bind_ok, into_ok, seq_nx, seq_rt, seq_bk, seq_ct, out_rt, out_nx, vrD_ok, tup1, tup2, tup3, tup4, tup5, lst0, lst1, lst2, lst3, chB_t, chB_f, okB_some, tr_bl, setK_ok, kOk_eq, notK_eq, isNK_eq, notNK_eq, intO_ok, seqK_eq, strK_eq, rngK_eq, dctK_eq, consK_eq, someK_eq, noneK_eq, subK_ok, dropK_eq, retK_eq, asgK_eq, asgTK_eq, sub3_eq, binK_eq, cmpK_eq, idxK_eq, slcK2_eq, slcK_eq, ifK_eq, callK_eq, lK_eq, andK_eq, orK_eq, eltK_eq, allK_eq, lcK_eq, sub2_eq, sub1_eq, ifS_eq, forK_eq, e_var, e_ci, e_cs, e_cb, e_cn, e_not, e_isN, e_notN, e_bin, e_cmp, e_ifx, e_tup, e_lst, e_dnew, e_idx, e_slc, e_call, e_bi, e_isi, e_bm, e_lc, l_nil, l_cons, o_none, o_some, and_one, and_two, or_one, or_two, all_nil, all_one, trB_bl, i_seq, i_str, i_rng, i_keys, i_items, s_nil, s_cons, s_asg, s_asgT, s_sub, s_exp, s_ret, s_retN, s_if, s_for, List.getElem?_cons_zero, List.getElem?_cons_succ, List.set_cons_zero, List.set_cons_succ, List.length_cons, List.length_nil, Nat.reduceAdd, Nat.reduceLT, if_true, Bool.not_true, Bool.not_false]
        show _ = R.ok (if ch x ∈ ws ++ sev then none else some (D.str (ch x))) _
        rw [if_neg d]
    obtain ⟨c0, hc0, hn0⟩ := letter_free hw
    have hin : D.str (ch c0) ∈ abc.cps.toList.filterMap fl := List.mem_filterMap.mpr ⟨c0, hc0, if_neg hn0⟩
    obtain ⟨w', hw'⟩ : ∃ w', (abc.cps.toList.filterMap fl)[0]? = some (.str w') := by
      cases e : abc.cps.toList.filterMap fl with
      | nil => rw [e] at hin; exact absurd hin List.not_mem_nil
      | cons y ys =>
        have : y ∈ abc.cps.toList.filterMap fl := by rw [e]; exact List.mem_cons_self
        obtain ⟨x, _, hx⟩ := List.mem_filterMap.mp this
        by_cases d : ch x ∈ ws ++ sev
        · rw [show fl x = none from if_pos d] at hx; exact absurd hx (by simp)
        · rw [show fl x = some (.str (ch x)) from if_neg d] at hx
          exact ⟨ch x, by rw [List.getElem?_cons_zero, ← Option.some.inj hx]⟩
    have ix : evIdx (.loc m5.length) (.int 0) (m5 ++ [.lst (abc.cps.toList.filterMap fl)]) = .ok (.str w') (m5 ++ [.lst (abc.cps.toList.filterMap fl)]) := idx_loc (k := 0) (get_last _ _) hw'
    clear_value fl
    simp only [it, lc, ix, bind_ok, into_ok, seq_nx, seq_rt, seq_bk, seq_ct, out_rt, out_nx, vrD_ok, tup1, tup2, tup3, tup4, tup5, lst0, lst1, lst2, lst3, chB_t, chB_f, okB_some, tr_bl, setK_ok, kOk_eq, notK_eq, isNK_eq, notNK_eq, intO_ok, seqK_eq, strK_eq, rngK_eq, dctK_eq, consK_eq, someK_eq, noneK_eq, subK_ok, dropK_eq, retK_eq, asgK_eq, asgTK_eq, sub3_eq, binK_eq, cmpK_eq, idxK_eq, slcK2_eq, slcK_eq, ifK_eq, callK_eq, lK_eq, andK_eq, orK_eq, eltK_eq, allK_eq, lcK_eq, sub2_eq, sub1_eq, ifS_eq, forK_eq, e_var, e_ci, e_cs, e_cb, e_cn, e_not, e_isN, e_notN, e_bin, e_cmp, e_ifx, e_tup, e_lst, e_dnew, e_idx, e_slc, e_call, e_bi, e_isi, e_bm, e_lc, l_nil, l_cons, o_none, o_some, and_one, and_two, or_one, or_two, all_nil, all_one, trB_bl, i_seq, i_str, i_rng, i_keys, i_items, s_nil, s_cons, s_asg, s_asgT, s_sub, s_exp, s_ret, s_retN, s_if, s_for, List.getElem?_cons_zero, List.getElem?_cons_succ, List.set_cons_zero, List.set_cons_succ, List.length_cons, List.length_nil, Nat.reduceAdd, Nat.reduceLT, if_true, Bool.not_true, Bool.not_false]
    refine fin _ _ (hs5.up ?_) (uu.trans (Up.app _ _ _))
    have := uu.len
    rw [List.getElem?_append_left (by omega)]
  · rw [decide_eq_false c]
    simp only [bind_ok, into_ok, seq_nx, seq_rt, seq_bk, seq_ct, out_rt, out_nx, vrD_ok, tup1, tup2, tup3, tup4, tup5, lst0, lst1, lst2, lst3, chB_t, chB_f, okB_some, tr_bl, setK_ok, kOk_eq, notK_eq, isNK_eq, notNK_eq, intO_ok, seqK_eq, strK_eq, rngK_eq, dctK_eq, consK_eq, someK_eq, noneK_eq, subK_ok, dropK_eq, retK_eq, asgK_eq, asgTK_eq, sub3_eq, binK_eq, cmpK_eq, idxK_eq, slcK2_eq, slcK_eq, ifK_eq, callK_eq, lK_eq, andK_eq, orK_eq, eltK_eq, allK_eq, lcK_eq, sub2_eq, sub1_eq, ifS_eq, forK_eq, e_var, e_ci, e_cs, e_cb, e_cn, e_not, e_isN, e_notN, e_bin, e_cmp, e_ifx, e_tup, e_lst, e_dnew, e_idx, e_slc, e_call, e_bi, e_isi, e_bm, e_lc, l_nil, l_cons, o_none, o_some, and_one, and_two, or_one, or_two, all_nil, all_one, trB_bl, i_seq, i_str, i_rng, i_keys, i_items, s_nil, s_cons, s_asg, s_asgT, s_sub, s_exp, s_ret, s_retN, s_if, s_for, List.getElem?_cons_zero, List.getElem?_cons_succ, List.set_cons_zero, List.set_cons_succ, List.length_cons, List.length_nil, Nat.reduceAdd, Nat.reduceLT, if_true, Bool.not_true, Bool.not_false]
    exact fin _ _ hs5 uu
end K32

/-! k32: what a memory holds, written out -/
namespace K32
open PySem PI
mutual
theorem frzW_mono {g g' : Nat → Option D} (h : ∀ m x, closed 0 x = true → g m = some x → g' m = some x) : ∀ {d d' : D}, closed 0 d' = true → frzW g d = some d' → frzW g' d = some d'
  | .non, _, _, e => e
  | .bl _, _, _, e => e
  | .int _, _, _, e => e
  | .str _, _, _, e => e
  | .loc m, d', c, e => h m d' c e
  | .tup xs, d', c, e => by
    rw [frzW] at e ⊢
    obtain ⟨ys, e1, rfl⟩ := Option.map_eq_some_iff.mp e
    rw [frzL_mono h (by simpa [closed] using c) e1]; rfl
  | .fl xs, d', c, e => by
    rw [frzW] at e ⊢
    obtain ⟨ys, e1, rfl⟩ := Option.map_eq_some_iff.mp e
    rw [frzL_mono h (by simpa [closed] using c) e1]; rfl
  | .sl xs, d', c, e => by
    rw [frzW] at e ⊢
    obtain ⟨ys, e1, rfl⟩ := Option.map_eq_some_iff.mp e
    rw [frzL_mono h (by simpa [closed] using c) e1]; rfl
  | .fd k kvs, d', c, e => by
    rw [frzW] at e ⊢
    obtain ⟨ys, e1, rfl⟩ := Option.map_eq_some_iff.mp e
    rw [frzP_mono h (by simpa [closed] using c) e1]; rfl
  | .fi k fs, d', c, e => by
    rw [frzW] at e ⊢
    obtain ⟨ys, e1, rfl⟩ := Option.map_eq_some_iff.mp e
    rw [frzF_mono h (by simpa [closed] using c) e1]; rfl
theorem frzL_mono {g g' : Nat → Option D} (h : ∀ m x, closed 0 x = true → g m = some x → g' m = some x) : ∀ {d d' : List D}, closedL 0 d' = true → frzL g d = some d' → frzL g' d = some d'
  | [], _, _, e => e
  | x :: xs, d', c, e => by
    rw [frzL] at e ⊢
    cases e1 : frzW g x with
    | none => rw [e1] at e; cases e
    | some y =>
      cases e2 : frzL g xs with
      | none => rw [e1, e2] at e; cases e
      | some ys =>
        rw [e1, e2] at e
        cases e
        rw [closedL, Bool.and_eq_true] at c
        rw [frzW_mono h c.1 e1, frzL_mono h c.2 e2]
theorem frzP_mono {g g' : Nat → Option D} (h : ∀ m x, closed 0 x = true → g m = some x → g' m = some x) : ∀ {d d' : List (D × D)}, closedP 0 d' = true → frzP g d = some d' → frzP g' d = some d'
  | [], _, _, e => e
  | x :: xs, d', c, e => by
    rw [frzP] at e ⊢
    cases e1 : frzW g x.1 with
    | none => rw [e1] at e; cases e
    | some y =>
      cases e3 : frzW g x.2 with
      | none => rw [e1, e3] at e; cases e
      | some z =>
        cases e2 : frzP g xs with
        | none => rw [e1, e3, e2] at e; cases e
        | some ys =>
          rw [e1, e3, e2] at e
          cases e
          rw [closedP, Bool.and_eq_true, Bool.and_eq_true] at c
          rw [frzW_mono h c.1.1 e1, frzW_mono h c.1.2 e3, frzP_mono h c.2 e2]
theorem frzF_mono {g g' : Nat → Option D} (h : ∀ m x, closed 0 x = true → g m = some x → g' m = some x) : ∀ {d d' : List (Str × D)}, closedF 0 d' = true → frzF g d = some d' → frzF g' d = some d'
  | [], _, _, e => e
  | x :: xs, d', c, e => by
    rw [frzF] at e ⊢
    cases e1 : frzW g x.2 with
    | none => rw [e1] at e; cases e
    | some y =>
      cases e2 : frzF g xs with
      | none => rw [e1, e2] at e; cases e
      | some ys =>
        rw [e1, e2] at e
        cases e
        rw [closedF, Bool.and_eq_true] at c
        rw [frzW_mono h c.1 e1, frzF_mono h c.2 e2]
end
/-- from n on the one memory holds all that the other holds -/
def Ex (n : Nat) (μ μ' : Mem) : Prop := ∀ i ob, n ≤ i → μ[i]? = some ob → μ'[i]? = some ob
theorem Up.ex {S : List Nat} {n : Nat} {μ μ' : Mem} (h : ∀ i ∈ S, i < n) (g : Up S μ μ') : Ex n μ μ' := fun i ob hi e => (g.same i (List.getElem?_eq_some_iff.mp e).1 fun m => by have := h i m; omega).trans e
theorem frzN_mono {μ μ' : Mem} {n n' : Nat} (hn : n' ≤ n) (he : Ex n μ μ') : ∀ {f f' : Nat}, f ≤ f' → ∀ m x, closed 0 x = true → frzN μ n none f m = some x → frzN μ' n' none f' m = some x
  | 0, _, _, m, x, hx, e => by
    rw [frzN] at e
    split at e
    · cases e; simp [closed] at hx
    · cases e
  | f + 1, 0, hf, _, _, _, _ => by omega
  | f + 1, f' + 1, hf, m, x, hx, e => by
    rw [frzN] at e ⊢
    by_cases c : m < n
    · rw [if_pos c] at e
      cases e
      simp [closed] at hx
    · rw [if_neg c, if_neg (by simp)] at e
      rw [if_neg (by omega), if_neg (by simp)]
      cases e1 : μ[m]? with
      | none => rw [e1] at e; cases e
      | some ob =>
        rw [e1] at e
        rw [he m ob (by omega) e1]
        dsimp only at e ⊢
        have ih := frzN_mono hn he (f := f) (f' := f') (by omega)
        cases ob with
        | lst xs =>
          obtain ⟨ys, e2, rfl⟩ := Option.map_eq_some_iff.mp e
          show (frzL _ xs).map _ = _
          rw [frzL_mono ih (by simpa [closed] using hx) e2]; rfl
        | dct k xs =>
          obtain ⟨ys, e2, rfl⟩ := Option.map_eq_some_iff.mp e
          show (frzP _ xs).map _ = _
          rw [frzP_mono ih (by simpa [closed] using hx) e2]; rfl
        | ins c xs =>
          obtain ⟨ys, e2, rfl⟩ := Option.map_eq_some_iff.mp e
          show (frzF _ xs).map _ = _
          rw [frzF_mono ih (by simpa [closed] using hx) e2]; rfl
/-- written out, these come to those, all without a place -/
def Fz (n f : Nat) (μ : Mem) (ds ds' : List D) : Prop := frzL (frzN μ n none f) ds = some ds' ∧ closedL 0 ds' = true
theorem Fz.mono {n n' f f' : Nat} {μ μ' : Mem} {ds ds' : List D} (h : Fz n f μ ds ds') (hn : n' ≤ n) (hf : f ≤ f') (he : Ex n μ μ') : Fz n' f' μ' ds ds' := ⟨frzL_mono (frzN_mono hn he hf) h.2 h.1, h.2⟩
theorem Fz.nil {n f : Nat} {μ : Mem} : Fz n f μ [] [] := ⟨rfl, rfl⟩
theorem frzL_snoc {g : Nat → Option D} : ∀ {xs xs' : List D} {y y' : D}, frzL g xs = some xs' → frzW g y = some y' → frzL g (xs ++ [y]) = some (xs' ++ [y'])
  | [], _, _, _, e, e' => by cases e; rw [List.nil_append, frzL, e', frzL]; rfl
  | x :: xs, _, _, _, e, e' => by
    rw [frzL] at e
    cases e1 : frzW g x with
    | none => rw [e1] at e; cases e
    | some z =>
      cases e2 : frzL g xs with
      | none => rw [e1, e2] at e; cases e
      | some zs =>
        rw [e1, e2] at e
        cases e
        rw [List.cons_append, frzL, e1, frzL_snoc e2 e']; rfl
theorem closedL_snoc {n : Nat} : ∀ {xs : List D} {y : D}, closedL n xs = true → closed n y = true → closedL n (xs ++ [y]) = true
  | [], _, _, h => by rw [List.nil_append, closedL, h]; rfl
  | x :: xs, _, h, h' => by
    rw [closedL, Bool.and_eq_true] at h
    rw [List.cons_append, closedL, h.1, closedL_snoc h.2 h']; rfl
theorem Fz.snoc {n f : Nat} {μ : Mem} {ds ds' : List D} {d d' : D} (h : Fz n f μ ds ds') (e : frzW (frzN μ n none f) d = some d') (c : closed 0 d' = true) : Fz n f μ (ds ++ [d]) (ds' ++ [d']) := ⟨frzL_snoc h.1 e, closedL_snoc h.2 c⟩
/-- a pair of a text and a place -/
theorem frz_pair {n f : Nat} {μ : Mem} {s : Str} {c : Nat} {ds ds' : List D} (hc : n ≤ c) (e : μ[c]? = some (.lst ds)) (h : Fz n f μ ds ds') : frzW (frzN μ n none (f + 1)) (.tup [.str s, .loc c]) = some (.tup [.str s, .fl ds']) ∧ closed 0 (.tup [.str s, .fl ds']) = true := by
  have z : frzN μ n none (f + 1) c = some (.fl ds') := by
    rw [frzN, if_neg (by omega), if_neg (by simp), e]
    show (frzL _ ds).map _ = _
    rw [h.1]; rfl
  refine ⟨?_, ?_⟩
  · simp only [frzW, frzL, z]; rfl
  · simp only [closed, closedL, h.2]; rfl
theorem Fz.strs {n f : Nat} {μ : Mem} (ss : List Str) : Fz n f μ (ss.map D.str) (ss.map D.str) := ⟨frzL_solid _ (strs_solid ss), strs_solid ss⟩
/-! == of what was written out -/
mutual
theorem pyW_frz {g : Nat → Option D} {gp gp' : Nat → Option PyData} (h : ∀ m x p, g m = some x → pyW gp x = some p → gp' m = some p) : ∀ {d d' : D} {p : PyData}, frzW g d = some d' → pyW gp d' = some p → pyW gp' d = some p
  | .non, _, _, e, q => by cases e; exact q
  | .bl _, _, _, e, q => by cases e; exact q
  | .int _, _, _, e, q => by cases e; exact q
  | .str _, _, _, e, q => by cases e; exact q
  | .loc m, d', p, e, q => h m d' p e q
  | .tup xs, d', p, e, q => by
    rw [frzW] at e
    obtain ⟨ys, e1, rfl⟩ := Option.map_eq_some_iff.mp e
    rw [pyW] at q ⊢
    obtain ⟨ps, q1, rfl⟩ := Option.map_eq_some_iff.mp q
    rw [pyL_frz h e1 q1]; rfl
  | .fl xs, d', p, e, q => by
    rw [frzW] at e
    obtain ⟨ys, e1, rfl⟩ := Option.map_eq_some_iff.mp e
    rw [pyW] at q ⊢
    obtain ⟨ps, q1, rfl⟩ := Option.map_eq_some_iff.mp q
    rw [pyL_frz h e1 q1]; rfl
  | .sl xs, d', p, e, q => by
    rw [frzW] at e
    obtain ⟨ys, e1, rfl⟩ := Option.map_eq_some_iff.mp e
    rw [pyW] at q ⊢
    obtain ⟨ps, q1, rfl⟩ := Option.map_eq_some_iff.mp q
    rw [pyL_frz h e1 q1]; rfl
  | .fd k kvs, d', p, e, q => by
    rw [frzW] at e
    obtain ⟨ys, e1, rfl⟩ := Option.map_eq_some_iff.mp e
    rw [pyW] at q
    cases q
  | .fi k fs, d', p, e, q => by
    rw [frzW] at e
    obtain ⟨ys, e1, rfl⟩ := Option.map_eq_some_iff.mp e
    rw [pyW] at q
    cases q
theorem pyL_frz {g : Nat → Option D} {gp gp' : Nat → Option PyData} (h : ∀ m x p, g m = some x → pyW gp x = some p → gp' m = some p) : ∀ {d d' : List D} {p : List PyData}, frzL g d = some d' → pyL gp d' = some p → pyL gp' d = some p
  | [], _, _, e, q => by cases e; exact q
  | x :: xs, _, _, e, q => by
    rw [frzL] at e
    cases e1 : frzW g x with
    | none => rw [e1] at e; cases e
    | some z =>
      cases e2 : frzL g xs with
      | none => rw [e1, e2] at e; cases e
      | some zs =>
        rw [e1, e2] at e
        cases e
        rw [pyL] at q
        cases q1 : pyW gp z with
        | none => rw [q1] at q; cases q
        | some r =>
          cases q2 : pyL gp zs with
          | none => rw [q1, q2] at q; cases q
          | some rs =>
            rw [q1, q2] at q
            cases q
            rw [pyL, pyW_frz h e1 q1, pyL_frz h e2 q2]
end
theorem pyN_frz {μ : Mem} {n : Nat} {gp : Nat → Option PyData} (hg : ∀ m, gp m = none) : ∀ {f f' : Nat}, f ≤ f' → ∀ m x p, frzN μ n none f m = some x → pyW gp x = some p → pyN μ f' m = some p
  | 0, _, _, m, x, p, e, q => by
    rw [frzN] at e
    split at e
    · cases e; rw [pyW, hg] at q; cases q
    · cases e
  | f + 1, 0, hf, _, _, _, _, _ => by omega
  | f + 1, f' + 1, hf, m, x, p, e, q => by
    rw [frzN] at e
    by_cases c : m < n
    · rw [if_pos c] at e
      cases e
      rw [pyW, hg] at q
      cases q
    · rw [if_neg c, if_neg (by simp)] at e
      rw [pyN]
      cases e1 : μ[m]? with
      | none => rw [e1] at e; cases e
      | some ob =>
        rw [e1] at e
        cases ob with
        | lst xs =>
          obtain ⟨ys, e2, rfl⟩ := Option.map_eq_some_iff.mp e
          rw [pyW] at q
          obtain ⟨ps, q1, rfl⟩ := Option.map_eq_some_iff.mp q
          show (pyL _ xs).map _ = _
          rw [pyL_frz (pyN_frz hg (by omega)) e2 q1]; rfl
        | dct k xs =>
          obtain ⟨ys, e2, rfl⟩ := Option.map_eq_some_iff.mp e
          rw [pyW] at q; cases q
        | ins c xs =>
          obtain ⟨ys, e2, rfl⟩ := Option.map_eq_some_iff.mp e
          rw [pyW] at q; cases q
/-- a list that is written out, and the empty list -/
theorem ne_empty {μ : Mem} {c c' : Nat} {xs ys : List D} {ps : List PyData} {n f : Nat} (hf : f ≤ 7) (h : μ[c]? = some (.lst xs)) (hz : Fz n f μ xs ys) (hp : pyL (fun _ => none) ys = some ps) (h' : μ[c']? = some (.lst [])) : evCmp .ne (.loc c) (.loc c') μ = .ok (.bl (!xs.isEmpty)) μ := by
  have p1 : py μ (.loc c) = some (.list ps) := by
    unfold py
    rw [pyW, pyN, h]
    show (pyL _ xs).map _ = _
    rw [pyL_frz (pyN_frz (fun _ => rfl) hf) hz.1 hp]; rfl
  have p2 : py μ (.loc c') = some (.list []) := by
    unfold py
    rw [pyW, pyN, h']
    rfl
  have d : PyData.depth (.list []) = 1 := by simp [PyData.depth, PyData.depthAll]
  have ee : (PyData.list ps).eqv (.list []) = xs.isEmpty := by
    have l1 : ps.isEmpty = ys.isEmpty := by
      cases ys with
      | nil => cases hp; rfl
      | cons y ys =>
        rw [pyL] at hp
        cases q1 : pyW (fun _ => none) y with
        | none => rw [q1] at hp; cases hp
        | some r =>
          cases q2 : pyL (fun _ => none) ys with
          | none => rw [q1, q2] at hp; cases hp
          | some rs => rw [q1, q2] at hp; cases hp; rfl
    have l2 : ys.isEmpty = xs.isEmpty := by
      have e := hz.1
      cases xs with
      | nil => cases e; rfl
      | cons x xs =>
        rw [frzL] at e
        cases e1 : frzW (frzN μ n none f) x with
        | none => rw [e1] at e; cases e
        | some z =>
          cases e2 : frzL (frzN μ n none f) xs with
          | none => rw [e1, e2] at e; cases e
          | some zs => rw [e1, e2] at e; cases e; rfl
    rw [← l2, ← l1]
    cases ps with
    | nil => rw [PyData.eqv, PyData.eqvAll]; rfl
    | cons p ps => rw [PyData.eqv, PyData.eqvAll]; rfl
  unfold evCmp
  have e : eqM μ (.loc c) (.loc c') = some xs.isEmpty := by
    unfold eqM
    rw [p1, p2]
    dsimp only
    rw [if_pos (by rw [d]; unfold eqDeep; omega), ee]
  simp only [flat, Bool.false_and, Bool.false_eq_true, if_false, e]
end K32

/-! k32: the kinds drawn -/
namespace K32
open PySem PI
abbrev MkT := Str × List Str
abbrev KdT := Str × List MkT
def mkD (p : MkT) : D := .tup [.str p.1, .fl (p.2.map D.str)]
def kdD (k : KdT) : D := .tup [.str k.1, .fl (k.2.map mkD)]
def mkP (p : MkT) : PyData := .tuple [.str p.1, .list (p.2.map PyData.str)]
theorem mk_py : ∀ ms : List MkT, pyL (fun _ => none) (ms.map mkD) = some (ms.map mkP)
  | [] => rfl
  | p :: ms => by
    rw [List.map_cons, pyL, mk_py ms]
    unfold mkD
    simp only [pyW, pyL, py_strs]
    rfl
theorem Up.high {S S' : List Nat} {μ μ1 μ2 : Mem} (g : Up S μ μ1) (h : Up S' μ1 μ2) (hs : ∀ i ∈ S', i < μ.length → i ∈ S) : Up S μ μ2 := ⟨Nat.le_trans g.len h.len, fun i hi n => (h.same i (Nat.lt_of_lt_of_le hi g.len) fun m => n (hs i m hi)).trans (g.same i hi n)⟩
theorem len_ev {c : Nat} {μ : Mem} {xs : List D} (h : μ[c]? = some (.lst xs)) : evBI .len [.loc c] μ = .ok (.int xs.length) μ := len_loc h
theorem app_ev {c : Nat} {μ : Mem} {xs : List D} (h : μ[c]? = some (.lst xs)) (hl : xs.length ≤ 1000) (d : D) : evBM .append (.loc c) [d] μ = .ok .non (μ.set c (.lst (xs ++ [d]))) := by
  unfold evBM one1 bmAppend
  simp only [h]
  rw [if_pos (by unfold lim; omega)]
theorem lst_ev {c : Nat} {μ : Mem} {xs : List D} (h : μ[c]? = some (.lst xs)) : lstS μ (.loc c) = some xs := by
  unfold lstS lstOf
  simp only [h]
theorem rep_ev {c : Nat} {μ : Mem} {d : D} (h : μ[c]? = some (.lst [d])) {j : Int} (hj : 0 ≤ j) : evBin .mul (.loc c) (.int (if 1 < j then 1 else j)) μ = .ok (.loc μ.length) (μ ++ [.lst (if 0 < j then [d] else [])]) := by
  show (match lstOf μ (.loc c) with
    | some xs => if 0 ≤ (if 1 < j then 1 else j) ∧ (if 1 < j then 1 else j) < 2 ^ 62 ∧ xs.length * (if 1 < j then 1 else j).toNat ≤ lim then newL μ (List.replicate (if 1 < j then 1 else j).toNat xs).flatten else .bad
    | _ => .bad) = _
  have e : (if 1 < j then 1 else j) = if 0 < j then (1 : Int) else 0 := by split <;> split <;> omega
  simp only [lstOf, h]
  rw [e]
  by_cases z : 0 < j
  · rw [if_pos z, if_pos z, if_pos ⟨by decide, by decide, show 1 * 1 ≤ 16777216 by decide⟩]
    rfl
  · rw [if_neg z, if_neg z, if_pos ⟨by decide, by decide, show 1 * 0 ≤ 16777216 by decide⟩]
    rfl
theorem min_ev (j : Int) (μ : Mem) : evBI .min2 [.int j, .int 1] μ = .ok (.int (if 1 < j then 1 else j)) μ := rfl
abbrev b10i : List S := [.asg (.g (.nm 11)) (.bin .add (.var 5) (.bin .mul (.lst [.var 4]) (.bi .min2 [.var 7, .ci 1]))),
        .ifs (.cmp .ne (.var 11) (.lst []))
          [.exp (.bm .append (.var 9) [.idx (.var 11) (.call 8 [.var 0, .bi .len [.var 11]] .val)])]
          []]
theorem f10_in {n m T tl : Nat} (a1 a2 a3 a6 a8 : Option D) (nm : Str) (told : List Str) {j : Int} (hj : 0 ≤ j) {μ : Mem} (hs : St μ m) (htl : μ[tl]? = some (.lst (told.map D.str))) (hT : μ[T]? = some (.lst [])) (n1 : tl ≠ m) (n2 : tl ≠ T) (n3 : T ≠ m) (hto : told.length ≤ 100) {xs : List D} (hl : xs.length ≤ 2) (z10 z11 : Option D) :
    ∃ (z10' z11' : Option D) (ss : List Str) (μ' : Mem), forGo [] (forStep pr (PI.run pr (n + 1)) (.nm 10) b10i) xs [some (.loc m), a1, a2, a3, some (.str nm), some (.loc tl), a6, some (.int j), a8, some (.loc T), z10, z11, none] μ = .nx [some (.loc m), a1, a2, a3, some (.str nm), some (.loc tl), a6, some (.int j), a8, some (.loc T), z10', z11', none] μ' ∧ St μ' m ∧ Up [m, T] μ μ' ∧ μ'[T]? = some (.lst (ss.map D.str)) ∧ ss.length ≤ 2 ∧ ∀ s ∈ ss, s ∈ nm :: told := by
  let I : List D → PI.Env → Mem → Prop := fun xs σ μ' => ∃ (z10' z11' : Option D) (ss : List Str), σ = [some (.loc m), a1, a2, a3, some (.str nm), some (.loc tl), a6, some (.int j), a8, some (.loc T), z10', z11', none] ∧ St μ' m ∧ Up [m, T] μ μ' ∧ μ'[T]? = some (.lst (ss.map D.str)) ∧ ss.length + xs.length ≤ 2 ∧ ∀ s ∈ ss, s ∈ nm :: told
  obtain ⟨σ', μ', e, z10', z11', ss, rfl, h1, h2, h3, h4, h5⟩ := for_inv (src := []) (step := forStep pr (PI.run pr (n + 1)) (.nm 10) b10i) I (fun _ _ _ _ => ⟨still_nil _, rfl⟩) (xs := xs) (μ := μ) ⟨z10, z11, [], rfl, hs, Up.refl _ _, hT, by simp only [List.length_nil]; omega, fun _ h => absurd h List.not_mem_nil⟩ fun x xs σ μ1 i => by
    obtain ⟨z10', z11', ss, rfl, hs, u, hT, hl, hin⟩ := i
    rw [List.length_cons] at hl
    let ns : List Str := if 0 < j then [nm] else []
    let ma : Mem := μ1 ++ [Ob.lst [.str nm]]
    let mb : Mem := ma ++ [Ob.lst (ns.map D.str)]
    let mc : Mem := mb ++ [Ob.lst ((told ++ ns).map D.str)]
    let md : Mem := mc ++ [Ob.lst []]
    have c1 : lstK [.str nm] μ1 = .ok (.loc μ1.length) ma := lst1 _ _
    have mu : evBin .mul (.loc μ1.length) (.int (if 1 < j then 1 else j)) ma = .ok (.loc ma.length) mb := by
      have := rep_ev (get_last μ1 (Ob.lst [.str nm])) hj
      rw [this]
      have : (if 0 < j then [D.str nm] else []) = ns.map D.str := by
        show _ = (if 0 < j then [nm] else []).map D.str
        split <;> rfl
      rw [this]
    have gb : Gr [] μ1 mb := (Gr.app μ1 _).trans0 (Gr.app ma _)
    have gd : Gr [] mb md := (Gr.app mb _).trans0 (Gr.app mc _)
    have tl1 : μ1[tl]? = some (.lst (told.map D.str)) := u.get (by simp [n1, n2]) htl
    have nsl : ns.length ≤ 1 := by
      show (if 0 < j then [nm] else []).length ≤ 1
      split <;> simp
    have ad : evBin .add (.loc tl) (.loc ma.length) mb = .ok (.loc mb.length) mc := by
      have := add_locs (gb.get tl1) (get_last ma (Ob.lst (ns.map D.str))) (by rw [List.length_map, List.length_map]; unfold lim; omega)
      rw [← List.map_append] at this
      exact this
    have c2 : lstK [] mc = .ok (.loc mc.length) md := lst0 _
    have so : md[mb.length]? = some (.lst ((told ++ ns).map D.str)) := (Gr.app mc _).get (get_last mb _)
    have ne := ne_empty (n := 0) (f := 0) (c := mb.length) (c' := mc.length) (by decide) so (Fz.strs _) (py_strs _ _) (get_last mc _)
    have ud : Up [m, T] μ1 md := ⟨(gb.trans0 gd).len, fun i hi _ => (gb.trans0 gd).same i hi List.not_mem_nil⟩
    have hsd : St md m := hs.up (by
      obtain ⟨_, _, h, _⟩ := hs
      rw [(gb.trans0 gd).get h, h])
    have hTd : md[T]? = some (.lst (ss.map D.str)) := (gb.trans0 gd).get hT
    clear_value ma mb mc md
    by_cases c : told ++ ns = []
    · refine ⟨_, md, .inl ?_, some x, some (.loc mb.length), ss, rfl, hsd, u.trans ud, hTd, by omega, hin⟩
      rw [forStep_ok (σ' := [some (.loc m), a1, a2, a3, some (.str nm), some (.loc tl), a6, some (.int j), a8, some (.loc T), some x, z11', none]) pr _ _ _ rfl]
      have ne : evCmp .ne (.loc mb.length) (.loc mc.length) md = .ok (.bl false) md := by rw [ne, c]; rfl
      simp only [c1, min_ev, mu, ad, c2, ne, bind_ok, into_ok, seq_nx, seq_rt, seq_bk, seq_ct, out_rt, out_nx, vrD_ok, tup1, tup2, tup3, tup4, tup5, lst0, lst1, lst2, lst3, chB_t, chB_f, okB_some, tr_bl, setK_ok, kOk_eq, notK_eq, isNK_eq, notNK_eq, intO_ok, seqK_eq, strK_eq, rngK_eq, dctK_eq, consK_eq, someK_eq, noneK_eq, subK_ok, dropK_eq, retK_eq, asgK_eq, asgTK_eq, sub3_eq, binK_eq, cmpK_eq, idxK_eq, slcK2_eq, slcK_eq, ifK_eq, callK_eq, lK_eq, andK_eq, orK_eq, eltK_eq, allK_eq, lcK_eq, sub2_eq, sub1_eq, ifS_eq, forK_eq, e_var, e_ci, e_cs, e_cb, e_cn, e_not, e_isN, e_notN, e_bin, e_cmp, e_ifx, e_tup, e_lst, e_dnew, e_idx, e_slc, e_call, e_bi, e_isi, e_bm, e_lc, l_nil, l_cons, o_none, o_some, and_one, and_two, or_one, or_two, all_nil, all_one, trB_bl, i_seq, i_str, i_rng, i_keys, i_items, s_nil, s_cons, s_asg, s_asgT, s_sub, s_exp, s_ret, s_retN, s_if, s_for, List.getElem?_cons_zero, List.getElem?_cons_succ, List.set_cons_zero, List.set_cons_succ, List.length_cons, List.length_nil, Nat.reduceAdd, Nat.reduceLT, if_true, Bool.not_true, Bool.not_false]
    · have ne : evCmp .ne (.loc mb.length) (.loc mc.length) md = .ok (.bl true) md := by
        rw [ne]
        cases e : told ++ ns with
        | nil => exact absurd e c
        | cons y ys => rfl
      have ln := len_ev so
      rw [List.length_map] at ln
      have lp : 0 < (told ++ ns).length := List.length_pos_iff.mpr c
      have ll : (told ++ ns).length ≤ 101 := by rw [List.length_append]; omega
      obtain ⟨r, me, q, r0, r1, hse, ue, _⟩ := f8_ok n md m ((told ++ ns).length : Nat) hsd (by omega) (by omega)
      have nmb : mb.length ∉ [m] := by
        rw [List.mem_singleton]
        have := gb.len
        obtain ⟨_, _, h, _⟩ := hs
        have := (List.getElem?_eq_some_iff.mp h).1
        omega
      have hr : r.toNat < (told ++ ns).length := by omega
      have ix : evIdx (.loc mb.length) (.int r) me = .ok (.str ((told ++ ns)[r.toNat])) me := idx_at (k := r.toNat) (ue.get nmb so) (by omega) (by rw [List.getElem?_map, List.getElem?_eq_getElem hr]; rfl)
      have hTe : me[T]? = some (.lst (ss.map D.str)) := ue.get (by simp [n3]) hTd
      have ap := app_ev hTe (by rw [List.length_map]; omega) (.str ((told ++ ns)[r.toNat]))
      have ls := lst_ev hTd
      have hTl := (List.getElem?_eq_some_iff.mp hTe).1
      refine ⟨_, me.set T (.lst (ss.map D.str ++ [.str ((told ++ ns)[r.toNat])])), .inl ?_, some x, some (.loc mb.length), ss ++ [(told ++ ns)[r.toNat]], rfl, hse.up (List.getElem?_set_ne n3), ((u.trans ud).trans (ue.more (by simp))).trans (Up.set (by simp) _ _), ?_, by rw [List.length_append, List.length_singleton]; omega, ?_⟩
      · rw [forStep_ok (σ' := [some (.loc m), a1, a2, a3, some (.str nm), some (.loc tl), a6, some (.int j), a8, some (.loc T), some x, z11', none]) pr _ _ _ rfl]
        simp only [c1, min_ev, mu, ad, c2, ne, bmK_ok pr _ _ ls, ln, q, ix, ap, bind_ok, into_ok, seq_nx, seq_rt, seq_bk, seq_ct, out_rt, out_nx, vrD_ok, tup1, tup2, tup3, tup4, tup5, lst0, lst1, lst2, lst3, chB_t, chB_f, okB_some, tr_bl, setK_ok, kOk_eq, notK_eq, isNK_eq, notNK_eq, intO_ok, seqK_eq, strK_eq, rngK_eq, dctK_eq, consK_eq, someK_eq, noneK_eq, subK_ok, dropK_eq, retK_eq, asgK_eq, asgTK_eq, sub3_eq, binK_eq, cmpK_eq, idxK_eq, slcK2_eq, slcK_eq, ifK_eq, callK_eq, lK_eq, andK_eq, orK_eq, eltK_eq, allK_eq, lcK_eq, sub2_eq, sub1_eq, ifS_eq, forK_eq, e_var, e_ci, e_cs, e_cb, e_cn, e_not, e_isN, e_notN, e_bin, e_cmp, e_ifx, e_tup, e_lst, e_dnew, e_idx, e_slc, e_call, e_bi, e_isi, e_bm, e_lc, l_nil, l_cons, o_none, o_some, and_one, and_two, or_one, or_two, all_nil, all_one, trB_bl, i_seq, i_str, i_rng, i_keys, i_items, s_nil, s_cons, s_asg, s_asgT, s_sub, s_exp, s_ret, s_retN, s_if, s_for, List.getElem?_cons_zero, List.getElem?_cons_succ, List.set_cons_zero, List.set_cons_succ, List.length_cons, List.length_nil, Nat.reduceAdd, Nat.reduceLT, if_true, Bool.not_true, Bool.not_false]
      · rw [List.getElem?_set_self hTl, List.map_append]; rfl
      · intro s hsm
        rcases List.mem_append.mp hsm with h | h
        · exact hin s h
        · rw [List.mem_singleton.mp h]
          have : (told ++ ns)[r.toNat] ∈ told ++ ns := List.getElem_mem hr
          rcases List.mem_append.mp this with h | h
          · exact List.mem_cons_of_mem _ h
          · have : (told ++ ns)[r.toNat] = nm := by
              have h : (told ++ ns)[r.toNat] ∈ (if 0 < j then [nm] else []) := h
              split at h
              · exact List.mem_singleton.mp h
              · exact absurd h List.not_mem_nil
            rw [this]
            exact List.mem_cons_self
  exact ⟨z10', z11', ss, μ', e, h1, h2, h3, by omega, h5⟩
end K32

/-! k32: the kinds drawn, the outer loops -/
namespace K32
open PySem PI
theorem Ex.refl (n : Nat) (μ : Mem) : Ex n μ μ := fun _ _ _ h => h
/-- the kinds so far -/
structure Kv (K : Nat) (μ : Mem) (ds : List D) (ks : List KdT) : Prop where
  fz : Fz (K + 1) 4 μ ds (ks.map kdD)
  each : ∀ d ∈ ds, ∃ (s : Str) (c : Nat) (xs : List D) (ms : List MkT), d = .tup [.str s, .loc c] ∧ K + 1 ≤ c ∧ μ[c]? = some (.lst xs) ∧ Fz (K + 1) 3 μ xs (ms.map mkD) ∧ s ∈ ks.map (·.1)
theorem Kv.mono {K : Nat} {μ μ' : Mem} {ds : List D} {ks : List KdT} (h : Kv K μ ds ks) (he : Ex (K + 1) μ μ') : Kv K μ' ds ks := ⟨h.fz.mono (Nat.le_refl _) (Nat.le_refl _) he, fun d hd => by
  obtain ⟨s, c, xs, ms, h1, h2, h3, h4, h5⟩ := h.each d hd
  exact ⟨s, c, xs, ms, h1, h2, he c _ h2 h3, h4.mono (Nat.le_refl _) (Nat.le_refl _) he, h5⟩⟩
theorem told_ok {C : Calls} {K : Nat} {a0 a1 a3 a4 a5 a6 a7 a8 a9 a10 a11 : Option D} {μ : Mem} {ds : List D} {ks : List KdT} (hK : μ[K]? = some (.lst ds)) (hv : Kv K μ ds ks) (hl : ds.length ≤ 4) :
    ∃ (told : List Str) (μ' : Mem), lcGo [(K, .lst ds)] (lcStep pr C [a0, a1, some (.loc K), a3, a4, a5, a6, a7, a8, a9, a10, a11, none] (.idx (.var 12) (.ci 0)) (.nm 12) [.cmp .ne (.idx (.var 12) (.ci 1)) (.lst [])] [12]) μ.length ds (μ ++ [.lst []]) = .ok (.loc μ.length) μ' ∧ Gr [] μ μ' ∧ μ.length < μ'.length ∧ μ'[μ.length]? = some (.lst (told.map D.str)) ∧ told.length ≤ 4 ∧ ∀ s ∈ told, s ∈ ks.map (·.1) := by
  let I : List D → List D → Mem → Prop := fun xs acc μ' => Gr [] μ μ' ∧ μ'[μ.length]? = some (.lst acc) ∧ (∀ x ∈ xs, x ∈ ds) ∧ ∃ told : List Str, acc = told.map D.str ∧ (∀ s ∈ told, s ∈ ks.map (·.1)) ∧ told.length + xs.length ≤ 4
  obtain ⟨acc', μ', e, g, h2, _, told, rfl, h3, h4⟩ := lc_inv (src := [(K, .lst ds)]) (step := lcStep pr C [a0, a1, some (.loc K), a3, a4, a5, a6, a7, a8, a9, a10, a11, none] (.idx (.var 12) (.ci 0)) (.nm 12) [.cmp .ne (.idx (.var 12) (.ci 1)) (.lst [])] [12]) (n := μ.length) I (fun xs acc μ' i => ⟨(still_gr hK i.1).1, (still_gr hK i.1).2, i.2.1⟩) (xs := ds) (acc := []) (μ := μ ++ [.lst []]) (by simp only [List.length_nil]; unfold lim; omega) ⟨Gr.app μ _, get_last _ _, fun _ h => h, [], rfl, fun _ h => absurd h List.not_mem_nil, by simp only [List.length_nil]; omega⟩ fun x xs acc μ1 i => by
    obtain ⟨g, ha, hm, told, rfl, h3, h4⟩ := i
    rw [List.length_cons] at h4
    obtain ⟨s, c, ys, ms, rfl, h5, h6, h7, h8⟩ := hv.each x (hm x List.mem_cons_self)
    have hmx : ∀ x ∈ xs, x ∈ ds := fun x h => hm x (List.mem_cons_of_mem _ h)
    have g2 : Gr [] μ (μ1 ++ [Ob.lst []]) := g.trans0 (Gr.app _ _)
    have ex : Ex (K + 1) μ (μ1 ++ [Ob.lst []]) := fun i ob _ h => g2.get h
    have i1 : evIdx (.tup [.str s, .loc c]) (.int 1) μ1 = .ok (.loc c) μ1 := rfl
    have i0 : evIdx (.tup [.str s, .loc c]) (.int 0) (μ1 ++ [Ob.lst []]) = .ok (.str s) (μ1 ++ [Ob.lst []]) := rfl
    have ne := ne_empty (by decide) (ex c _ h5 h6) (h7.mono (Nat.le_refl _) (Nat.le_refl 3) ex) (mk_py ms) (get_last μ1 (.lst []))
    have ha2 : (μ1 ++ [Ob.lst []])[μ.length]? = some (.lst (told.map D.str)) := (Gr.app μ1 _).get ha
    refine ⟨μ1 ++ [Ob.lst []], ?_⟩
    rw [lcStep_ok (σ' := [a0, a1, some (.loc K), a3, a4, a5, a6, a7, a8, a9, a10, a11, some (.tup [.str s, .loc c])]) pr _ _ _ rfl]
    by_cases b : ys = []
    · left
      have ne : evCmp .ne (.loc c) (.loc μ1.length) (μ1 ++ [Ob.lst []]) = .ok (.bl false) (μ1 ++ [Ob.lst []]) := by rw [ne, b]; rfl
      refine ⟨?_, g2, ha2, hmx, told, rfl, h3, by omega⟩
      simp only [i1, ne, bind_ok, into_ok, seq_nx, seq_rt, seq_bk, seq_ct, out_rt, out_nx, vrD_ok, tup1, tup2, tup3, tup4, tup5, lst0, lst1, lst2, lst3, chB_t, chB_f, okB_some, tr_bl, setK_ok, kOk_eq, notK_eq, isNK_eq, notNK_eq, intO_ok, seqK_eq, strK_eq, rngK_eq, dctK_eq, consK_eq, someK_eq, noneK_eq, subK_ok, dropK_eq, retK_eq, asgK_eq, asgTK_eq, sub3_eq, binK_eq, cmpK_eq, idxK_eq, slcK2_eq, slcK_eq, ifK_eq, callK_eq, lK_eq, andK_eq, orK_eq, eltK_eq, allK_eq, lcK_eq, sub2_eq, sub1_eq, ifS_eq, forK_eq, e_var, e_ci, e_cs, e_cb, e_cn, e_not, e_isN, e_notN, e_bin, e_cmp, e_ifx, e_tup, e_lst, e_dnew, e_idx, e_slc, e_call, e_bi, e_isi, e_bm, e_lc, l_nil, l_cons, o_none, o_some, and_one, and_two, or_one, or_two, all_nil, all_one, trB_bl, i_seq, i_str, i_rng, i_keys, i_items, s_nil, s_cons, s_asg, s_asgT, s_sub, s_exp, s_ret, s_retN, s_if, s_for, List.getElem?_cons_zero, List.getElem?_cons_succ, List.set_cons_zero, List.set_cons_succ, List.length_cons, List.length_nil, Nat.reduceAdd, Nat.reduceLT, if_true, Bool.not_true, Bool.not_false]
    · right
      have ne : evCmp .ne (.loc c) (.loc μ1.length) (μ1 ++ [Ob.lst []]) = .ok (.bl true) (μ1 ++ [Ob.lst []]) := by
        rw [ne]
        cases ys with
        | nil => exact absurd rfl b
        | cons => rfl
      refine ⟨.str s, ?_, ha2, ⟨by rw [List.length_set]; exact g2.len, fun i hi n => ?_, fun _ _ h => absurd h List.not_mem_nil⟩, ?_, hmx, told ++ [s], by rw [List.map_append]; rfl, fun t ht => ?_, by rw [List.length_append, List.length_singleton]; omega⟩
      · simp only [i1, ne, i0, bind_ok, into_ok, seq_nx, seq_rt, seq_bk, seq_ct, out_rt, out_nx, vrD_ok, tup1, tup2, tup3, tup4, tup5, lst0, lst1, lst2, lst3, chB_t, chB_f, okB_some, tr_bl, setK_ok, kOk_eq, notK_eq, isNK_eq, notNK_eq, intO_ok, seqK_eq, strK_eq, rngK_eq, dctK_eq, consK_eq, someK_eq, noneK_eq, subK_ok, dropK_eq, retK_eq, asgK_eq, asgTK_eq, sub3_eq, binK_eq, cmpK_eq, idxK_eq, slcK2_eq, slcK_eq, ifK_eq, callK_eq, lK_eq, andK_eq, orK_eq, eltK_eq, allK_eq, lcK_eq, sub2_eq, sub1_eq, ifS_eq, forK_eq, e_var, e_ci, e_cs, e_cb, e_cn, e_not, e_isN, e_notN, e_bin, e_cmp, e_ifx, e_tup, e_lst, e_dnew, e_idx, e_slc, e_call, e_bi, e_isi, e_bm, e_lc, l_nil, l_cons, o_none, o_some, and_one, and_two, or_one, or_two, all_nil, all_one, trB_bl, i_seq, i_str, i_rng, i_keys, i_items, s_nil, s_cons, s_asg, s_asgT, s_sub, s_exp, s_ret, s_retN, s_if, s_for, List.getElem?_cons_zero, List.getElem?_cons_succ, List.set_cons_zero, List.set_cons_succ, List.length_cons, List.length_nil, Nat.reduceAdd, Nat.reduceLT, if_true, Bool.not_true, Bool.not_false]
      · rw [List.getElem?_set_ne (by omega)]
        exact g2.same i hi n
      · rw [List.getElem?_set_self (List.getElem?_eq_some_iff.mp ha2).1]
      · rcases List.mem_append.mp ht with h | h
        · exact h3 t h
        · rw [List.mem_singleton.mp h]
          exact h8
  refine ⟨told, μ', e, g, (List.getElem?_eq_some_iff.mp h2).1, h2, by omega, h3⟩
abbrev b10j : List S := [.asg (.g (.nm 8)) (.call 9 [.var 0, .var 1] .val),
      .exp (.bm .append (.var 1) [.var 8]),
      .asg (.g (.nm 9)) (.lst []),
      .for_ (.nm 10) (.rng [.call 8 [.var 0, .ci 3] .val]) b10i,
      .exp (.bm .append (.var 6) [.tup [.var 8, .var 9]])]
def Good (names : List Str) (ms : List MkT) : Prop := ∀ p ∈ ms, p.2.length ≤ 2 ∧ ∀ s ∈ p.2, s ∈ names
theorem f10_mid {n m tk K tl M : Nat} (a3 : Option D) (nm : Str) (told : List Str) {μ : Mem} {ws : List Str} (hs : St μ m) (htk : μ[tk]? = some (.lst (ws.map D.str))) (htl : μ[tl]? = some (.lst (told.map D.str))) (hM : μ[M]? = some (.lst [])) (n1 : m < K) (n2 : tk < K) (n3 : tk ≠ m) (n4 : K < tl) (n5 : tl < M) (hto : told.length ≤ 100) {xs : List D} (hl : xs.length ≤ 3) (hw : ws.length + xs.length ≤ 22) (hx : ∀ x ∈ xs, ∃ j : Int, 0 ≤ j ∧ x = .int j) (z7 z8 z9 z10 z11 : Option D) :
    ∃ (z7' z8' z9' z10' z11' : Option D) (ws' : List Str) (ds : List D) (ms : List MkT) (μ' : Mem), forGo [] (forStep pr (PI.run pr (n + 2)) (.nm 7) b10j) xs [some (.loc m), some (.loc tk), some (.loc K), a3, some (.str nm), some (.loc tl), some (.loc M), z7, z8, z9, z10, z11, none] μ = .nx [some (.loc m), some (.loc tk), some (.loc K), a3, some (.str nm), some (.loc tl), some (.loc M), z7', z8', z9', z10', z11', none] μ' ∧ St μ' m ∧ Up [m, tk, M] μ μ' ∧ μ'[tk]? = some (.lst (ws'.map D.str)) ∧ ws'.length ≤ ws.length + xs.length ∧ μ'[M]? = some (.lst ds) ∧ Fz (M + 1) 2 μ' ds (ms.map mkD) ∧ ms.length ≤ 3 ∧ Good (nm :: told) ms := by
  let I : List D → PI.Env → Mem → Prop := fun ys σ μ' => ∃ (z7' z8' z9' z10' z11' : Option D) (ws' : List Str) (ds : List D) (ms : List MkT), σ = [some (.loc m), some (.loc tk), some (.loc K), a3, some (.str nm), some (.loc tl), some (.loc M), z7', z8', z9', z10', z11', none] ∧ St μ' m ∧ Up [m, tk, M] μ μ' ∧ μ'[tk]? = some (.lst (ws'.map D.str)) ∧ ws'.length + ys.length ≤ ws.length + xs.length ∧ μ'[M]? = some (.lst ds) ∧ Fz (M + 1) 2 μ' ds (ms.map mkD) ∧ ms.length + ys.length ≤ 3 ∧ ds.length + ys.length ≤ 3 ∧ Good (nm :: told) ms ∧ ∀ x ∈ ys, ∃ j : Int, 0 ≤ j ∧ x = .int j
  obtain ⟨σ', μ', e, z7', z8', z9', z10', z11', ws', ds, ms, rfl, h1, h2, h3, h4, h5, h6, h7, _, h8, _⟩ := for_inv (src := []) (step := forStep pr (PI.run pr (n + 2)) (.nm 7) b10j) I (fun _ _ _ _ => ⟨still_nil _, rfl⟩) (xs := xs) (μ := μ) (σ := [some (.loc m), some (.loc tk), some (.loc K), a3, some (.str nm), some (.loc tl), some (.loc M), z7, z8, z9, z10, z11, none]) ⟨z7, z8, z9, z10, z11, ws, [], [], rfl, hs, Up.refl _ _, htk, Nat.le_refl _, hM, Fz.nil, by simp only [List.length_nil]; omega, by simp only [List.length_nil]; omega, fun _ h => absurd h List.not_mem_nil, hx⟩ fun x ys σ μ1 i => by
    obtain ⟨z7', z8', z9', z10', z11', ws', ds, ms, rfl, hs, u, htk, h4, hM, hf, h7, h7', h8, hxx⟩ := i
    rw [List.length_cons] at h4 h7 h7'
    obtain ⟨j, hj, rfl⟩ := hxx x List.mem_cons_self
    have hMl := (List.getElem?_eq_some_iff.mp hM).1
    obtain ⟨w, μ2, q9, hs2, u2, l2⟩ := f9_ok n μ1 m tk ws' hs htk n3 (by omega)
    have tk2 := u2.get (by simp [n3]) htk
    have ap2 := app_ev tk2 (by rw [List.length_map]; omega) (.str w)
    have ls2 := lst_ev tk2
    let μ3 : Mem := μ2.set tk (.lst (ws'.map D.str ++ [.str w]))
    have ap2 : evBM .append (.loc tk) [.str w] μ2 = .ok .non μ3 := ap2
    let μ4 : Mem := μ3 ++ [Ob.lst []]
    have c4 : lstK [] μ3 = .ok (.loc μ3.length) μ4 := lst0 _
    have l3 : μ3.length = μ2.length := List.length_set
    have u3 : Up [m, tk, M] μ1 μ3 := (u2.more (by simp)).trans (Up.set (by simp) _ _)
    have u4 : Up [m, tk, M] μ1 μ4 := u3.trans (Up.app _ _ _)
    have tk3 : μ3[tk]? = some (.lst ((ws' ++ [w]).map D.str)) := by
      rw [List.map_append]
      exact List.getElem?_set_self (List.getElem?_eq_some_iff.mp tk2).1
    have hs3 : St μ3 m := hs2.up (List.getElem?_set_ne n3)
    have hs4 : St μ4 m := hs3.up (by
      obtain ⟨_, _, h, _⟩ := hs3
      rw [(Gr.app μ3 _).get h, h])
    obtain ⟨r, μ5, q8, r0, r1, hs5, u5, l5⟩ := f8_ok (n + 1) μ4 m 3 hs4 (by decide) (by decide)
    have rg := rng_ok r0 (by omega) μ5
    have tl4 : μ4[tl]? = some (.lst (told.map D.str)) := (u.trans u4).get (by simp; omega) htl
    have T4 : μ4[μ3.length]? = some (.lst []) := get_last _ _
    obtain ⟨y10, y11, ss, μ6, lp, hs6, u6, T6, h9, h10⟩ := f10_in (n := n + 1) (m := m) (T := μ3.length) (tl := tl) (some (.loc tk)) (some (.loc K)) a3 (some (.loc M)) (some (.str w)) nm told hj hs5 (u5.get (by simp; omega) tl4) (u5.get (by simp; omega) T4) (by omega) (by omega) (by omega) hto (xs := rngD 0 r.toNat) (by rw [rng_len]; omega) z10' z11'
    have u56 : Up [m, tk, M] μ1 μ6 := (u4.trans (u5.more (by simp))).high u6 (by
      intro i hi hlt
      simp at hi ⊢
      rcases hi with h | h
      · exact .inl h
      · omega)
    have tk6 : μ6[tk]? = some (.lst ((ws' ++ [w]).map D.str)) := u6.get (by simp; omega) (u5.get (by simp; omega) ((Gr.app μ3 _).get tk3))
    have M3 : μ3[M]? = some (.lst ds) := by
      show (μ2.set tk _)[M]? = _
      rw [List.getElem?_set_ne (by omega)]
      exact u2.get (by simp; omega) hM
    have M6 : μ6[M]? = some (.lst ds) := u6.get (by simp; omega) (u5.get (by simp; omega) ((Gr.app μ3 _).get M3))
    have M6l := (List.getElem?_eq_some_iff.mp M6).1
    let μ7 : Mem := μ6.set M (.lst (ds ++ [.tup [.str w, .loc μ3.length]]))
    have ap7 : evBM .append (.loc M) [.tup [.str w, .loc μ3.length]] μ6 = .ok .non μ7 := app_ev M6 (by omega) _
    have ls6 := lst_ev M6
    have u7 : Up [m, tk, M] μ1 μ7 := u56.trans (Up.set (by simp) _ _)
    have T7 : μ7[μ3.length]? = some (.lst (ss.map D.str)) := by
      show (μ6.set M _)[_]? = _
      rw [List.getElem?_set_ne (by omega)]
      exact T6
    obtain ⟨p1, p2⟩ := frz_pair (n := M + 1) (f := 1) (s := w) (by omega) T7 (Fz.strs ss)
    have f7 := (hf.mono (Nat.le_refl _) (Nat.le_refl _) (u7.ex (by simp; omega))).snoc p1 p2
    refine ⟨[some (.loc m), some (.loc tk), some (.loc K), a3, some (.str nm), some (.loc tl), some (.loc M), some (.int j), some (.str w), some (.loc μ3.length), y10, y11, none], μ7, .inl ?_, _, _, _, _, _, ws' ++ [w], ds ++ [.tup [.str w, .loc μ3.length]], ms ++ [(w, ss)], rfl, hs6.up (List.getElem?_set_ne (by omega)), u.trans u7, ?_, ?_, ?_, ?_, ?_, ?_, ?_, fun x h => hxx x (List.mem_cons_of_mem _ h)⟩
    · rw [forStep_ok (σ' := [some (.loc m), some (.loc tk), some (.loc K), a3, some (.str nm), some (.loc tl), some (.loc M), some (.int j), z8', z9', z10', z11', none]) pr _ _ _ rfl]
      clear_value μ3 μ4 μ7
      simp only [q9, bmK_ok pr _ _ ls2, ap2, c4, q8, rg, lp, bmK_ok pr _ _ ls6, ap7, bind_ok, into_ok, seq_nx, seq_rt, seq_bk, seq_ct, out_rt, out_nx, vrD_ok, tup1, tup2, tup3, tup4, tup5, lst0, lst1, lst2, lst3, chB_t, chB_f, okB_some, tr_bl, setK_ok, kOk_eq, notK_eq, isNK_eq, notNK_eq, intO_ok, seqK_eq, strK_eq, rngK_eq, dctK_eq, consK_eq, someK_eq, noneK_eq, subK_ok, dropK_eq, retK_eq, asgK_eq, asgTK_eq, sub3_eq, binK_eq, cmpK_eq, idxK_eq, slcK2_eq, slcK_eq, ifK_eq, callK_eq, lK_eq, andK_eq, orK_eq, eltK_eq, allK_eq, lcK_eq, sub2_eq, sub1_eq, ifS_eq, forK_eq, e_var, e_ci, e_cs, e_cb, e_cn, e_not, e_isN, e_notN, e_bin, e_cmp, e_ifx, e_tup, e_lst, e_dnew, e_idx, e_slc, e_call, e_bi, e_isi, e_bm, e_lc, l_nil, l_cons, o_none, o_some, and_one, and_two, or_one, or_two, all_nil, all_one, trB_bl, i_seq, i_str, i_rng, i_keys, i_items, s_nil, s_cons, s_asg, s_asgT, s_sub, s_exp, s_ret, s_retN, s_if, s_for, List.getElem?_cons_zero, List.getElem?_cons_succ, List.set_cons_zero, List.set_cons_succ, List.length_cons, List.length_nil, Nat.reduceAdd, Nat.reduceLT, if_true, Bool.not_true, Bool.not_false]
    · show (μ6.set M _)[tk]? = _
      rw [List.getElem?_set_ne (by omega)]
      exact tk6
    · rw [List.length_append, List.length_singleton]; omega
    · exact List.getElem?_set_self M6l
    · rw [List.map_append]; exact f7
    · rw [List.length_append, List.length_singleton]; omega
    · rw [List.length_append, List.length_singleton]; omega
    · intro p hp
      rcases List.mem_append.mp hp with h | h
      · exact h8 p h
      · rw [List.mem_singleton.mp h]
        exact ⟨h9, h10⟩
  exact ⟨z7', z8', z9', z10', z11', ws', ds, ms, μ', e, h1, h2, h3, by simpa using h4, h5, h6, by simpa using h7, h8⟩
end K32

/-! k32: the kinds drawn, whole -/
namespace K32
open PySem PI
abbrev b10k : List S := [.asg (.g (.nm 4)) (.call 9 [.var 0, .var 1] .val),
    .exp (.bm .append (.var 1) [.var 4]),
    .asg (.g (.nm 5)) (.lc (.idx (.var 12) (.ci 0)) (.nm 12) (.seq (.var 2)) [.cmp .ne (.idx (.var 12) (.ci 1)) (.lst [])] [12]),
    .asg (.g (.nm 6)) (.lst []),
    .for_ (.nm 7) (.rng [.call 8 [.var 0, .ci 4] .val]) b10j,
    .exp (.bm .append (.var 2) [.tup [.var 4, .var 6]])]
theorem rng_mem {k : Nat} : ∀ x ∈ rngD 0 k, ∃ j : Int, 0 ≤ j ∧ x = .int j := fun x h => by
  unfold rngD at h
  obtain ⟨i, _, rfl⟩ := List.mem_map.mp h
  exact ⟨_, by omega, rfl⟩
theorem Up.gr0 {S : List Nat} {μ μ1 μ2 : Mem} (g : Up S μ μ1) (h : Gr [] μ1 μ2) : Up S μ μ2 := ⟨Nat.le_trans g.len h.len, fun i hi n => (h.same i (Nat.lt_of_lt_of_le hi g.len) List.not_mem_nil).trans (g.same i hi n)⟩
theorem St.gr0 {μ μ' : Mem} {m : Nat} (h : St μ m) (g : Gr [] μ μ') : St μ' m := h.up (by
  obtain ⟨_, _, e, _⟩ := h
  rw [g.get e, e])
theorem f10_out {n m tk K : Nat} {μ : Mem} (hs : St μ m) (htk : μ[tk]? = some (.lst ([] : List D))) (hK : μ[K]? = some (.lst [])) (n1 : m < K) (n2 : tk < K) (n3 : tk ≠ m) {xs : List D} (hl : xs.length ≤ 4) :
    ∃ (z3 z4 z5 z6 z7 z8 z9 z10 z11 : Option D) (ws : List Str) (ds : List D) (ks : List KdT) (μ' : Mem), forGo [] (forStep pr (PI.run pr (n + 2)) (.nm 3) b10k) xs [some (.loc m), some (.loc tk), some (.loc K), none, none, none, none, none, none, none, none, none, none] μ = .nx [some (.loc m), some (.loc tk), some (.loc K), z3, z4, z5, z6, z7, z8, z9, z10, z11, none] μ' ∧ St μ' m ∧ Up [m, tk, K] μ μ' ∧ μ'[tk]? = some (.lst (ws.map D.str)) ∧ ws.length ≤ 16 ∧ μ'[K]? = some (.lst ds) ∧ Kv K μ' ds ks ∧ ks.length = xs.length ∧ ∀ k ∈ ks, k.2.length ≤ 3 ∧ Good (ks.map (·.1)) k.2 := by
  let I : List D → PI.Env → Mem → Prop := fun ys σ μ' => ∃ (z3 z4 z5 z6 z7 z8 z9 z10 z11 : Option D) (ws : List Str) (ds : List D) (ks : List KdT), σ = [some (.loc m), some (.loc tk), some (.loc K), z3, z4, z5, z6, z7, z8, z9, z10, z11, none] ∧ St μ' m ∧ Up [m, tk, K] μ μ' ∧ μ'[tk]? = some (.lst (ws.map D.str)) ∧ ws.length + 4 * ys.length ≤ 16 ∧ μ'[K]? = some (.lst ds) ∧ Kv K μ' ds ks ∧ ks.length + ys.length = xs.length ∧ ds.length + ys.length ≤ 4 ∧ ∀ k ∈ ks, k.2.length ≤ 3 ∧ Good (ks.map (·.1)) k.2
  obtain ⟨σ', μ', e, z3, z4, z5, z6, z7, z8, z9, z10, z11, ws, ds, ks, rfl, h1, h2, h3, h4, h5, h6, h7, _, h8⟩ := for_inv (src := []) (step := forStep pr (PI.run pr (n + 2)) (.nm 3) b10k) I (fun _ _ _ _ => ⟨still_nil _, rfl⟩) (xs := xs) (μ := μ) (σ := [some (.loc m), some (.loc tk), some (.loc K), none, none, none, none, none, none, none, none, none, none]) ⟨none, none, none, none, none, none, none, none, none, [], [], [], rfl, hs, Up.refl _ _, htk, by simp only [List.length_nil]; omega, hK, ⟨Fz.nil, fun _ h => absurd h List.not_mem_nil⟩, by simp, by simp only [List.length_nil]; omega, fun _ h => absurd h List.not_mem_nil⟩ fun x ys σ μ1 i => by
    obtain ⟨z3, z4, z5, z6, z7, z8, z9, z10, z11, ws, ds, ks, rfl, hs, u, htk, h4, hK, hv, h7, h7', h8⟩ := i
    rw [List.length_cons] at h4 h7 h7'
    have hKl := (List.getElem?_eq_some_iff.mp hK).1
    obtain ⟨w, μ2, q9, hs2, u2, l2⟩ := f9_ok n μ1 m tk ws hs htk n3 (by omega)
    have tk2 := u2.get (by simp [n3]) htk
    have ap2 := app_ev tk2 (by rw [List.length_map]; omega) (.str w)
    have ls2 := lst_ev tk2
    let μ3 : Mem := μ2.set tk (.lst (ws.map D.str ++ [.str w]))
    have ap2 : evBM .append (.loc tk) [.str w] μ2 = .ok .non μ3 := ap2
    have l3 : μ3.length = μ2.length := List.length_set
    have u3 : Up [m, tk, K] μ1 μ3 := (u2.more (by simp)).trans (Up.set (by simp) _ _)
    have tk3 : μ3[tk]? = some (.lst ((ws ++ [w]).map D.str)) := by
      rw [List.map_append]
      exact List.getElem?_set_self (List.getElem?_eq_some_iff.mp tk2).1
    have hs3 : St μ3 m := hs2.up (List.getElem?_set_ne n3)
    have K3 : μ3[K]? = some (.lst ds) := by
      show (μ2.set tk _)[K]? = _
      rw [List.getElem?_set_ne (by omega)]
      exact u2.get (by simp; omega) hK
    have hv3 : Kv K μ3 ds ks := hv.mono (u3.ex (by simp; omega))
    have it : itSeq μ3 (.loc K) = .ok (ds, [(K, .lst ds)]) μ3 := by
      unfold itSeq seqOf srcOf
      simp only [K3]
    obtain ⟨told, μ4, lc, g4, l4, tl4, tll, tlm⟩ := told_ok (C := PI.run pr (n + 2)) (a0 := some (.loc m)) (a1 := some (.loc tk)) (a3 := some x) (a4 := some (.str w)) (a5 := z5) (a6 := z6) (a7 := z7) (a8 := z8) (a9 := z9) (a10 := z10) (a11 := z11) K3 hv3 (by omega)
    let μ5 : Mem := μ4 ++ [Ob.lst []]
    have c5 : lstK [] μ4 = .ok (.loc μ4.length) μ5 := lst0 _
    have g5 : Gr [] μ3 μ5 := g4.trans0 (Gr.app _ _)
    have u5 : Up [m, tk, K] μ1 μ5 := u3.gr0 g5
    obtain ⟨r, μ6, q8, r0, r1, hs6, u6, l6⟩ := f8_ok (n + 1) μ5 m 4 (hs3.gr0 g5) (by decide) (by decide)
    have rg := rng_ok r0 (by omega) μ6
    have tl6 : μ6[μ3.length]? = some (.lst (told.map D.str)) := u6.get (by simp; omega) ((Gr.app μ4 _).get tl4)
    have M6 : μ6[μ4.length]? = some (.lst []) := u6.get (by simp; omega) (get_last _ _)
    have tk6 : μ6[tk]? = some (.lst ((ws ++ [w]).map D.str)) := u6.get (by simp [n3]) (g5.get tk3)
    obtain ⟨y7, y8, y9, y10, y11, ws', ds', ms, μ7, lp, hs7, u7, tk7, l7, M7, fz7, h9, h10⟩ := f10_mid (n := n) (m := m) (tk := tk) (K := K) (tl := μ3.length) (M := μ4.length) (some x) w told hs6 tk6 tl6 M6 n1 n2 n3 (by omega) (by omega) (by omega) (xs := rngD 0 r.toNat) (by rw [rng_len]; omega) (by rw [rng_len, List.length_append, List.length_singleton]; omega) rng_mem z7 z8 z9 z10 z11
    rw [rng_len, List.length_append, List.length_singleton] at l7
    have u67 : Up [m, tk, K] μ1 μ7 := (u5.trans (u6.more (by simp))).high u7 (by
      intro i hi hlt
      simp at hi ⊢
      rcases hi with h | h | h
      · exact .inl h
      · exact .inr (.inl h)
      · have := g4.len
        omega)
    have K7 : μ7[K]? = some (.lst ds) := u7.get (by simp; omega) (u6.get (by simp; omega) (g5.get K3))
    have K7l := (List.getElem?_eq_some_iff.mp K7).1
    have ls7 := lst_ev K7
    let μ8 : Mem := μ7.set K (.lst (ds ++ [.tup [.str w, .loc μ4.length]]))
    have ap8 : evBM .append (.loc K) [.tup [.str w, .loc μ4.length]] μ7 = .ok .non μ8 := app_ev K7 (by omega) _
    have u8 : Up [m, tk, K] μ1 μ8 := u67.trans (Up.set (by simp) _ _)
    have M8 : μ8[μ4.length]? = some (.lst ds') := by
      show (μ7.set K _)[_]? = _
      rw [List.getElem?_set_ne (by omega)]
      exact M7
    have e78 : Ex (K + 1) μ7 μ8 := (Up.set (S := [K]) (by simp) _ _).ex (by simp)
    have fz8 : Fz (K + 1) 3 μ8 ds' (ms.map mkD) := fz7.mono (by omega) (by decide) fun i ob hi => e78 i ob (by omega)
    obtain ⟨p1, p2⟩ := frz_pair (n := K + 1) (f := 3) (s := w) (by omega) M8 fz8
    have hv8 := hv.mono (u8.ex (by simp; omega))
    have fk := hv8.fz.snoc p1 p2
    refine ⟨[some (.loc m), some (.loc tk), some (.loc K), some x, some (.str w), some (.loc μ3.length), some (.loc μ4.length), y7, y8, y9, y10, y11, none], μ8, .inl ?_, _, _, _, _, _, _, _, _, _, ws', ds ++ [.tup [.str w, .loc μ4.length]], ks ++ [(w, ms)], rfl, hs7.up (List.getElem?_set_ne (by omega)), u.trans u8, ?_, by omega, List.getElem?_set_self K7l, ⟨?_, ?_⟩, ?_, ?_, ?_⟩
    · rw [forStep_ok (σ' := [some (.loc m), some (.loc tk), some (.loc K), some x, z4, z5, z6, z7, z8, z9, z10, z11, none]) pr _ _ _ rfl]
      clear_value μ3 μ5 μ8
      simp only [q9, bmK_ok pr _ _ ls2, ap2, it, lc, c5, q8, rg, lp, bmK_ok pr _ _ ls7, ap8, bind_ok, into_ok, seq_nx, seq_rt, seq_bk, seq_ct, out_rt, out_nx, vrD_ok, tup1, tup2, tup3, tup4, tup5, lst0, lst1, lst2, lst3, chB_t, chB_f, okB_some, tr_bl, setK_ok, kOk_eq, notK_eq, isNK_eq, notNK_eq, intO_ok, seqK_eq, strK_eq, rngK_eq, dctK_eq, consK_eq, someK_eq, noneK_eq, subK_ok, dropK_eq, retK_eq, asgK_eq, asgTK_eq, sub3_eq, binK_eq, cmpK_eq, idxK_eq, slcK2_eq, slcK_eq, ifK_eq, callK_eq, lK_eq, andK_eq, orK_eq, eltK_eq, allK_eq, lcK_eq, sub2_eq, sub1_eq, ifS_eq, forK_eq, e_var, e_ci, e_cs, e_cb, e_cn, e_not, e_isN, e_notN, e_bin, e_cmp, e_ifx, e_tup, e_lst, e_dnew, e_idx, e_slc, e_call, e_bi, e_isi, e_bm, e_lc, l_nil, l_cons, o_none, o_some, and_one, and_two, or_one, or_two, all_nil, all_one, trB_bl, i_seq, i_str, i_rng, i_keys, i_items, s_nil, s_cons, s_asg, s_asgT, s_sub, s_exp, s_ret, s_retN, s_if, s_for, List.getElem?_cons_zero, List.getElem?_cons_succ, List.set_cons_zero, List.set_cons_succ, List.length_cons, List.length_nil, Nat.reduceAdd, Nat.reduceLT, if_true, Bool.not_true, Bool.not_false]
    · show (μ7.set K _)[tk]? = _
      rw [List.getElem?_set_ne (by omega)]
      exact tk7
    · rw [List.map_append]; exact fk
    · intro d hd
      rcases List.mem_append.mp hd with h | h
      · obtain ⟨s, c, a, b, k1, k2, k3, k4, k5⟩ := hv8.each d h
        exact ⟨s, c, a, b, k1, k2, k3, k4, by rw [List.map_append]; exact List.mem_append_left _ k5⟩
      · rw [List.mem_singleton.mp h]
        exact ⟨w, _, ds', ms, rfl, by omega, M8, fz8, by rw [List.map_append]; simp⟩
    · rw [List.length_append, List.length_singleton]; omega
    · rw [List.length_append, List.length_singleton]; omega
    · intro k hk
      rcases List.mem_append.mp hk with h | h
      · obtain ⟨j1, j2⟩ := h8 k h
        exact ⟨j1, fun p hp => ⟨(j2 p hp).1, fun s hsm => by rw [List.map_append]; exact List.mem_append_left _ ((j2 p hp).2 s hsm)⟩⟩
      · rw [List.mem_singleton.mp h]
        refine ⟨h9, fun p hp => ⟨(h10 p hp).1, fun s hsm => ?_⟩⟩
        rw [List.map_append]
        rcases List.mem_cons.mp ((h10 p hp).2 s hsm) with rfl | h
        · exact List.mem_append_right _ (by simp)
        · exact List.mem_append_left _ (tlm s h)
  exact ⟨z3, z4, z5, z6, z7, z8, z9, z10, z11, ws, ds, ks, μ', e, h1, h2, h3, by simpa using h4, h5, h6, by simpa using h7, h8⟩
theorem f10_ok (n : Nat) (μ : Mem) (m tk : Nat) (hs : St μ m) (htk : μ[tk]? = some (.lst ([] : List D))) (hne : tk ≠ m) :
    ∃ (ks : List KdT) (ws : List Str) (μ' : Mem), nrm .val μ (PI.run pr (n + 3) 10 [.loc m, .loc tk] μ) = .ok (.fl (ks.map kdD)) μ' ∧ St μ' m ∧ Up [m, tk] μ μ' ∧ μ'.length = μ.length ∧ μ'[tk]? = some (.lst (ws.map D.str)) ∧ ws.length ≤ 16 ∧ 1 ≤ ks.length ∧ ks.length ≤ 4 ∧ ∀ k ∈ ks, k.2.length ≤ 3 ∧ Good (ks.map (·.1)) k.2 := by
  rw [PI.run]
  have hm : m < μ.length := by
    obtain ⟨_, _, h, _⟩ := hs
    exact (List.getElem?_eq_some_iff.mp h).1
  have ht : tk < μ.length := (List.getElem?_eq_some_iff.mp htk).1
  let m1 : Mem := μ ++ [Ob.lst []]
  have c1 : lstK [] μ = .ok (.loc μ.length) m1 := lst0 _
  obtain ⟨r, m2, q8, r0, r1, hs2, u2, l2⟩ := f8_ok (n + 1) m1 m 4 (hs.gr0 (Gr.app μ _)) (by decide) (by decide)
  have rg := rng_ok (k := 1 + r) (by omega) (by omega) m2
  have K2 : m2[μ.length]? = some (.lst []) := u2.get (by simp; omega) (get_last _ _)
  have tk2 : m2[tk]? = some (.lst ([] : List D)) := u2.get (by simp [hne]) ((Gr.app μ _).get htk)
  obtain ⟨z3, z4, z5, z6, z7, z8, z9, z10, z11, ws, ds, ks, μ', lp, hs3, u3, tk3, l3, K3, hv, kl, kg⟩ := f10_out (n := n) hs2 tk2 K2 hm ht hne (xs := rngD 0 (1 + r).toNat) (by rw [rng_len]; omega)
  rw [rng_len] at kl
  have uu : Up [m, tk] μ μ' := ((Up.app [m, tk] μ _).trans (u2.more (by simp))).high u3 (by
    intro i hi hlt
    simp at hi ⊢
    omega)
  have g : Gr [m, tk] μ μ' := St.gr uu fun i hi _ => by
    simp at hi
    rcases hi with rfl | rfl
    · exact hs3.solid
    · exact ⟨_, tk3, strs_solid ws⟩
  have fz : frz μ' μ.length (.loc μ.length) = some (.fl (ks.map kdD)) := by
    have := hv.fz.mono (n' := μ.length) (f' := 7) (by omega) (by decide) (Ex.refl _ _)
    unfold frz
    rw [frzW, frzN, if_neg (by omega), if_neg (by simp), K3]
    show (frzL _ ds).map _ = _
    rw [this.1]; rfl
  obtain ⟨t1, t2, t3⟩ := take_up uu
  refine ⟨ks, ws, _, ?_, hs3.up (t3 m hm), t1, t2, (t3 tk ht).trans tk3, l3, by omega, by omega, kg⟩
  show nrm .val μ (exL pr (PI.run pr (n + 2)) f10.body [some (.loc m), some (.loc tk), none, none, none, none, none, none, none, none, none, none, none] μ).out = _
  clear_value m1
  have lp : forGo [] (forStep pr (PI.run pr (n + 2)) (.nm 3) b10k) (rngD 0 (1 + r).toNat) [some (.loc m), some (.loc tk), some (.loc μ.length), none, none, none, none, none, none, none, none, none, none] m2 = _ := lp
  simp only [f10, c1, q8, add_int, rg, lp, bind_ok, into_ok, seq_nx, seq_rt, seq_bk, seq_ct, out_rt, out_nx, vrD_ok, tup1, tup2, tup3, tup4, tup5, lst0, lst1, lst2, lst3, chB_t, chB_f, okB_some, tr_bl, setK_ok, kOk_eq, notK_eq, isNK_eq, notNK_eq, intO_ok, seqK_eq, strK_eq, rngK_eq, dctK_eq, consK_eq, someK_eq, noneK_eq, subK_ok, dropK_eq, retK_eq, asgK_eq, asgTK_eq, sub3_eq, binK_eq, cmpK_eq, idxK_eq, slcK2_eq, slcK_eq, ifK_eq, callK_eq, lK_eq, andK_eq, orK_eq, eltK_eq, allK_eq, lcK_eq, sub2_eq, sub1_eq, ifS_eq, forK_eq, e_var, e_ci, e_cs, e_cb, e_cn, e_not, e_isN, e_notN, e_bin, e_cmp, e_ifx, e_tup, e_lst, e_dnew, e_idx, e_slc, e_call, e_bi, e_isi, e_bm, e_lc, l_nil, l_cons, o_none, o_some, and_one, and_two, or_one, or_two, all_nil, all_one, trB_bl, i_seq, i_str, i_rng, i_keys, i_items, s_nil, s_cons, s_asg, s_asgT, s_sub, s_exp, s_ret, s_retN, s_if, s_for, List.getElem?_cons_zero, List.getElem?_cons_succ, List.set_cons_zero, List.set_cons_succ, List.length_cons, List.length_nil, Nat.reduceAdd, Nat.reduceLT, if_true, Bool.not_true, Bool.not_false]
  exact nrm_frz g fz
end K32

/-! k32: the works drawn -/
namespace K32
open PySem PI
abbrev WkT := Str × List Str × Str
def wkD (w : WkT) : D := .tup [.str w.1, .fl (w.2.1.map D.str), .str w.2.2, .non, .fl []]
theorem idx_fl {xs : List D} {i : Int} {k : Nat} {d : D} (hi : i = (k : Nat)) (hk : xs[k]? = some d) (μ : Mem) : evIdx (.fl xs) (.int i) μ = .ok d μ := by
  subst hi
  have hl := (List.getElem?_eq_some_iff.mp hk).1
  unfold evIdx dctOf seqOf
  have : ixOf xs.length (k : Int) = some k := by
    unfold ixOf
    rw [if_pos (by omega), if_pos (by omega)]
    rfl
  dsimp only
  rw [this]
  show (match xs[k]? with
    | some v => R.ok v μ
    | none => .bad) = _
  rw [hk]
theorem len_fl (xs : List D) (μ : Mem) : evBI .len [.fl xs] μ = .ok (.int xs.length) μ := rfl
/-- the name of a kind drawn -/
theorem pick_ok {n m : Nat} {ks : List KdT} (h0 : 0 < ks.length) (h4 : ks.length ≤ 4) {σ : PI.Env} (s0 : σ[0]? = some (some (.loc m))) (s1 : σ[1]? = some (some (.fl (ks.map kdD)))) {μ : Mem} (hs : St μ m) :
    ∃ (s : Str) (μ' : Mem), evE pr (PI.run pr (n + 1)) (.idx (.idx (.var 1) (.call 8 [.var 0, .bi .len [.var 1]] .val)) (.ci 0)) σ μ = .ok (.str s) μ' ∧ s ∈ ks.map (·.1) ∧ St μ' m ∧ Up [m] μ μ' ∧ μ'.length = μ.length := by
  obtain ⟨r, μ', q, r0, r1, h1, h2, h3⟩ := f8_ok n μ m (ks.length : Nat) hs (by omega) (by omega)
  have hr : r.toNat < ks.length := by omega
  have ln := len_fl (ks.map kdD) μ
  rw [List.length_map] at ln
  have ix : evIdx (.fl (ks.map kdD)) (.int r) μ' = .ok (kdD ks[r.toNat]) μ' := idx_fl (k := r.toNat) (by omega) (by rw [List.getElem?_map, List.getElem?_eq_getElem hr]; rfl) μ'
  have i0 : evIdx (kdD ks[r.toNat]) (.int 0) μ' = .ok (.str ks[r.toNat].1) μ' := rfl
  refine ⟨ks[r.toNat].1, μ', ?_, List.mem_map.mpr ⟨_, List.getElem_mem hr, rfl⟩, h1, h2, h3⟩
  simp only [s0, s1, ln, q, ix, i0, bind_ok, into_ok, seq_nx, seq_rt, seq_bk, seq_ct, out_rt, out_nx, vrD_ok, tup1, tup2, tup3, tup4, tup5, lst0, lst1, lst2, lst3, chB_t, chB_f, okB_some, tr_bl, setK_ok, kOk_eq, notK_eq, isNK_eq, notNK_eq, intO_ok, seqK_eq, strK_eq, rngK_eq, dctK_eq, consK_eq, someK_eq, noneK_eq, subK_ok, dropK_eq, retK_eq, asgK_eq, asgTK_eq, sub3_eq, binK_eq, cmpK_eq, idxK_eq, slcK2_eq, slcK_eq, ifK_eq, callK_eq, lK_eq, andK_eq, orK_eq, eltK_eq, allK_eq, lcK_eq, sub2_eq, sub1_eq, ifS_eq, forK_eq, e_var, e_ci, e_cs, e_cb, e_cn, e_not, e_isN, e_notN, e_bin, e_cmp, e_ifx, e_tup, e_lst, e_dnew, e_idx, e_slc, e_call, e_bi, e_isi, e_bm, e_lc, l_nil, l_cons, o_none, o_some, and_one, and_two, or_one, or_two, all_nil, all_one, trB_bl, i_seq, i_str, i_rng, i_keys, i_items, s_nil, s_cons, s_asg, s_asgT, s_sub, s_exp, s_ret, s_retN, s_if, s_for, List.getElem?_cons_zero, List.getElem?_cons_succ, List.set_cons_zero, List.set_cons_succ, List.length_cons, List.length_nil, Nat.reduceAdd, Nat.reduceLT, if_true, Bool.not_true, Bool.not_false]
/-- what a work takes -/
theorem takes_ok {n m : Nat} {ks : List KdT} (h0 : 0 < ks.length) (h4 : ks.length ≤ 4) {a2 a3 a4 a5 a6 : Option D} {μ : Mem} (hs : St μ m) {xs : List D} (hl : xs.length ≤ 3) :
    ∃ (ss : List Str) (μ' : Mem), lcGo [] (lcStep pr (PI.run pr (n + 1)) [some (.loc m), some (.fl (ks.map kdD)), a2, a3, a4, a5, a6, none] (.idx (.idx (.var 1) (.call 8 [.var 0, .bi .len [.var 1]] .val)) (.ci 0)) (.nm 7) [] [7]) μ.length xs (μ ++ [.lst []]) = .ok (.loc μ.length) μ' ∧ St μ' m ∧ Up [m] μ μ' ∧ μ.length < μ'.length ∧ μ'[μ.length]? = some (.lst (ss.map D.str)) ∧ ss.length ≤ 3 ∧ ∀ s ∈ ss, s ∈ ks.map (·.1) := by
  have hm : m < μ.length := by
    obtain ⟨_, _, h, _⟩ := hs
    exact (List.getElem?_eq_some_iff.mp h).1
  let I : List D → List D → Mem → Prop := fun xs acc μ' => St μ' m ∧ Up [m] μ μ' ∧ μ'[μ.length]? = some (.lst acc) ∧ ∃ ss : List Str, acc = ss.map D.str ∧ (∀ s ∈ ss, s ∈ ks.map (·.1)) ∧ ss.length + xs.length ≤ 3
  obtain ⟨acc', μ', e, hs', u, h2, ss, rfl, h3, h5⟩ := lc_inv (src := []) (step := lcStep pr (PI.run pr (n + 1)) [some (.loc m), some (.fl (ks.map kdD)), a2, a3, a4, a5, a6, none] (.idx (.idx (.var 1) (.call 8 [.var 0, .bi .len [.var 1]] .val)) (.ci 0)) (.nm 7) [] [7]) (n := μ.length) I (fun xs acc μ' i => ⟨still_nil _, rfl, i.2.2.1⟩) (xs := xs) (acc := []) (μ := μ ++ [.lst []]) (by simp only [List.length_nil]; unfold lim; omega) ⟨hs.gr0 (Gr.app μ _), Up.app _ μ _, get_last _ _, [], rfl, fun _ h => absurd h List.not_mem_nil, by simp only [List.length_nil]; omega⟩ fun x xs acc μ1 i => by
    obtain ⟨hs, u, ha, ss, rfl, h3, h5⟩ := i
    rw [List.length_cons] at h5
    obtain ⟨s, μ2, q, hm', hs2, u2, l2⟩ := pick_ok (n := n) h0 h4 (σ := [some (.loc m), some (.fl (ks.map kdD)), a2, a3, a4, a5, a6, some x]) rfl rfl hs
    have ha2 := u2.get (by simp; omega) ha
    refine ⟨μ2, .inr ⟨.str s, ?_, ha2, hs2.up (List.getElem?_set_ne (by omega)), Up.low (μ' := μ) (u.trans u2) (Nat.le_refl _) _, List.getElem?_set_self (List.getElem?_eq_some_iff.mp ha2).1, ss ++ [s], by rw [List.map_append]; rfl, fun t ht => ?_, by rw [List.length_append, List.length_singleton]; omega⟩⟩
    · rw [lcStep_ok (σ' := [some (.loc m), some (.fl (ks.map kdD)), a2, a3, a4, a5, a6, some x]) pr _ _ _ rfl]
      simp only [all_nil, bind_ok, allK_eq, chB_t, eltK_eq, q, someK_eq]
    · rcases List.mem_append.mp ht with h | h
      · exact h3 t h
      · rw [List.mem_singleton.mp h]
        exact hm'
  exact ⟨ss, μ', e, hs', u, (List.getElem?_eq_some_iff.mp h2).1, h2, by omega, h3⟩
abbrev b11 : List S := [.asg (.g (.nm 5)) (.call 9 [.var 0, .var 2] .val),
    .exp (.bm .append (.var 2) [.var 5]),
    .asg (.g (.nm 6)) (.lc (.idx (.idx (.var 1) (.call 8 [.var 0, .bi .len [.var 1]] .val)) (.ci 0)) (.nm 7) (.rng [.call 8 [.var 0, .ci 4] .val]) [] [7]),
    .exp (.bm .append (.var 3) [.tup [.var 5, .var 6, .idx (.idx (.var 1) (.call 8 [.var 0, .bi .len [.var 1]] .val)) (.ci 0), .cn, .lst []]])]
/-- what is made from what, rightly -/
def Fit (names : List Str) (w : WkT) : Prop := w.2.1.length ≤ 3 ∧ (∀ s ∈ w.2.1, s ∈ names) ∧ w.2.2 ∈ names
theorem frz_wk {n f : Nat} {μ : Mem} {s k : Str} {c e : Nat} {ds ds' : List D} (hc : n ≤ c) (he : n ≤ e) (q : μ[c]? = some (.lst ds)) (q' : μ[e]? = some (.lst [])) (h : Fz n f μ ds ds') : frzW (frzN μ n none (f + 1)) (.tup [.str s, .loc c, .str k, .non, .loc e]) = some (.tup [.str s, .fl ds', .str k, .non, .fl []]) ∧ closed 0 (.tup [.str s, .fl ds', .str k, .non, .fl []]) = true := by
  have z : frzN μ n none (f + 1) c = some (.fl ds') := by
    rw [frzN, if_neg (by omega), if_neg (by simp), q]
    show (frzL _ ds).map _ = _
    rw [h.1]; rfl
  have z' : frzN μ n none (f + 1) e = some (.fl []) := by
    rw [frzN, if_neg (by omega), if_neg (by simp), q']
    rfl
  refine ⟨?_, ?_⟩
  · simp only [frzW, frzL, z, z']; rfl
  · simp only [closed, closedL, h.2]; rfl
theorem f11_loop {n m tk W : Nat} {ks : List KdT} (h0 : 0 < ks.length) (h4 : ks.length ≤ 4) {μ : Mem} {ws : List Str} (hs : St μ m) (htk : μ[tk]? = some (.lst (ws.map D.str))) (hW : μ[W]? = some (.lst [])) (n1 : m < W) (n2 : tk < W) (n3 : tk ≠ m) {xs : List D} (hl : xs.length ≤ 4) (hw : ws.length + xs.length ≤ 20) :
    ∃ (z4 z5 z6 : Option D) (ds : List D) (wks : List WkT) (ws' : List Str) (μ' : Mem), forGo [] (forStep pr (PI.run pr (n + 2)) (.nm 4) b11) xs [some (.loc m), some (.fl (ks.map kdD)), some (.loc tk), some (.loc W), none, none, none, none] μ = .nx [some (.loc m), some (.fl (ks.map kdD)), some (.loc tk), some (.loc W), z4, z5, z6, none] μ' ∧ St μ' m ∧ Up [m, tk, W] μ μ' ∧ μ'[tk]? = some (.lst (ws'.map D.str)) ∧ μ'[W]? = some (.lst ds) ∧ Fz (W + 1) 2 μ' ds (wks.map wkD) ∧ wks.length ≤ 4 ∧ ∀ w ∈ wks, Fit (ks.map (·.1)) w := by
  let I : List D → PI.Env → Mem → Prop := fun ys σ μ' => ∃ (z4 z5 z6 : Option D) (ds : List D) (wks : List WkT) (ws' : List Str), σ = [some (.loc m), some (.fl (ks.map kdD)), some (.loc tk), some (.loc W), z4, z5, z6, none] ∧ St μ' m ∧ Up [m, tk, W] μ μ' ∧ μ'[tk]? = some (.lst (ws'.map D.str)) ∧ ws'.length + ys.length ≤ 20 ∧ μ'[W]? = some (.lst ds) ∧ Fz (W + 1) 2 μ' ds (wks.map wkD) ∧ wks.length + ys.length ≤ 4 ∧ ds.length + ys.length ≤ 4 ∧ ∀ w ∈ wks, Fit (ks.map (·.1)) w
  obtain ⟨σ', μ', e, z4, z5, z6, ds, wks, ws', rfl, h1, h2, h3, _, h5, h6, h7, _, h8⟩ := for_inv (src := []) (step := forStep pr (PI.run pr (n + 2)) (.nm 4) b11) I (fun _ _ _ _ => ⟨still_nil _, rfl⟩) (xs := xs) (μ := μ) (σ := [some (.loc m), some (.fl (ks.map kdD)), some (.loc tk), some (.loc W), none, none, none, none]) ⟨none, none, none, [], [], ws, rfl, hs, Up.refl _ _, htk, hw, hW, Fz.nil, by simp only [List.length_nil]; omega, by simp only [List.length_nil]; omega, fun _ h => absurd h List.not_mem_nil⟩ fun x ys σ μ1 i => by
    obtain ⟨z4, z5, z6, ds, wks, ws', rfl, hs, u, htk, hw, hW, hf, h7, h7', h8⟩ := i
    rw [List.length_cons] at hw h7 h7'
    have hWl := (List.getElem?_eq_some_iff.mp hW).1
    obtain ⟨w, μ2, q9, hs2, u2, l2⟩ := f9_ok n μ1 m tk ws' hs htk n3 (by omega)
    have tk2 := u2.get (by simp [n3]) htk
    have ap2 := app_ev tk2 (by rw [List.length_map]; omega) (.str w)
    have ls2 := lst_ev tk2
    let μ3 : Mem := μ2.set tk (.lst (ws'.map D.str ++ [.str w]))
    have ap2 : evBM .append (.loc tk) [.str w] μ2 = .ok .non μ3 := ap2
    have l3 : μ3.length = μ2.length := List.length_set
    have u3 : Up [m, tk, W] μ1 μ3 := (u2.more (by simp)).trans (Up.set (by simp) _ _)
    have tk3 : μ3[tk]? = some (.lst ((ws' ++ [w]).map D.str)) := by
      rw [List.map_append]
      exact List.getElem?_set_self (List.getElem?_eq_some_iff.mp tk2).1
    have hs3 : St μ3 m := hs2.up (List.getElem?_set_ne n3)
    have W3 : μ3[W]? = some (.lst ds) := by
      show (μ2.set tk _)[W]? = _
      rw [List.getElem?_set_ne (by omega)]
      exact u2.get (by simp; omega) hW
    obtain ⟨r, μ4, q8, r0, r1, hs4, u4, l4⟩ := f8_ok (n + 1) μ3 m 4 hs3 (by decide) (by decide)
    have rg := rng_ok r0 (by omega) μ4
    obtain ⟨ss, μ5, lc, hs5, u5, l5, T5, h9, h10⟩ := takes_ok (n := n + 1) h0 h4 (a2 := some (.loc tk)) (a3 := some (.loc W)) (a4 := some x) (a5 := some (.str w)) (a6 := z6) hs4 (xs := rngD 0 r.toNat) (by rw [rng_len]; omega)
    obtain ⟨k, μ6, pk, hk, hs6, u6, l6⟩ := pick_ok (n := n + 1) h0 h4 (σ := [some (.loc m), some (.fl (ks.map kdD)), some (.loc tk), some (.loc W), some x, some (.str w), some (.loc μ4.length), none]) rfl rfl hs5
    let μ7 : Mem := μ6 ++ [Ob.lst []]
    have c7 : lstK [] μ6 = .ok (.loc μ6.length) μ7 := lst0 _
    have W5 : μ5[W]? = some (.lst ds) := u5.get (by simp; omega) (u4.get (by simp; omega) W3)
    have ls5 := lst_ev W5
    have W7 : μ7[W]? = some (.lst ds) := (Gr.app μ6 _).get (u6.get (by simp; omega) W5)
    have u7 : Up [m, tk, W] μ1 μ7 := (((u3.trans (u4.more (by simp))).trans (u5.more (by simp))).trans (u6.more (by simp))).trans (Up.app _ _ _)
    have tk7 : μ7[tk]? = some (.lst ((ws' ++ [w]).map D.str)) := (Gr.app μ6 _).get (u6.get (by simp [n3]) (u5.get (by simp [n3]) (u4.get (by simp [n3]) tk3)))
    have T7 : μ7[μ4.length]? = some (.lst (ss.map D.str)) := (Gr.app μ6 _).get (u6.get (by simp; omega) T5)
    have E7 : μ7[μ6.length]? = some (.lst []) := get_last _ _
    let μ8 : Mem := μ7.set W (.lst (ds ++ [.tup [.str w, .loc μ4.length, .str k, .non, .loc μ6.length]]))
    have ap8 : evBM .append (.loc W) [.tup [.str w, .loc μ4.length, .str k, .non, .loc μ6.length]] μ7 = .ok .non μ8 := app_ev W7 (by omega) _
    have u8 : Up [m, tk, W] μ1 μ8 := u7.trans (Up.set (by simp) _ _)
    have T8 : μ8[μ4.length]? = some (.lst (ss.map D.str)) := by
      show (μ7.set W _)[_]? = _
      rw [List.getElem?_set_ne (by omega)]
      exact T7
    have E8 : μ8[μ6.length]? = some (.lst []) := by
      show (μ7.set W _)[_]? = _
      rw [List.getElem?_set_ne (by omega)]
      exact E7
    obtain ⟨p1, p2⟩ := frz_wk (n := W + 1) (f := 1) (s := w) (k := k) (by omega) (by omega) T8 E8 (Fz.strs ss)
    have f8 := (hf.mono (Nat.le_refl _) (Nat.le_refl _) (u8.ex (by simp; omega))).snoc p1 p2
    refine ⟨[some (.loc m), some (.fl (ks.map kdD)), some (.loc tk), some (.loc W), some x, some (.str w), some (.loc μ4.length), none], μ8, .inl ?_, _, _, _, ds ++ [.tup [.str w, .loc μ4.length, .str k, .non, .loc μ6.length]], wks ++ [(w, ss, k)], ws' ++ [w], rfl, (hs6.gr0 (Gr.app _ _)).up (List.getElem?_set_ne (by omega)), u.trans u8, ?_, by rw [List.length_append, List.length_singleton]; omega, List.getElem?_set_self (List.getElem?_eq_some_iff.mp W7).1, ?_, by rw [List.length_append, List.length_singleton]; omega, by rw [List.length_append, List.length_singleton]; omega, ?_⟩
    · rw [forStep_ok (σ' := [some (.loc m), some (.fl (ks.map kdD)), some (.loc tk), some (.loc W), some x, z5, z6, none]) pr _ _ _ rfl]
      clear_value μ3 μ7 μ8
      rw [e_idx] at pk
      simp only [bind_ok, into_ok, seq_nx, seq_rt, seq_bk, seq_ct, out_rt, out_nx, vrD_ok, tup1, tup2, tup3, tup4, tup5, lst0, lst1, lst2, lst3, chB_t, chB_f, okB_some, tr_bl, setK_ok, kOk_eq, notK_eq, isNK_eq, notNK_eq, intO_ok, seqK_eq, strK_eq, rngK_eq, dctK_eq, consK_eq, someK_eq, noneK_eq, subK_ok, dropK_eq, retK_eq, asgK_eq, asgTK_eq, sub3_eq, binK_eq, cmpK_eq, idxK_eq, slcK2_eq, slcK_eq, ifK_eq, callK_eq, lK_eq, andK_eq, orK_eq, eltK_eq, allK_eq, lcK_eq, sub2_eq, sub1_eq, ifS_eq, forK_eq, e_var, e_ci, e_cs, e_cb, e_cn, e_not, e_isN, e_notN, e_bin, e_cmp, e_ifx, e_tup, e_lst, e_dnew, e_idx, e_slc, e_call, e_bi, e_isi, e_bm, e_lc, l_nil, l_cons, o_none, o_some, and_one, and_two, or_one, or_two, all_nil, all_one, trB_bl, i_seq, i_str, i_rng, i_keys, i_items, s_nil, s_cons, s_asg, s_asgT, s_sub, s_exp, s_ret, s_retN, s_if, s_for, List.getElem?_cons_zero, List.getElem?_cons_succ, List.set_cons_zero, List.set_cons_succ, List.length_cons, List.length_nil, Nat.reduceAdd, Nat.reduceLT, if_true, Bool.not_true, Bool.not_false] at pk
      simp only [q9, bmK_ok pr _ _ ls2, ap2, q8, rg, lc, bmK_ok pr _ _ ls5, pk, c7, ap8, bind_ok, into_ok, seq_nx, seq_rt, seq_bk, seq_ct, out_rt, out_nx, vrD_ok, tup1, tup2, tup3, tup4, tup5, lst0, lst1, lst2, lst3, chB_t, chB_f, okB_some, tr_bl, setK_ok, kOk_eq, notK_eq, isNK_eq, notNK_eq, intO_ok, seqK_eq, strK_eq, rngK_eq, dctK_eq, consK_eq, someK_eq, noneK_eq, subK_ok, dropK_eq, retK_eq, asgK_eq, asgTK_eq, sub3_eq, binK_eq, cmpK_eq, idxK_eq, slcK2_eq, slcK_eq, ifK_eq, callK_eq, lK_eq, andK_eq, orK_eq, eltK_eq, allK_eq, lcK_eq, sub2_eq, sub1_eq, ifS_eq, forK_eq, e_var, e_ci, e_cs, e_cb, e_cn, e_not, e_isN, e_notN, e_bin, e_cmp, e_ifx, e_tup, e_lst, e_dnew, e_idx, e_slc, e_call, e_bi, e_isi, e_bm, e_lc, l_nil, l_cons, o_none, o_some, and_one, and_two, or_one, or_two, all_nil, all_one, trB_bl, i_seq, i_str, i_rng, i_keys, i_items, s_nil, s_cons, s_asg, s_asgT, s_sub, s_exp, s_ret, s_retN, s_if, s_for, List.getElem?_cons_zero, List.getElem?_cons_succ, List.set_cons_zero, List.set_cons_succ, List.length_cons, List.length_nil, Nat.reduceAdd, Nat.reduceLT, if_true, Bool.not_true, Bool.not_false]
    · show (μ7.set W _)[tk]? = _
      rw [List.getElem?_set_ne (by omega)]
      exact tk7
    · rw [List.map_append]; exact f8
    · intro p hp
      rcases List.mem_append.mp hp with h | h
      · exact h8 p h
      · rw [List.mem_singleton.mp h]
        exact ⟨h9, h10, hk⟩
  exact ⟨z4, z5, z6, ds, wks, ws', μ', e, h1, h2, h3, h5, h6, by simpa using h7, h8⟩
end K32

/-! k32: what makes what -/
namespace K32
open PySem PI
theorem wk_solid (w : WkT) : closed 0 (wkD w) = true := by
  unfold wkD
  simp only [closed, closedL, strs_solid]
  rfl
theorem f11_ok (n : Nat) (μ : Mem) (m tk : Nat) {ks : List KdT} (h0 : 0 < ks.length) (h4 : ks.length ≤ 4) {ws : List Str} (hs : St μ m) (htk : μ[tk]? = some (.lst (ws.map D.str))) (hne : tk ≠ m) (hw : ws.length ≤ 16) :
    ∃ (wks : List WkT) (μ' : Mem), nrm .val μ (PI.run pr (n + 3) 11 [.loc m, .fl (ks.map kdD), .loc tk] μ) = .ok (.fl (wks.map wkD)) μ' ∧ St μ' m ∧ Up [m, tk] μ μ' ∧ μ'.length = μ.length ∧ wks.length ≤ 4 ∧ ∀ w ∈ wks, Fit (ks.map (·.1)) w := by
  rw [PI.run]
  have hm : m < μ.length := by
    obtain ⟨_, _, h, _⟩ := hs
    exact (List.getElem?_eq_some_iff.mp h).1
  have ht : tk < μ.length := (List.getElem?_eq_some_iff.mp htk).1
  let m1 : Mem := μ ++ [Ob.lst []]
  have c1 : lstK [] μ = .ok (.loc μ.length) m1 := lst0 _
  obtain ⟨r, m2, q8, r0, r1, hs2, u2, l2⟩ := f8_ok (n + 1) m1 m 5 (hs.gr0 (Gr.app μ _)) (by decide) (by decide)
  have rg := rng_ok r0 (by omega) m2
  have W2 : m2[μ.length]? = some (.lst []) := u2.get (by simp; omega) (get_last _ _)
  have tk2 := u2.get (by simp [hne]) ((Gr.app μ [Ob.lst []]).get htk)
  obtain ⟨z4, z5, z6, ds, wks, ws', μ', lp, hs3, u3, tk3, W3, fz3, l3, fit⟩ := f11_loop (n := n) h0 h4 hs2 tk2 W2 hm ht hne (xs := rngD 0 r.toNat) (by rw [rng_len]; omega) (by rw [rng_len]; omega)
  have uu : Up [m, tk] μ μ' := ((Up.app [m, tk] μ _).trans (u2.more (by simp))).high u3 (by
    intro i hi hlt
    simp at hi ⊢
    omega)
  have g : Gr [m, tk] μ μ' := St.gr uu fun i hi _ => by
    simp at hi
    rcases hi with rfl | rfl
    · exact hs3.solid
    · exact ⟨_, tk3, strs_solid ws'⟩
  have fz : frz μ' μ.length (.loc μ.length) = some (.fl (wks.map wkD)) := by
    have := fz3.mono (n' := μ.length) (f' := 7) (by omega) (by decide) (Ex.refl _ _)
    unfold frz
    rw [frzW, frzN, if_neg (by omega), if_neg (by simp), W3]
    show (frzL _ ds).map _ = _
    rw [this.1]; rfl
  obtain ⟨t1, t2, t3⟩ := take_up uu
  refine ⟨wks, _, ?_, hs3.up (t3 m hm), t1, t2, l3, fit⟩
  show nrm .val μ (exL pr (PI.run pr (n + 2)) f11.body [some (.loc m), some (.fl (ks.map kdD)), some (.loc tk), none, none, none, none, none] μ).out = _
  clear_value m1
  simp only [f11, c1, q8, rg, lp, bind_ok, into_ok, seq_nx, seq_rt, seq_bk, seq_ct, out_rt, out_nx, vrD_ok, tup1, tup2, tup3, tup4, tup5, lst0, lst1, lst2, lst3, chB_t, chB_f, okB_some, tr_bl, setK_ok, kOk_eq, notK_eq, isNK_eq, notNK_eq, intO_ok, seqK_eq, strK_eq, rngK_eq, dctK_eq, consK_eq, someK_eq, noneK_eq, subK_ok, dropK_eq, retK_eq, asgK_eq, asgTK_eq, sub3_eq, binK_eq, cmpK_eq, idxK_eq, slcK2_eq, slcK_eq, ifK_eq, callK_eq, lK_eq, andK_eq, orK_eq, eltK_eq, allK_eq, lcK_eq, sub2_eq, sub1_eq, ifS_eq, forK_eq, e_var, e_ci, e_cs, e_cb, e_cn, e_not, e_isN, e_notN, e_bin, e_cmp, e_ifx, e_tup, e_lst, e_dnew, e_idx, e_slc, e_call, e_bi, e_isi, e_bm, e_lc, l_nil, l_cons, o_none, o_some, and_one, and_two, or_one, or_two, all_nil, all_one, trB_bl, i_seq, i_str, i_rng, i_keys, i_items, s_nil, s_cons, s_asg, s_asgT, s_sub, s_exp, s_ret, s_retN, s_if, s_for, List.getElem?_cons_zero, List.getElem?_cons_succ, List.set_cons_zero, List.set_cons_succ, List.length_cons, List.length_nil, Nat.reduceAdd, Nat.reduceLT, if_true, Bool.not_true, Bool.not_false]
  exact nrm_frz g fz
/-! ### the dict -/
def mvD (w : WkT) : D × D := (.str w.1, .tup [.fl (w.2.1.map D.str), .str w.2.2])
theorem mv_solid : ∀ ps : List WkT, closedP 0 (ps.map mvD) = true
  | [] => rfl
  | p :: ps => by
    rw [List.map_cons, closedP, mv_solid ps]
    unfold mvD
    simp only [closed, closedL, strs_solid]
    rfl
def puts (f : Str) (ts : List Str) (k : Str) (ps : List WkT) : List WkT := if (ps.any fun p => p.1 == f) = true then ps.map (fun p => if (p.1 == f) = true then (p.1, ts, k) else p) else ps ++ [(f, ts, k)]
theorem puts_eq (f : Str) (ts : List Str) (k : Str) (ps : List WkT) : putD (.str f) (.tup [.fl (ts.map D.str), .str k]) (ps.map mvD) = (puts f ts k ps).map mvD := by
  unfold putD puts
  have e : (ps.map mvD).any (fun p => eqF p.1 (.str f)) = ps.any fun p => p.1 == f := by
    rw [List.any_map]; rfl
  rw [e]
  split
  · rw [List.map_map, List.map_map]
    apply List.map_congr_left
    intro p _
    show (if (p.1 == f) = true then _ else _) = mvD (if (p.1 == f) = true then _ else _)
    split <;> rfl
  · rw [List.map_append]; rfl
theorem puts_len (f : Str) (ts : List Str) (k : Str) (ps : List WkT) : (puts f ts k ps).length ≤ ps.length + 1 := by
  unfold puts
  split
  · rw [List.length_map]; omega
  · rw [List.length_append]; simp
theorem puts_fit {names : List Str} {f : Str} {ts : List Str} {k : Str} {ps : List WkT} (h : ∀ p ∈ ps, Fit names p) (h' : Fit names (f, ts, k)) : ∀ p ∈ puts f ts k ps, Fit names p := by
  unfold puts
  split
  · intro p hp
    obtain ⟨q, hq, rfl⟩ := List.mem_map.mp hp
    split
    · exact h'
    · exact h q hq
  · intro p hp
    rcases List.mem_append.mp hp with g | g
    · exact h p g
    · rw [List.mem_singleton.mp g]; exact h'
theorem put_last (μ : Mem) (f : Str) (ts : List Str) (k : Str) {ps : List WkT} (hl : ps.length ≤ 100) : setSub (.loc μ.length) (.str f) (.tup [.fl (ts.map D.str), .str k]) (μ ++ [Ob.dct .k (ps.map mvD)]) = some (μ ++ [Ob.dct .k ((puts f ts k ps).map mvD)]) := by
  unfold setSub
  simp only [get_last]
  rw [if_pos (by rw [Bool.and_eq_true, decide_eq_true_iff, List.length_map]; exact ⟨rfl, by unfold lim; omega⟩), set_last, puts_eq]
abbrev b12a : List S := [.asg (.sub (.var 2) (.var 5)) (.tup [.var 6, .var 3])]
abbrev b12b : List S := [.for_ (.tup [.nm 5, .nm 6]) (.seq (.var 4)) b12a]
abbrev b12c : List S := [.asg (.sub (.var 2) (.idx (.var 7) (.ci 0))) (.tup [.idx (.var 7) (.ci 1), .idx (.var 7) (.ci 2)])]
theorem f12_a {C : Calls} {names : List Str} (μ : Mem) (a0 a1 a4 a7 : Option D) {kind : Str} (hk : kind ∈ names) : ∀ (ms : List MkT) (ps : List WkT) (z5 z6 : Option D), Good names ms → (∀ p ∈ ps, Fit names p) → ps.length + ms.length ≤ 50 →
    ∃ z5' z6' ps', forGo [] (forStep pr C (.tup [.nm 5, .nm 6]) b12a) (ms.map mkD) [a0, a1, some (.loc μ.length), some (.str kind), a4, z5, z6, a7] (μ ++ [Ob.dct .k (ps.map mvD)]) = .nx [a0, a1, some (.loc μ.length), some (.str kind), a4, z5', z6', a7] (μ ++ [Ob.dct .k (List.map mvD ps')]) ∧ (∀ p ∈ ps', Fit names p) ∧ ps'.length ≤ ps.length + ms.length
  | [], ps, z5, z6, _, h, _ => ⟨z5, z6, ps, by rw [List.map_nil, forGo_nilS (still_nil _) rfl], h, by simp⟩
  | q :: ms, ps, z5, z6, g, h, hl => by
    rw [List.length_cons] at hl
    have gq := g q List.mem_cons_self
    have p1 := puts_len q.1 q.2 kind ps
    obtain ⟨z5', z6', ps', e, h1, h2⟩ := f12_a (C := C) μ a0 a1 a4 a7 hk ms (puts q.1 q.2 kind ps) (some (.str q.1)) (some (.fl (q.2.map D.str))) (fun p m => g p (List.mem_cons_of_mem _ m)) (puts_fit h ⟨by have := gq.1; show q.2.length ≤ 3; omega, gq.2, hk⟩) (by omega)
    refine ⟨z5', z6', ps', ?_, h1, by rw [List.length_cons]; omega⟩
    have st := put_last μ q.1 q.2 kind (ps := ps) (by omega)
    rw [List.map_cons, forGo_consS (σ' := [a0, a1, some (.loc μ.length), some (.str kind), a4, some (.str q.1), some (.fl (q.2.map D.str)), a7]) (μ' := μ ++ [Ob.dct .k ((puts q.1 q.2 kind ps).map mvD)]) (still_nil _), e]
    rw [forStep_ok (σ' := [a0, a1, some (.loc μ.length), some (.str kind), a4, some (.str q.1), some (.fl (q.2.map D.str)), a7]) pr _ _ _ rfl]
    simp only [st, bind_ok, into_ok, seq_nx, seq_rt, seq_bk, seq_ct, out_rt, out_nx, vrD_ok, tup1, tup2, tup3, tup4, tup5, lst0, lst1, lst2, lst3, chB_t, chB_f, okB_some, tr_bl, setK_ok, kOk_eq, notK_eq, isNK_eq, notNK_eq, intO_ok, seqK_eq, strK_eq, rngK_eq, dctK_eq, consK_eq, someK_eq, noneK_eq, subK_ok, dropK_eq, retK_eq, asgK_eq, asgTK_eq, sub3_eq, binK_eq, cmpK_eq, idxK_eq, slcK2_eq, slcK_eq, ifK_eq, callK_eq, lK_eq, andK_eq, orK_eq, eltK_eq, allK_eq, lcK_eq, sub2_eq, sub1_eq, ifS_eq, forK_eq, e_var, e_ci, e_cs, e_cb, e_cn, e_not, e_isN, e_notN, e_bin, e_cmp, e_ifx, e_tup, e_lst, e_dnew, e_idx, e_slc, e_call, e_bi, e_isi, e_bm, e_lc, l_nil, l_cons, o_none, o_some, and_one, and_two, or_one, or_two, all_nil, all_one, trB_bl, i_seq, i_str, i_rng, i_keys, i_items, s_nil, s_cons, s_asg, s_asgT, s_sub, s_exp, s_ret, s_retN, s_if, s_for, List.getElem?_cons_zero, List.getElem?_cons_succ, List.set_cons_zero, List.set_cons_succ, List.length_cons, List.length_nil, Nat.reduceAdd, Nat.reduceLT, if_true, Bool.not_true, Bool.not_false]
theorem f12_b {C : Calls} {names : List Str} (μ : Mem) (a0 a1 a7 : Option D) : ∀ (ks : List KdT) (ps : List WkT) (z3 z4 z5 z6 : Option D), (∀ k ∈ ks, k.1 ∈ names ∧ k.2.length ≤ 3 ∧ Good names k.2) → (∀ p ∈ ps, Fit names p) → ps.length + 3 * ks.length ≤ 40 →
    ∃ z3' z4' z5' z6' ps', forGo [] (forStep pr C (.tup [.nm 3, .nm 4]) b12b) (ks.map kdD) [a0, a1, some (.loc μ.length), z3, z4, z5, z6, a7] (μ ++ [Ob.dct .k (ps.map mvD)]) = .nx [a0, a1, some (.loc μ.length), z3', z4', z5', z6', a7] (μ ++ [Ob.dct .k (List.map mvD ps')]) ∧ (∀ p ∈ ps', Fit names p) ∧ ps'.length ≤ ps.length + 3 * ks.length
  | [], ps, z3, z4, z5, z6, _, h, _ => ⟨z3, z4, z5, z6, ps, by rw [List.map_nil, forGo_nilS (still_nil _) rfl], h, by simp⟩
  | k :: ks, ps, z3, z4, z5, z6, g, h, hl => by
    rw [List.length_cons] at hl
    obtain ⟨g1, g2, g3⟩ := g k List.mem_cons_self
    obtain ⟨y5, y6, ps1, e1, h1, l1⟩ := f12_a (C := C) μ a0 a1 (some (.fl (k.2.map mkD))) a7 g1 k.2 ps z5 z6 g3 h (by omega)
    obtain ⟨z3', z4', z5', z6', ps', e, h2, l2⟩ := f12_b (C := C) μ a0 a1 a7 ks ps1 (some (.str k.1)) (some (.fl (k.2.map mkD))) y5 y6 (fun p m => g p (List.mem_cons_of_mem _ m)) h1 (by omega)
    refine ⟨z3', z4', z5', z6', ps', ?_, h2, by rw [List.length_cons]; omega⟩
    have it : itSeq (μ ++ [Ob.dct .k (ps.map mvD)]) (.fl (k.2.map mkD)) = .ok (k.2.map mkD, []) (μ ++ [Ob.dct .k (ps.map mvD)]) := rfl
    rw [List.map_cons, forGo_consS (σ' := [a0, a1, some (.loc μ.length), some (.str k.1), some (.fl (k.2.map mkD)), y5, y6, a7]) (μ' := μ ++ [Ob.dct .k (ps1.map mvD)]) (still_nil _), e]
    rw [forStep_ok (σ' := [a0, a1, some (.loc μ.length), some (.str k.1), some (.fl (k.2.map mkD)), z5, z6, a7]) pr _ _ _ rfl]
    simp only [it, e1, bind_ok, into_ok, seq_nx, seq_rt, seq_bk, seq_ct, out_rt, out_nx, vrD_ok, tup1, tup2, tup3, tup4, tup5, lst0, lst1, lst2, lst3, chB_t, chB_f, okB_some, tr_bl, setK_ok, kOk_eq, notK_eq, isNK_eq, notNK_eq, intO_ok, seqK_eq, strK_eq, rngK_eq, dctK_eq, consK_eq, someK_eq, noneK_eq, subK_ok, dropK_eq, retK_eq, asgK_eq, asgTK_eq, sub3_eq, binK_eq, cmpK_eq, idxK_eq, slcK2_eq, slcK_eq, ifK_eq, callK_eq, lK_eq, andK_eq, orK_eq, eltK_eq, allK_eq, lcK_eq, sub2_eq, sub1_eq, ifS_eq, forK_eq, e_var, e_ci, e_cs, e_cb, e_cn, e_not, e_isN, e_notN, e_bin, e_cmp, e_ifx, e_tup, e_lst, e_dnew, e_idx, e_slc, e_call, e_bi, e_isi, e_bm, e_lc, l_nil, l_cons, o_none, o_some, and_one, and_two, or_one, or_two, all_nil, all_one, trB_bl, i_seq, i_str, i_rng, i_keys, i_items, s_nil, s_cons, s_asg, s_asgT, s_sub, s_exp, s_ret, s_retN, s_if, s_for, List.getElem?_cons_zero, List.getElem?_cons_succ, List.set_cons_zero, List.set_cons_succ, List.length_cons, List.length_nil, Nat.reduceAdd, Nat.reduceLT, if_true, Bool.not_true, Bool.not_false]
theorem f12_c {C : Calls} {names : List Str} (μ : Mem) (a0 a1 a3 a4 a5 a6 : Option D) : ∀ (wks : List WkT) (ps : List WkT) (z7 : Option D), (∀ w ∈ wks, Fit names w) → (∀ p ∈ ps, Fit names p) → ps.length + wks.length ≤ 50 →
    ∃ z7' ps', forGo [] (forStep pr C (.nm 7) b12c) (wks.map wkD) [a0, a1, some (.loc μ.length), a3, a4, a5, a6, z7] (μ ++ [Ob.dct .k (ps.map mvD)]) = .nx [a0, a1, some (.loc μ.length), a3, a4, a5, a6, z7'] (μ ++ [Ob.dct .k (List.map mvD ps')]) ∧ (∀ p ∈ ps', Fit names p) ∧ ps'.length ≤ ps.length + wks.length
  | [], ps, z7, _, h, _ => ⟨z7, ps, by rw [List.map_nil, forGo_nilS (still_nil _) rfl], h, by simp⟩
  | w :: wks, ps, z7, g, h, hl => by
    rw [List.length_cons] at hl
    have p1 := puts_len w.1 w.2.1 w.2.2 ps
    obtain ⟨z7', ps', e, h1, h2⟩ := f12_c (C := C) μ a0 a1 a3 a4 a5 a6 wks (puts w.1 w.2.1 w.2.2 ps) (some (wkD w)) (fun p m => g p (List.mem_cons_of_mem _ m)) (puts_fit h (g w List.mem_cons_self)) (by omega)
    refine ⟨z7', ps', ?_, h1, by rw [List.length_cons]; omega⟩
    have st := put_last μ w.1 w.2.1 w.2.2 (ps := ps) (by omega)
    have i0 : ∀ μ, evIdx (wkD w) (.int 0) μ = .ok (.str w.1) μ := fun _ => rfl
    have i1 : ∀ μ, evIdx (wkD w) (.int 1) μ = .ok (.fl (w.2.1.map D.str)) μ := fun _ => rfl
    have i2 : ∀ μ, evIdx (wkD w) (.int 2) μ = .ok (.str w.2.2) μ := fun _ => rfl
    rw [List.map_cons, forGo_consS (σ' := [a0, a1, some (.loc μ.length), a3, a4, a5, a6, some (wkD w)]) (μ' := μ ++ [Ob.dct .k ((puts w.1 w.2.1 w.2.2 ps).map mvD)]) (still_nil _), e]
    rw [forStep_ok (σ' := [a0, a1, some (.loc μ.length), a3, a4, a5, a6, some (wkD w)]) pr _ _ _ rfl]
    simp only [i0, i1, i2, st, bind_ok, into_ok, seq_nx, seq_rt, seq_bk, seq_ct, out_rt, out_nx, vrD_ok, tup1, tup2, tup3, tup4, tup5, lst0, lst1, lst2, lst3, chB_t, chB_f, okB_some, tr_bl, setK_ok, kOk_eq, notK_eq, isNK_eq, notNK_eq, intO_ok, seqK_eq, strK_eq, rngK_eq, dctK_eq, consK_eq, someK_eq, noneK_eq, subK_ok, dropK_eq, retK_eq, asgK_eq, asgTK_eq, sub3_eq, binK_eq, cmpK_eq, idxK_eq, slcK2_eq, slcK_eq, ifK_eq, callK_eq, lK_eq, andK_eq, orK_eq, eltK_eq, allK_eq, lcK_eq, sub2_eq, sub1_eq, ifS_eq, forK_eq, e_var, e_ci, e_cs, e_cb, e_cn, e_not, e_isN, e_notN, e_bin, e_cmp, e_ifx, e_tup, e_lst, e_dnew, e_idx, e_slc, e_call, e_bi, e_isi, e_bm, e_lc, l_nil, l_cons, o_none, o_some, and_one, and_two, or_one, or_two, all_nil, all_one, trB_bl, i_seq, i_str, i_rng, i_keys, i_items, s_nil, s_cons, s_asg, s_asgT, s_sub, s_exp, s_ret, s_retN, s_if, s_for, List.getElem?_cons_zero, List.getElem?_cons_succ, List.set_cons_zero, List.set_cons_succ, List.length_cons, List.length_nil, Nat.reduceAdd, Nat.reduceLT, if_true, Bool.not_true, Bool.not_false]
theorem f12_ok (n : Nat) (μ : Mem) {ks : List KdT} {wks : List WkT} (h4 : ks.length ≤ 4) (hk : ∀ k ∈ ks, k.2.length ≤ 3 ∧ Good (ks.map (·.1)) k.2) (hw : ∀ w ∈ wks, Fit (ks.map (·.1)) w) (hl : wks.length ≤ 4) :
    ∃ ps : List WkT, nrm .val μ (PI.run pr (n + 1) 12 [.fl (ks.map kdD), .fl (wks.map wkD)] μ) = .ok (.fd .k (ps.map mvD)) μ ∧ (∀ p ∈ ps, Fit (ks.map (·.1)) p) ∧ ps.length ≤ 16 := by
  rw [PI.run]
  obtain ⟨z3, z4, z5, z6, ps, e1, h1, l1⟩ := f12_b (C := PI.run pr n) (names := ks.map (·.1)) μ (some (.fl (ks.map kdD))) (some (.fl (wks.map wkD))) none ks [] none none none none (fun k m => ⟨List.mem_map.mpr ⟨k, m, rfl⟩, hk k m⟩) (fun _ h => absurd h List.not_mem_nil) (by simp only [List.length_nil]; omega)
  obtain ⟨z7, ps', e2, h2, l2⟩ := f12_c (C := PI.run pr n) (names := ks.map (·.1)) μ (some (.fl (ks.map kdD))) (some (.fl (wks.map wkD))) z3 z4 z5 z6 wks ps none hw h1 (by simp only [List.length_nil] at l1; omega)
  have t1 : ∀ μ xs, itSeq μ (.fl xs) = .ok (xs, []) μ := fun _ _ => rfl
  have e1 : forGo [] (forStep pr (PI.run pr n) (.tup [.nm 3, .nm 4]) b12b) (ks.map kdD) [some (.fl (ks.map kdD)), some (.fl (wks.map wkD)), some (.loc μ.length), none, none, none, none, none] (μ ++ [Ob.dct .k []]) = _ := e1
  refine ⟨ps', ?_, h2, by simp only [List.length_nil] at l1; omega⟩
  show nrm .val μ (exL pr (PI.run pr n) f12.body [some (.fl (ks.map kdD)), some (.fl (wks.map wkD)), none, none, none, none, none, none] μ).out = _
  simp only [f12, t1, e1, e2, bind_ok, into_ok, seq_nx, seq_rt, seq_bk, seq_ct, out_rt, out_nx, vrD_ok, tup1, tup2, tup3, tup4, tup5, lst0, lst1, lst2, lst3, chB_t, chB_f, okB_some, tr_bl, setK_ok, kOk_eq, notK_eq, isNK_eq, notNK_eq, intO_ok, seqK_eq, strK_eq, rngK_eq, dctK_eq, consK_eq, someK_eq, noneK_eq, subK_ok, dropK_eq, retK_eq, asgK_eq, asgTK_eq, sub3_eq, binK_eq, cmpK_eq, idxK_eq, slcK2_eq, slcK_eq, ifK_eq, callK_eq, lK_eq, andK_eq, orK_eq, eltK_eq, allK_eq, lcK_eq, sub2_eq, sub1_eq, ifS_eq, forK_eq, e_var, e_ci, e_cs, e_cb, e_cn, e_not, e_isN, e_notN, e_bin, e_cmp, e_ifx, e_tup, e_lst, e_dnew, e_idx, e_slc, e_call, e_bi, e_isi, e_bm, e_lc, l_nil, l_cons, o_none, o_some, and_one, and_two, or_one, or_two, all_nil, all_one, trB_bl, i_seq, i_str, i_rng, i_keys, i_items, s_nil, s_cons, s_asg, s_asgT, s_sub, s_exp, s_ret, s_retN, s_if, s_for, List.getElem?_cons_zero, List.getElem?_cons_succ, List.set_cons_zero, List.set_cons_succ, List.length_cons, List.length_nil, Nat.reduceAdd, Nat.reduceLT, if_true, Bool.not_true, Bool.not_false]
  have fz : frz (μ ++ [Ob.dct .k (ps'.map mvD)]) μ.length (.loc μ.length) = some (.fd .k (ps'.map mvD)) := by
    unfold frz
    rw [frzW, frzN, if_neg (by omega), if_neg (by simp), get_last]
    show (frzP _ _).map _ = _
    rw [frzP_solid _ (mv_solid ps')]; rfl
  rw [nrm_frz (Gr.app μ _) fz, take_same (Gr.app μ _)]
theorem f13_ok (n : Nat) (μ : Mem) (m : Nat) (hs : St μ m) :
    ∃ (ks : List KdT) (wks : List WkT) (μ' : Mem), nrm .val μ (PI.run pr (n + 4) 13 [.loc m] μ) = .ok (.tup [.fl (ks.map kdD), .fl (wks.map wkD)]) μ' ∧ μ'.length = μ.length ∧ Up [m] μ μ' ∧ 1 ≤ ks.length ∧ ks.length ≤ 4 ∧ (∀ k ∈ ks, k.2.length ≤ 3 ∧ Good (ks.map (·.1)) k.2) ∧ (∀ w ∈ wks, Fit (ks.map (·.1)) w) ∧ wks.length ≤ 4 := by
  rw [PI.run]
  have hm : m < μ.length := by
    obtain ⟨_, _, h, _⟩ := hs
    exact (List.getElem?_eq_some_iff.mp h).1
  let m1 : Mem := μ ++ [Ob.lst []]
  have c1 : lstK [] μ = .ok (.loc μ.length) m1 := lst0 _
  obtain ⟨ks, ws, m2, q10, hs2, u2, l2, tk2, lw, k1, k4, kg⟩ := f10_ok n m1 m μ.length (hs.gr0 (Gr.app μ _)) (get_last _ _) (by omega)
  obtain ⟨wks, m3, q11, hs3, u3, l3, w4, wf⟩ := f11_ok n m2 m μ.length k1 k4 hs2 tk2 (by omega) lw
  have uu : Up [m] μ m3 := ((Up.app [m] μ [Ob.lst []]).high u2 (by intro i hi hlt; simp at hi ⊢; omega)).high u3 (by intro i hi hlt; simp at hi ⊢; omega)
  have g : Gr [m] μ m3 := St.gr uu fun i hi _ => by rw [List.mem_singleton.mp hi]; exact hs3.solid
  obtain ⟨t1, t2, t3⟩ := take_up uu
  refine ⟨ks, wks, _, ?_, t2, t1, k1, k4, kg, wf, w4⟩
  show nrm .val μ (exL pr (PI.run pr (n + 3)) f13.body [some (.loc m), none, none, none] μ).out = _
  clear_value m1
  simp only [f13, c1, q10, q11, bind_ok, into_ok, seq_nx, seq_rt, seq_bk, seq_ct, out_rt, out_nx, vrD_ok, tup1, tup2, tup3, tup4, tup5, lst0, lst1, lst2, lst3, chB_t, chB_f, okB_some, tr_bl, setK_ok, kOk_eq, notK_eq, isNK_eq, notNK_eq, intO_ok, seqK_eq, strK_eq, rngK_eq, dctK_eq, consK_eq, someK_eq, noneK_eq, subK_ok, dropK_eq, retK_eq, asgK_eq, asgTK_eq, sub3_eq, binK_eq, cmpK_eq, idxK_eq, slcK2_eq, slcK_eq, ifK_eq, callK_eq, lK_eq, andK_eq, orK_eq, eltK_eq, allK_eq, lcK_eq, sub2_eq, sub1_eq, ifS_eq, forK_eq, e_var, e_ci, e_cs, e_cb, e_cn, e_not, e_isN, e_notN, e_bin, e_cmp, e_ifx, e_tup, e_lst, e_dnew, e_idx, e_slc, e_call, e_bi, e_isi, e_bm, e_lc, l_nil, l_cons, o_none, o_some, and_one, and_two, or_one, or_two, all_nil, all_one, trB_bl, i_seq, i_str, i_rng, i_keys, i_items, s_nil, s_cons, s_asg, s_asgT, s_sub, s_exp, s_ret, s_retN, s_if, s_for, List.getElem?_cons_zero, List.getElem?_cons_succ, List.set_cons_zero, List.set_cons_succ, List.length_cons, List.length_nil, Nat.reduceAdd, Nat.reduceLT, if_true, Bool.not_true, Bool.not_false]
  have ck : closed 0 (.tup [.fl (ks.map kdD), .fl (wks.map wkD)]) = true := by
    have a : ∀ ks : List KdT, closedL 0 (ks.map kdD) = true := fun ks => by
      induction ks with
      | nil => rfl
      | cons k ks ih =>
        have b : ∀ ms : List MkT, closedL 0 (ms.map mkD) = true := fun ms => by
          induction ms with
          | nil => rfl
          | cons p ms ih =>
            rw [List.map_cons, closedL, ih]
            unfold mkD
            simp only [closed, closedL, strs_solid]
            rfl
        rw [List.map_cons, closedL, ih]
        unfold kdD
        simp only [closed, closedL, b]
        rfl
    have b : ∀ ks : List WkT, closedL 0 (ks.map wkD) = true := fun ks => by
      induction ks with
      | nil => rfl
      | cons k ks ih => rw [List.map_cons, closedL, ih, wk_solid]; rfl
    simp only [closed, closedL, a, b]
    rfl
  exact nrm_val g ck
end K32

/-! k32: a term drawn -/
namespace K32
open PySem PI
theorem rng0 (n : Nat) : rngD 0 n = (List.range n).map fun i => D.int (i : Nat) := by
  unfold rngD
  apply List.map_congr_left
  intro i _
  rw [Int.zero_add]
structure Tm (d b : Nat) (nl ks : List Str) (t : Th) : Prop where
  hun : un t = true
  hbd : bds b t = true
  hht : ht t ≤ d + 1
  hwd : wd t ≤ 3
  hna : b = 0 → na t = true
  hnm : ∀ p ∈ nms t, p.1 ∈ nl ∧ p.2 ∈ ks
  hmy : (nms t).length ≤ 3 ^ d
theorem Tm_mk {d b : Nat} {nl ks : List Str} {f : Str} {ts : List Th} (h : ∀ t ∈ ts, Tm d b nl ks t) (hl : ts.length ≤ 3) : Tm (d + 1) b nl ks (.mk f ts) := by
  have key : ∀ ts : List Th, (∀ t ∈ ts, Tm d b nl ks t) → unL ts = true ∧ bdsL b ts = true ∧ htL ts ≤ d + 1 ∧ wdL ts ≤ 3 ∧ (b = 0 → naL ts = true) ∧ (∀ p ∈ nmsL ts, p.1 ∈ nl ∧ p.2 ∈ ks) ∧ (nmsL ts).length ≤ ts.length * 3 ^ d := fun ts => by
    induction ts with
    | nil => intro _; exact ⟨rfl, rfl, by simp [htL], by simp [wdL], fun _ => rfl, fun _ h => by rw [nmsL] at h; exact absurd h List.not_mem_nil, by simp [nmsL]⟩
    | cons t ts ih =>
      intro h
      have a := h t List.mem_cons_self
      obtain ⟨i1, i2, i3, i4, i5, i6, i7⟩ := ih fun x m => h x (List.mem_cons_of_mem _ m)
      refine ⟨by rw [unL, a.hun, i1]; rfl, by rw [bdsL, a.hbd, i2]; rfl, by rw [htL]; have := a.hht; omega, by rw [wdL]; have := a.hwd; omega, fun z => by rw [naL, a.hna z, i5 z]; rfl, fun p hp => ?_, ?_⟩
      · rw [nmsL] at hp
        rcases List.mem_append.mp hp with g | g
        · exact a.hnm p g
        · exact i6 p g
      · rw [nmsL, List.length_append, List.length_cons, Nat.succ_mul]
        have := a.hmy
        omega
  obtain ⟨i1, i2, i3, i4, i5, i6, i7⟩ := key ts h
  refine ⟨by rw [un]; exact i1, by rw [bds]; exact i2, by rw [ht]; omega, by rw [wd]; omega, fun z => by rw [na]; exact i5 z, by rw [nms]; exact i6, ?_⟩
  rw [nms, Nat.pow_succ]
  have : ts.length * 3 ^ d ≤ 3 * 3 ^ d := Nat.mul_le_mul_right _ hl
  omega
theorem Tm_leaf {d b : Nat} {nl ks : List Str} {t : Th} (h : (∃ i, i < b ∧ t = .bd i) ∨ ∃ x k, t = .nm x k ∧ x ∈ nl ∧ k ∈ ks) : Tm d b nl ks t := by
  have p : 1 ≤ 3 ^ d := Nat.pos_of_ne_zero (by simp)
  rcases h with ⟨i, hi, rfl⟩ | ⟨x, k, rfl, hx, hk⟩
  · exact ⟨rfl, by rw [bds, decide_eq_true_iff]; exact hi, by simp [ht], by simp [wd], fun z => by omega, fun p h => by
      have h : p ∈ ([] : List (Str × Str)) := h
      exact absurd h List.not_mem_nil, Nat.zero_le _⟩
  · refine ⟨rfl, rfl, by simp [ht], by simp [wd], fun _ => rfl, fun p h => ?_, by simp [nms]; omega⟩
    rw [nms] at h
    rw [List.mem_singleton.mp h]
    exact ⟨hx, hk⟩
/-- the leaves -/
theorem leaves_ok {C : Calls} {m a b : Nat} {mk k dp : D} {μ : Mem} {kd : Str} {nl as ks : List Str} (hk : k = .str kd) (ha : μ[a]? = some (.lst (nl.map D.str))) (hb : μ[b]? = some (.lst (as.map D.str))) (la : as.length ≤ 100) (ln : nl.length ≤ 100) (hn : nl ≠ []) (hkd : kd ∈ ks) :
    ∃ (lv : List Th) (μ' : Mem) (c1 : List D), lcGo [] (lcStep pr C [some (.loc m), some mk, some k, some (.loc a), some (.loc b), some dp, none, none, none, none, none, none, none] (.tup [.cs "bound", .var 10]) (.nm 10) [.cmp .eq (.idx (.var 4) (.var 10)) (.var 2)] [10]) μ.length (rngD 0 as.length) (μ ++ [.lst []]) = .ok (.loc μ.length) (μ ++ [.lst c1]) ∧
      (∀ lc, lcGo [(a, .lst (nl.map D.str))] (lcStep pr C [some (.loc m), some mk, some k, some (.loc a), some (.loc b), some dp, lc, none, none, none, none, none, none] (.tup [.cs "name", .var 11, .var 2]) (.nm 11) [] [11]) (μ ++ [Ob.lst c1]).length (nl.map D.str) (μ ++ [Ob.lst c1] ++ [.lst []]) = .ok (.loc (μ ++ [Ob.lst c1]).length) (μ ++ [Ob.lst c1] ++ [.lst (nl.map fun x => en (.nm x kd))])) ∧
      evBin .add (.loc μ.length) (.loc (μ ++ [Ob.lst c1]).length) (μ ++ [Ob.lst c1] ++ [.lst (nl.map fun x => en (.nm x kd))]) = .ok (.loc (μ.length + 2)) μ' ∧ Gr [] μ μ' ∧ μ'[μ.length + 2]? = some (.lst (lv.map en)) ∧ 0 < lv.length ∧ lv.length ≤ 200 ∧ μ.length + 2 < μ'.length ∧ ∀ t ∈ lv, (∃ i, i < as.length ∧ t = .bd i) ∨ ∃ x k, t = .nm x k ∧ x ∈ nl ∧ k ∈ ks := by
  subst hk
  let f : Nat → Option D := fun i => if as[i]? = some kd then some (en (.bd i)) else none
  let f' : Nat → Option Th := fun i => if as[i]? = some kd then some (.bd i) else none
  have ff : (List.range as.length).filterMap f = ((List.range as.length).filterMap f').map en := by
    rw [List.map_filterMap]
    congr 1
    funext i
    show (if as[i]? = some kd then some (en (.bd i)) else none) = (if as[i]? = some kd then some (.bd i) else none).map en
    split <;> rfl
  have l1 := lc_nil (step := lcStep pr C [some (.loc m), some mk, some (.str kd), some (.loc a), some (.loc b), some dp, none, none, none, none, none, none, none] (.tup [.cs "bound", .var 10]) (.nm 10) [.cmp .eq (.idx (.var 4) (.var 10)) (.var 2)] [10]) (μ := μ) (e := fun i : Nat => D.int (i : Nat)) (f := f) (xs := List.range as.length) (by rw [List.length_range]; unfold lim; omega) fun i hi acc => by
    have hi := List.mem_range.mp hi
    rw [lcStep_ok (σ' := [some (.loc m), some mk, some (.str kd), some (.loc a), some (.loc b), some dp, none, none, none, none, some (.int (i : Nat)), none, none]) pr _ _ _ rfl]
    have ix : evIdx (.loc b) (.int (i : Nat)) (μ ++ [.lst acc]) = .ok (.str as[i]) (μ ++ [.lst acc]) := idx_loc ((Gr.app μ _).get hb) (by rw [List.getElem?_map, List.getElem?_eq_getElem hi]; rfl)
    simp only [ix, eqs, bind_ok, into_ok, seq_nx, seq_rt, seq_bk, seq_ct, out_rt, out_nx, vrD_ok, tup1, tup2, tup3, tup4, tup5, lst0, lst1, lst2, lst3, chB_t, chB_f, okB_some, tr_bl, setK_ok, kOk_eq, notK_eq, isNK_eq, notNK_eq, intO_ok, seqK_eq, strK_eq, rngK_eq, dctK_eq, consK_eq, someK_eq, noneK_eq, subK_ok, dropK_eq, retK_eq, asgK_eq, asgTK_eq, sub3_eq, binK_eq, cmpK_eq, idxK_eq, slcK2_eq, slcK_eq, ifK_eq, callK_eq, lK_eq, andK_eq, orK_eq, eltK_eq, allK_eq, lcK_eq, sub2_eq, sub1_eq, ifS_eq, forK_eq, e_var, e_ci, e_cs, e_cb, e_cn, e_not, e_isN, e_notN, e_bin, e_cmp, e_ifx, e_tup, e_lst, e_dnew, e_idx, e_slc, e_call, e_bi, e_isi, e_bm, e_lc, l_nil, l_cons, o_none, o_some, and_one, and_two, or_one, or_two, all_nil, all_one, trB_bl, i_seq, i_str, i_rng, i_keys, i_items, s_nil, s_cons, s_asg, s_asgT, s_sub, s_exp, s_ret, s_retN, s_if, s_for, List.getElem?_cons_zero, List.getElem?_cons_succ, List.set_cons_zero, List.set_cons_succ, List.length_cons, List.length_nil, Nat.reduceAdd, Nat.reduceLT, if_true, Bool.not_true, Bool.not_false]
    have e : as[i]? = some as[i] := List.getElem?_eq_getElem hi
    by_cases c : as[i] = kd
    · rw [show (as[i] == kd) = true from by rw [beq_iff_eq]; exact c]
      simp only [bind_ok, into_ok, seq_nx, seq_rt, seq_bk, seq_ct, out_rt, out_nx, vrD_ok, tup1, tup2, tup3, tup4, tup5, lst0, lst1, lst2, lst3, chB_t, chB_f, okB_some, tr_bl, setK_ok, kOk_eq, notK_eq, isNK_eq, notNK_eq, intO_ok, seqK_eq, strK_eq, rngK_eq, dctK_eq, consK_eq, someK_eq, noneK_eq, subK_ok, dropK_eq, retK_eq, asgK_eq, asgTK_eq, sub3_eq, binK_eq, cmpK_eq, idxK_eq, slcK2_eq, slcK_eq, ifK_eq, callK_eq, lK_eq, andK_eq, orK_eq, eltK_eq, allK_eq, lcK_eq, sub2_eq, sub1_eq, ifS_eq, forK_eq, e_var, e_ci, e_cs, e_cb, e_cn, e_not, e_isN, e_notN, e_bin, e_cmp, e_ifx, e_tup, e_lst, e_dnew, e_idx, e_slc, e_call, e_bi, e_isi, e_bm, e_lc, l_nil, l_cons, o_none, o_some, and_one, and_two, or_one, or_two, all_nil, all_one, trB_bl, i_seq, i_str, i_rng, i_keys, i_items, s_nil, s_cons, s_asg, s_asgT, s_sub, s_exp, s_ret, s_retN, s_if, s_for, List.getElem?_cons_zero, List.getElem?_cons_succ, List.set_cons_zero, List.set_cons_succ, List.length_cons, List.length_nil, Nat.reduceAdd, Nat.reduceLT, if_true, Bool.not_true, Bool.not_false]
      show _ = R.ok (if as[i]? = some kd then some (en (.bd i)) else none) _
      rw [if_pos (by rw [e, c])]
      rfl
    · rw [show (as[i] == kd) = false from by rw [beq_eq_false_iff_ne]; exact c]
      simp only [bind_ok, into_ok, seq_nx, seq_rt, seq_bk, seq_ct, out_rt, out_nx, vrD_ok, tup1, tup2, tup3, tup4, tup5, lst0, lst1, lst2, lst3, chB_t, chB_f, okB_some, tr_bl, setK_ok, kOk_eq, notK_eq, isNK_eq, notNK_eq, intO_ok, seqK_eq, strK_eq, rngK_eq, dctK_eq, consK_eq, someK_eq, noneK_eq, subK_ok, dropK_eq, retK_eq, asgK_eq, asgTK_eq, sub3_eq, binK_eq, cmpK_eq, idxK_eq, slcK2_eq, slcK_eq, ifK_eq, callK_eq, lK_eq, andK_eq, orK_eq, eltK_eq, allK_eq, lcK_eq, sub2_eq, sub1_eq, ifS_eq, forK_eq, e_var, e_ci, e_cs, e_cb, e_cn, e_not, e_isN, e_notN, e_bin, e_cmp, e_ifx, e_tup, e_lst, e_dnew, e_idx, e_slc, e_call, e_bi, e_isi, e_bm, e_lc, l_nil, l_cons, o_none, o_some, and_one, and_two, or_one, or_two, all_nil, all_one, trB_bl, i_seq, i_str, i_rng, i_keys, i_items, s_nil, s_cons, s_asg, s_asgT, s_sub, s_exp, s_ret, s_retN, s_if, s_for, List.getElem?_cons_zero, List.getElem?_cons_succ, List.set_cons_zero, List.set_cons_succ, List.length_cons, List.length_nil, Nat.reduceAdd, Nat.reduceLT, if_true, Bool.not_true, Bool.not_false]
      show _ = R.ok (if as[i]? = some kd then some (en (.bd i)) else none) _
      rw [if_neg (by rw [e]; intro z; exact c (Option.some.inj z))]
  rw [← rng0] at l1
  let c1 : List D := (List.range as.length).filterMap f
  have c1l : c1.length ≤ 100 := by
    have : c1.length ≤ (List.range as.length).length := List.length_filterMap_le _ _
    rw [List.length_range] at this
    omega
  have ha1 : (μ ++ [Ob.lst c1])[a]? = some (.lst (nl.map D.str)) := (Gr.app μ _).get ha
  have l2 : ∀ lc, lcGo [(a, .lst (nl.map D.str))] (lcStep pr C [some (.loc m), some mk, some (.str kd), some (.loc a), some (.loc b), some dp, lc, none, none, none, none, none, none] (.tup [.cs "name", .var 11, .var 2]) (.nm 11) [] [11]) (μ ++ [Ob.lst c1]).length (nl.map D.str) (μ ++ [Ob.lst c1] ++ [.lst []]) = .ok (.loc (μ ++ [Ob.lst c1]).length) (μ ++ [Ob.lst c1] ++ [.lst (nl.map fun x => en (.nm x kd))]) := fun lc => by
    rw [← fm_some (fun x => en (.nm x kd))]
    refine lc_old ha1 (e := D.str) (f := fun x => some (en (.nm x kd))) (xs := nl) (by unfold lim; omega) fun x _ acc => ?_
    rw [lcStep_ok (σ' := [some (.loc m), some mk, some (.str kd), some (.loc a), some (.loc b), some dp, lc, none, none, none, none, some (.str x), none]) pr _ _ _ rfl]
    simp only [bind_ok, into_ok, seq_nx, seq_rt, seq_bk, seq_ct, out_rt, out_nx, vrD_ok, tup1, tup2, tup3, tup4, tup5, lst0, lst1, lst2, lst3, chB_t, chB_f, okB_some, tr_bl, setK_ok, kOk_eq, notK_eq, isNK_eq, notNK_eq, intO_ok, seqK_eq, strK_eq, rngK_eq, dctK_eq, consK_eq, someK_eq, noneK_eq, subK_ok, dropK_eq, retK_eq, asgK_eq, asgTK_eq, sub3_eq, binK_eq, cmpK_eq, idxK_eq, slcK2_eq, slcK_eq, ifK_eq, callK_eq, lK_eq, andK_eq, orK_eq, eltK_eq, allK_eq, lcK_eq, sub2_eq, sub1_eq, ifS_eq, forK_eq, e_var, e_ci, e_cs, e_cb, e_cn, e_not, e_isN, e_notN, e_bin, e_cmp, e_ifx, e_tup, e_lst, e_dnew, e_idx, e_slc, e_call, e_bi, e_isi, e_bm, e_lc, l_nil, l_cons, o_none, o_some, and_one, and_two, or_one, or_two, all_nil, all_one, trB_bl, i_seq, i_str, i_rng, i_keys, i_items, s_nil, s_cons, s_asg, s_asgT, s_sub, s_exp, s_ret, s_retN, s_if, s_for, List.getElem?_cons_zero, List.getElem?_cons_succ, List.set_cons_zero, List.set_cons_succ, List.length_cons, List.length_nil, Nat.reduceAdd, Nat.reduceLT, if_true, Bool.not_true, Bool.not_false]
    rfl
  let m2 : Mem := μ ++ [Ob.lst c1] ++ [.lst (nl.map fun x => en (.nm x kd))]
  have g2 : Gr [] μ m2 := (Gr.app μ _).trans0 (Gr.app _ _)
  have x1 : m2[μ.length]? = some (.lst c1) := (Gr.app (μ ++ [Ob.lst c1]) _).get (get_last _ _)
  have ad := add_locs (c := μ.length) (c' := (μ ++ [Ob.lst c1]).length) (μ := m2) x1 (get_last _ _) (by rw [List.length_map]; unfold lim; omega)
  have e2 : m2.length = μ.length + 2 := by simp [m2]
  rw [e2] at ad
  refine ⟨(List.range as.length).filterMap f' ++ nl.map fun x => Th.nm x kd, _, c1, l1, l2, ad, g2.trans0 (Gr.app _ _), ?_, ?_, ?_, by simp [e2], ?_⟩
  · rw [← e2, get_last, List.map_append, ← ff, List.map_map]
    rfl
  · rw [List.length_append, List.length_map]
    have := List.length_pos_iff.mpr hn
    omega
  · have : ((List.range as.length).filterMap f').length ≤ (List.range as.length).length := List.length_filterMap_le _ _
    rw [List.length_range] at this
    rw [List.length_append, List.length_map]
    omega
  · intro t ht
    rcases List.mem_append.mp ht with h | h
    · obtain ⟨i, hi, e⟩ := List.mem_filterMap.mp h
      have e : (if as[i]? = some kd then some (Th.bd i) else none) = some t := e
      split at e
      · exact .inl ⟨i, List.mem_range.mp hi, (Option.some.inj e).symm⟩
      · cases e
    · obtain ⟨x, hx, rfl⟩ := List.mem_map.mp h
      exact .inr ⟨x, kd, rfl, hx, hkd⟩
theorem look_mv (ps : List WkT) (f : Str) : look (ps.map mvD) (.str f) = (ps.find? fun p => p.1 == f).map fun q => (mvD q).2 := by
  unfold look
  rw [List.find?_map, Option.map_map]
  rfl
theorem idx_mv {ps : List WkT} {p : WkT} (hp : p ∈ ps) : ∃ q ∈ ps, ∀ μ, evIdx (.fd .k (ps.map mvD)) (.str p.1) μ = .ok (.tup [.fl (q.2.1.map D.str), .str q.2.2]) μ := by
  cases e : ps.find? fun x => x.1 == p.1 with
  | none =>
    have := List.find?_eq_none.mp e p hp
    exact absurd (beq_self_eq_true p.1) this
  | some q =>
    refine ⟨q, List.mem_of_find?_eq_some e, fun μ => ?_⟩
    show (match look (ps.map mvD) (.str p.1) with
      | some v => R.ok v μ
      | none => .bad) = _
    rw [look_mv, e]
    rfl
end K32

/-! k32: a term drawn, whole -/
namespace K32
open PySem PI
theorem leaf_end {n m L : Nat} {lv : List Th} {σ : PI.Env} (s0 : σ[0]? = some (some (.loc m))) (s6 : σ[6]? = some (some (.loc L))) {μ : Mem} (hs : St μ m) (hL : μ[L]? = some (.lst (lv.map en))) (hm : L ≠ m) (h0 : 0 < lv.length) (h2 : lv.length ≤ 200) :
    ∃ t ∈ lv, ∃ μ', exS pr (PI.run pr (n + 1)) (.ret (.idx (.var 6) (.call 8 [.var 0, .bi .len [.var 6]] .val))) σ μ = .rt (en t) μ' ∧ St μ' m ∧ Up [m] μ μ' := by
  have ln := len_ev hL
  rw [List.length_map] at ln
  obtain ⟨r, μ', q, r0, r1, h1, u, _⟩ := f8_ok n μ m (lv.length : Nat) hs (by omega) (by omega)
  have hr : r.toNat < lv.length := by omega
  have ix : evIdx (.loc L) (.int r) μ' = .ok (en lv[r.toNat]) μ' := idx_at (k := r.toNat) (u.get (by simp [hm]) hL) (by omega) (by rw [List.getElem?_map, List.getElem?_eq_getElem hr]; rfl)
  refine ⟨lv[r.toNat], List.getElem_mem hr, μ', ?_, h1, u⟩
  simp only [s0, s6, ln, q, ix, bind_ok, into_ok, seq_nx, seq_rt, seq_bk, seq_ct, out_rt, out_nx, vrD_ok, tup1, tup2, tup3, tup4, tup5, lst0, lst1, lst2, lst3, chB_t, chB_f, okB_some, tr_bl, setK_ok, kOk_eq, notK_eq, isNK_eq, notNK_eq, intO_ok, seqK_eq, strK_eq, rngK_eq, dctK_eq, consK_eq, someK_eq, noneK_eq, subK_ok, dropK_eq, retK_eq, asgK_eq, asgTK_eq, sub3_eq, binK_eq, cmpK_eq, idxK_eq, slcK2_eq, slcK_eq, ifK_eq, callK_eq, lK_eq, andK_eq, orK_eq, eltK_eq, allK_eq, lcK_eq, sub2_eq, sub1_eq, ifS_eq, forK_eq, e_var, e_ci, e_cs, e_cb, e_cn, e_not, e_isN, e_notN, e_bin, e_cmp, e_ifx, e_tup, e_lst, e_dnew, e_idx, e_slc, e_call, e_bi, e_isi, e_bm, e_lc, l_nil, l_cons, o_none, o_some, and_one, and_two, or_one, or_two, all_nil, all_one, trB_bl, i_seq, i_str, i_rng, i_keys, i_items, s_nil, s_cons, s_asg, s_asgT, s_sub, s_exp, s_ret, s_retN, s_if, s_for, List.getElem?_cons_zero, List.getElem?_cons_succ, List.set_cons_zero, List.set_cons_succ, List.length_cons, List.length_nil, Nat.reduceAdd, Nat.reduceLT, if_true, Bool.not_true, Bool.not_false]
theorem made_ok {C : Calls} {ps : List WkT} (hl : ps.length ≤ 16) (kd : Str) (a0 a3 a4 a5 a6 : Option D) : ∃ ms : List Str, (∀ f ∈ ms, ∃ p ∈ ps, p.1 = f) ∧ ms.length ≤ 16 ∧ ∀ μ : Mem, lcGo [] (lcStep pr C [a0, some (.fd .k (ps.map mvD)), some (.str kd), a3, a4, a5, a6, none, none, none, none, none, none] (.var 8) (.nm 8) [.cmp .eq (.idx (.idx (.var 1) (.var 8)) (.ci 1)) (.var 2)] [8]) μ.length ((ps.map mvD).map (·.1)) (μ ++ [.lst []]) = .ok (.loc μ.length) (μ ++ [.lst (ms.map D.str)]) := by
  let c : WkT → Bool := fun p => (ps.find? fun x => x.1 == p.1).any fun q => q.2.2 == kd
  let f : WkT → Option D := fun p : WkT => if c p = true then some (D.str p.1) else none
  let f' : WkT → Option Str := fun p : WkT => if c p = true then some p.1 else none
  have ff : ps.filterMap f = (ps.filterMap f').map D.str := by
    rw [List.map_filterMap]
    congr 1
    funext p
    show (if c p = true then some (D.str p.1) else none) = Option.map D.str (f' p)
    by_cases z : c p = true
    · rw [if_pos z, show f' p = some p.1 from if_pos z]; rfl
    · rw [if_neg z, show f' p = none from if_neg z]; rfl
  refine ⟨ps.filterMap f', fun x hx => ?_, Nat.le_trans (List.length_filterMap_le _ _) hl, fun μ => ?_⟩
  · obtain ⟨p, hp, e⟩ := List.mem_filterMap.mp hx
    by_cases z : c p = true
    · rw [show f' p = some p.1 from if_pos z] at e
      exact ⟨p, hp, Option.some.inj e⟩
    · rw [show f' p = none from if_neg z] at e
      cases e
  · rw [← ff, List.map_map]
    refine lc_nil (e := (fun x : D × D => x.1) ∘ mvD) (f := f) (xs := ps) (by unfold lim; omega) fun p hp acc => ?_
    show lcStep pr C _ _ _ _ _ (.str p.1) _ = _
    rw [lcStep_ok (σ' := [a0, some (.fd .k (ps.map mvD)), some (.str kd), a3, a4, a5, a6, none, some (.str p.1), none, none, none, none]) pr _ _ _ rfl]
    cases e : ps.find? fun x => x.1 == p.1 with
    | none => exact absurd (beq_self_eq_true p.1) (List.find?_eq_none.mp e p hp)
    | some q =>
      have ix : ∀ μ, evIdx (.fd .k (ps.map mvD)) (.str p.1) μ = .ok (.tup [.fl (q.2.1.map D.str), .str q.2.2]) μ := fun μ => by
        show (match look (ps.map mvD) (.str p.1) with
          | some v => R.ok v μ
          | none => .bad) = _
        rw [look_mv, e]
        rfl
      have i1 : ∀ μ, evIdx (.tup [.fl (q.2.1.map D.str), .str q.2.2]) (.int 1) μ = .ok (.str q.2.2) μ := fun _ => rfl
      have cp : c p = (q.2.2 == kd) := by
        show (ps.find? fun x => x.1 == p.1).any _ = _
        rw [e]
        rfl
      simp only [ix, i1, eqs, bind_ok, into_ok, seq_nx, seq_rt, seq_bk, seq_ct, out_rt, out_nx, vrD_ok, tup1, tup2, tup3, tup4, tup5, lst0, lst1, lst2, lst3, chB_t, chB_f, okB_some, tr_bl, setK_ok, kOk_eq, notK_eq, isNK_eq, notNK_eq, intO_ok, seqK_eq, strK_eq, rngK_eq, dctK_eq, consK_eq, someK_eq, noneK_eq, subK_ok, dropK_eq, retK_eq, asgK_eq, asgTK_eq, sub3_eq, binK_eq, cmpK_eq, idxK_eq, slcK2_eq, slcK_eq, ifK_eq, callK_eq, lK_eq, andK_eq, orK_eq, eltK_eq, allK_eq, lcK_eq, sub2_eq, sub1_eq, ifS_eq, forK_eq, e_var, e_ci, e_cs, e_cb, e_cn, e_not, e_isN, e_notN, e_bin, e_cmp, e_ifx, e_tup, e_lst, e_dnew, e_idx, e_slc, e_call, e_bi, e_isi, e_bm, e_lc, l_nil, l_cons, o_none, o_some, and_one, and_two, or_one, or_two, all_nil, all_one, trB_bl, i_seq, i_str, i_rng, i_keys, i_items, s_nil, s_cons, s_asg, s_asgT, s_sub, s_exp, s_ret, s_retN, s_if, s_for, List.getElem?_cons_zero, List.getElem?_cons_succ, List.set_cons_zero, List.set_cons_succ, List.length_cons, List.length_nil, Nat.reduceAdd, Nat.reduceLT, if_true, Bool.not_true, Bool.not_false]
      show _ = R.ok (if c p = true then some (D.str p.1) else none) _
      rw [cp]
      cases z : q.2.2 == kd with
      | true => simp only [bind_ok, into_ok, seq_nx, seq_rt, seq_bk, seq_ct, out_rt, out_nx, vrD_ok, tup1, tup2, tup3, tup4, tup5, lst0, lst1, lst2, lst3, chB_t, chB_f, okB_some, tr_bl, setK_ok, kOk_eq, notK_eq, isNK_eq, notNK_eq, intO_ok, seqK_eq, strK_eq, rngK_eq, dctK_eq, consK_eq, someK_eq, noneK_eq, subK_ok, dropK_eq, retK_eq, asgK_eq, asgTK_eq, sub3_eq, binK_eq, cmpK_eq, idxK_eq, slcK2_eq, slcK_eq, ifK_eq, callK_eq, lK_eq, andK_eq, orK_eq, eltK_eq, allK_eq, lcK_eq, sub2_eq, sub1_eq, ifS_eq, forK_eq, e_var, e_ci, e_cs, e_cb, e_cn, e_not, e_isN, e_notN, e_bin, e_cmp, e_ifx, e_tup, e_lst, e_dnew, e_idx, e_slc, e_call, e_bi, e_isi, e_bm, e_lc, l_nil, l_cons, o_none, o_some, and_one, and_two, or_one, or_two, all_nil, all_one, trB_bl, i_seq, i_str, i_rng, i_keys, i_items, s_nil, s_cons, s_asg, s_asgT, s_sub, s_exp, s_ret, s_retN, s_if, s_for, List.getElem?_cons_zero, List.getElem?_cons_succ, List.set_cons_zero, List.set_cons_succ, List.length_cons, List.length_nil, Nat.reduceAdd, Nat.reduceLT, if_true, Bool.not_true, Bool.not_false]
      | false =>
        simp only [bind_ok, into_ok, seq_nx, seq_rt, seq_bk, seq_ct, out_rt, out_nx, vrD_ok, tup1, tup2, tup3, tup4, tup5, lst0, lst1, lst2, lst3, chB_t, chB_f, okB_some, tr_bl, setK_ok, kOk_eq, notK_eq, isNK_eq, notNK_eq, intO_ok, seqK_eq, strK_eq, rngK_eq, dctK_eq, consK_eq, someK_eq, noneK_eq, subK_ok, dropK_eq, retK_eq, asgK_eq, asgTK_eq, sub3_eq, binK_eq, cmpK_eq, idxK_eq, slcK2_eq, slcK_eq, ifK_eq, callK_eq, lK_eq, andK_eq, orK_eq, eltK_eq, allK_eq, lcK_eq, sub2_eq, sub1_eq, ifS_eq, forK_eq, e_var, e_ci, e_cs, e_cb, e_cn, e_not, e_isN, e_notN, e_bin, e_cmp, e_ifx, e_tup, e_lst, e_dnew, e_idx, e_slc, e_call, e_bi, e_isi, e_bm, e_lc, l_nil, l_cons, o_none, o_some, and_one, and_two, or_one, or_two, all_nil, all_one, trB_bl, i_seq, i_str, i_rng, i_keys, i_items, s_nil, s_cons, s_asg, s_asgT, s_sub, s_exp, s_ret, s_retN, s_if, s_for, List.getElem?_cons_zero, List.getElem?_cons_succ, List.set_cons_zero, List.set_cons_succ, List.length_cons, List.length_nil, Nat.reduceAdd, Nat.reduceLT, if_true, Bool.not_true, Bool.not_false]
        rfl
theorem parts14 {C : Calls} {m a b : Nat} {mk : D} {d : Int} {μ : Mem} {σ : PI.Env} {P : Th → Prop} {names : List Str} (hm : m < μ.length) (hs : St μ m) (hσ : σ.length = 13) (s0 : σ[0]? = some (some (.loc m))) (s1 : σ[1]? = some (some mk)) (s3 : σ[3]? = some (some (.loc a))) (s4 : σ[4]? = some (some (.loc b))) (s5 : σ[5]? = some (some (.int d))) {ss : List Str} (hss : ∀ s ∈ ss, s ∈ names) (hl : ss.length ≤ 3)
    (h : ∀ s ∈ names, ∀ μ1, Up [m] μ μ1 → St μ1 m → ∃ t μ2, nrm .val μ1 (C 14 [.loc m, mk, .str s, .loc a, .loc b, .int (d - 1)] μ1) = .ok (en t) μ2 ∧ St μ2 m ∧ Up [m] μ1 μ2 ∧ P t) :
    ∃ (ts : List Th) (μ' : Mem), lcGo [] (lcStep pr C σ (.call 14 [.var 0, .var 1, .var 12, .var 3, .var 4, .bin .sub (.var 5) (.ci 1)] .val) (.nm 12) [] [12]) μ.length (ss.map D.str) (μ ++ [.lst []]) = .ok (.loc μ.length) μ' ∧ St μ' m ∧ Up [m] μ μ' ∧ μ'[μ.length]? = some (.lst (enL ts)) ∧ ts.length ≤ 3 ∧ ∀ t ∈ ts, P t := by
  let I : List D → List D → Mem → Prop := fun xs acc μ' => St μ' m ∧ Up [m] μ μ' ∧ μ'[μ.length]? = some (.lst acc) ∧ (∀ x ∈ xs, ∃ s, s ∈ names ∧ x = .str s) ∧ ∃ ts : List Th, acc = enL ts ∧ (∀ t ∈ ts, P t) ∧ ts.length + xs.length ≤ 3
  obtain ⟨acc', μ', e, hs', u, h2, _, ts, rfl, h3, h5⟩ := lc_inv (src := []) (step := lcStep pr C σ (.call 14 [.var 0, .var 1, .var 12, .var 3, .var 4, .bin .sub (.var 5) (.ci 1)] .val) (.nm 12) [] [12]) (n := μ.length) I (fun xs acc μ' i => ⟨still_nil _, rfl, i.2.2.1⟩) (xs := ss.map D.str) (acc := []) (μ := μ ++ [.lst []]) (by rw [List.length_map]; simp only [List.length_nil]; unfold lim; omega) ⟨hs.gr0 (Gr.app μ _), Up.app _ μ _, get_last _ _, fun x hx => by
      obtain ⟨s, hs, rfl⟩ := List.mem_map.mp hx
      exact ⟨s, hss s hs, rfl⟩, [], rfl, fun _ h => absurd h List.not_mem_nil, by rw [List.length_map]; simp only [List.length_nil]; omega⟩ fun x xs acc μ1 i => by
    obtain ⟨hs, u, ha, hx, ts, rfl, h3, h5⟩ := i
    rw [List.length_cons] at h5
    obtain ⟨s, hsn, rfl⟩ := hx x List.mem_cons_self
    obtain ⟨t, μ2, q, hs2, u2, pt⟩ := h s hsn μ1 u hs
    have ha2 := u2.get (by simp; omega) ha
    have ea : enL (ts ++ [t]) = enL ts ++ [en t] := by rw [enL_map, enL_map, List.map_append]; rfl
    refine ⟨μ2, .inr ⟨en t, ?_, ha2, hs2.up (List.getElem?_set_ne (by omega)), Up.low (μ' := μ) (u.trans u2) (Nat.le_refl _) _, List.getElem?_set_self (List.getElem?_eq_some_iff.mp ha2).1, fun x m => hx x (List.mem_cons_of_mem _ m), ts ++ [t], ea.symm, fun y hy => ?_, by rw [List.length_append, List.length_singleton]; omega⟩⟩
    · rw [lcStep_ok (σ' := σ.set 12 (some (.str s))) pr _ _ _ (by unfold asgG wipeE wipeE; rw [if_pos (by rw [List.length_set, hσ]; decide), List.set_set])]
      have t0 : (σ.set 12 (some (.str s)))[0]? = some (some (.loc m)) := by rw [List.getElem?_set_ne (by decide)]; exact s0
      have t1 : (σ.set 12 (some (.str s)))[1]? = some (some mk) := by rw [List.getElem?_set_ne (by decide)]; exact s1
      have t3 : (σ.set 12 (some (.str s)))[3]? = some (some (.loc a)) := by rw [List.getElem?_set_ne (by decide)]; exact s3
      have t4 : (σ.set 12 (some (.str s)))[4]? = some (some (.loc b)) := by rw [List.getElem?_set_ne (by decide)]; exact s4
      have t5 : (σ.set 12 (some (.str s)))[5]? = some (some (.int d)) := by rw [List.getElem?_set_ne (by decide)]; exact s5
      have t12 : (σ.set 12 (some (.str s)))[12]? = some (some (.str s)) := by rw [List.getElem?_set_self (by omega)]
      simp only [t0, t1, t3, t4, t5, t12, sub_int, q, bind_ok, into_ok, seq_nx, seq_rt, seq_bk, seq_ct, out_rt, out_nx, vrD_ok, tup1, tup2, tup3, tup4, tup5, lst0, lst1, lst2, lst3, chB_t, chB_f, okB_some, tr_bl, setK_ok, kOk_eq, notK_eq, isNK_eq, notNK_eq, intO_ok, seqK_eq, strK_eq, rngK_eq, dctK_eq, consK_eq, someK_eq, noneK_eq, subK_ok, dropK_eq, retK_eq, asgK_eq, asgTK_eq, sub3_eq, binK_eq, cmpK_eq, idxK_eq, slcK2_eq, slcK_eq, ifK_eq, callK_eq, lK_eq, andK_eq, orK_eq, eltK_eq, allK_eq, lcK_eq, sub2_eq, sub1_eq, ifS_eq, forK_eq, e_var, e_ci, e_cs, e_cb, e_cn, e_not, e_isN, e_notN, e_bin, e_cmp, e_ifx, e_tup, e_lst, e_dnew, e_idx, e_slc, e_call, e_bi, e_isi, e_bm, e_lc, l_nil, l_cons, o_none, o_some, and_one, and_two, or_one, or_two, all_nil, all_one, trB_bl, i_seq, i_str, i_rng, i_keys, i_items, s_nil, s_cons, s_asg, s_asgT, s_sub, s_exp, s_ret, s_retN, s_if, s_for, List.getElem?_cons_zero, List.getElem?_cons_succ, List.set_cons_zero, List.set_cons_succ, List.length_cons, List.length_nil, Nat.reduceAdd, Nat.reduceLT, if_true, Bool.not_true, Bool.not_false]
    · rcases List.mem_append.mp hy with g | g
      · exact h3 y g
      · rw [List.mem_singleton.mp g]
        exact pt
  exact ⟨ts, μ', e, hs', u, h2, by simpa using h5, h3⟩
end K32

/-! k32: a term drawn, its first steps -/
namespace K32
open PySem PI
abbrev t14a : S := .asg (.g (.nm 6)) (.lc (.tup [.cs "bound", .var 10]) (.nm 10) (.rng [.bi .len [.var 4]]) [.cmp .eq (.idx (.var 4) (.var 10)) (.var 2)] [10])
abbrev t14b : S := .asg (.g (.nm 6)) (.bin .add (.var 6) (.lc (.tup [.cs "name", .var 11, .var 2]) (.nm 11) (.seq (.var 3)) [] [11]))
abbrev t14c : S := .asg (.g (.nm 7)) (.lc (.var 8) (.nm 8) (.keys (.var 1)) [.cmp .eq (.idx (.idx (.var 1) (.var 8)) (.ci 1)) (.var 2)] [8])
theorem pre14 {C : Calls} {ps : List WkT} {nl ks as : List Str} {k : Str} (hps : ps.length ≤ 16) (hn : nl ≠ []) (hnl : nl.length ≤ 3) {m a b : Nat} {dp : D} {μ : Mem} (ha : μ[a]? = some (.lst (nl.map D.str))) (hb : μ[b]? = some (.lst (as.map D.str))) (las : as.length ≤ 10) (hk : k ∈ ks) :
    ∃ (lv : List Th) (ms : List Str) (μ2 : Mem) (c : Nat), Gr [] μ μ2 ∧ μ2[μ.length + 2]? = some (.lst (lv.map en)) ∧ 0 < lv.length ∧ lv.length ≤ 200 ∧ (∀ t ∈ lv, (∃ i, i < as.length ∧ t = .bd i) ∨ ∃ x k, t = .nm x k ∧ x ∈ nl ∧ k ∈ ks) ∧ (∀ f ∈ ms, ∃ p ∈ ps, p.1 = f) ∧ ms.length ≤ 16 ∧ μ2[c]? = some (.lst (ms.map D.str)) ∧ μ.length < c ∧
      ∀ rest, exL pr C (t14a :: t14b :: t14c :: rest) [some (.loc m), some (.fd .k (ps.map mvD)), some (.str k), some (.loc a), some (.loc b), some dp, none, none, none, none, none, none, none] μ = exL pr C rest [some (.loc m), some (.fd .k (ps.map mvD)), some (.str k), some (.loc a), some (.loc b), some dp, some (.loc (μ.length + 2)), some (.loc c), none, none, none, none, none] μ2 := by
  obtain ⟨lv, μ1, c1, e1, e2, e3, g1, l6, lv0, lv2, ll, lvt⟩ := leaves_ok (C := C) (m := m) (mk := .fd .k (ps.map mvD)) (dp := dp) (ks := ks) (rfl : D.str k = .str k) ha hb (by omega) (by omega) hn hk
  have ln := len_ev hb
  rw [List.length_map] at ln
  have rg := rng_ok (k := (as.length : Nat)) (by omega) (by omega) μ
  rw [Int.toNat_natCast] at rg
  have it : itSeq (μ ++ [Ob.lst c1]) (.loc a) = .ok (nl.map D.str, [(a, .lst (nl.map D.str))]) (μ ++ [Ob.lst c1]) := by
    unfold itSeq seqOf srcOf
    simp only [(Gr.app μ _).get ha]
  obtain ⟨ms, hms, lms, e4⟩ := made_ok (C := C) hps k (some (.loc m)) (some (.loc a)) (some (.loc b)) (some dp) (some (.loc (μ.length + 2)))
  have e4 := e4 μ1
  have kt : itDct (fun x : D × D => x.1) μ1 (.fd .k (ps.map mvD)) = .ok ((ps.map mvD).map (·.1), []) μ1 := rfl
  have h1 : evI pr C (.rng [.bi .len [.var 4]]) [some (.loc m), some (.fd .k (ps.map mvD)), some (.str k), some (.loc a), some (.loc b), some dp, none, none, none, none, none, none, none] μ = .ok (rngD 0 as.length, []) μ := by
    rw [i_rng, l_cons, e_bi, l_cons, e_var]
    show R.bind (R.bind (R.bind (R.bind (R.ok (D.loc b) μ) (lK pr C _ [])) (evBI .len)) (lK pr C _ [])) rngK = _
    rw [bind_ok, lK_eq, l_nil, bind_ok, consK_eq, bind_ok, ln, bind_ok, lK_eq, l_nil, bind_ok, consK_eq, bind_ok, rngK_eq, rg]
  have s1 : exS pr C t14a [some (.loc m), some (.fd .k (ps.map mvD)), some (.str k), some (.loc a), some (.loc b), some dp, none, none, none, none, none, none, none] μ = .nx [some (.loc m), some (.fd .k (ps.map mvD)), some (.str k), some (.loc a), some (.loc b), some dp, some (.loc μ.length), none, none, none, none, none, none] (μ ++ [Ob.lst c1]) := by
    rw [s_asg, e_lc, h1, bind_ok, lcK_eq, e1, into_ok, asgK_eq]
    rfl
  have s2 : exS pr C t14b [some (.loc m), some (.fd .k (ps.map mvD)), some (.str k), some (.loc a), some (.loc b), some dp, some (.loc μ.length), none, none, none, none, none, none] (μ ++ [Ob.lst c1]) = .nx [some (.loc m), some (.fd .k (ps.map mvD)), some (.str k), some (.loc a), some (.loc b), some dp, some (.loc (μ.length + 2)), none, none, none, none, none, none] μ1 := by
    simp only [it, e2, e3, bind_ok, into_ok, seq_nx, seq_rt, seq_bk, seq_ct, out_rt, out_nx, vrD_ok, tup1, tup2, tup3, tup4, tup5, lst0, lst1, lst2, lst3, chB_t, chB_f, okB_some, tr_bl, setK_ok, kOk_eq, notK_eq, isNK_eq, notNK_eq, intO_ok, seqK_eq, strK_eq, rngK_eq, dctK_eq, consK_eq, someK_eq, noneK_eq, subK_ok, dropK_eq, retK_eq, asgK_eq, asgTK_eq, sub3_eq, binK_eq, cmpK_eq, idxK_eq, slcK2_eq, slcK_eq, ifK_eq, callK_eq, lK_eq, andK_eq, orK_eq, eltK_eq, allK_eq, lcK_eq, sub2_eq, sub1_eq, ifS_eq, forK_eq, e_var, e_ci, e_cs, e_cb, e_cn, e_not, e_isN, e_notN, e_bin, e_cmp, e_ifx, e_tup, e_lst, e_dnew, e_idx, e_slc, e_call, e_bi, e_isi, e_bm, e_lc, l_nil, l_cons, o_none, o_some, and_one, and_two, or_one, or_two, all_nil, all_one, trB_bl, i_seq, i_str, i_rng, i_keys, i_items, s_nil, s_cons, s_asg, s_asgT, s_sub, s_exp, s_ret, s_retN, s_if, s_for, List.getElem?_cons_zero, List.getElem?_cons_succ, List.set_cons_zero, List.set_cons_succ, List.length_cons, List.length_nil, Nat.reduceAdd, Nat.reduceLT, if_true, Bool.not_true, Bool.not_false]
  have s3 : exS pr C t14c [some (.loc m), some (.fd .k (ps.map mvD)), some (.str k), some (.loc a), some (.loc b), some dp, some (.loc (μ.length + 2)), none, none, none, none, none, none] μ1 = .nx [some (.loc m), some (.fd .k (ps.map mvD)), some (.str k), some (.loc a), some (.loc b), some dp, some (.loc (μ.length + 2)), some (.loc μ1.length), none, none, none, none, none] (μ1 ++ [.lst (ms.map D.str)]) := by
    simp only [kt, e4, bind_ok, into_ok, seq_nx, seq_rt, seq_bk, seq_ct, out_rt, out_nx, vrD_ok, tup1, tup2, tup3, tup4, tup5, lst0, lst1, lst2, lst3, chB_t, chB_f, okB_some, tr_bl, setK_ok, kOk_eq, notK_eq, isNK_eq, notNK_eq, intO_ok, seqK_eq, strK_eq, rngK_eq, dctK_eq, consK_eq, someK_eq, noneK_eq, subK_ok, dropK_eq, retK_eq, asgK_eq, asgTK_eq, sub3_eq, binK_eq, cmpK_eq, idxK_eq, slcK2_eq, slcK_eq, ifK_eq, callK_eq, lK_eq, andK_eq, orK_eq, eltK_eq, allK_eq, lcK_eq, sub2_eq, sub1_eq, ifS_eq, forK_eq, e_var, e_ci, e_cs, e_cb, e_cn, e_not, e_isN, e_notN, e_bin, e_cmp, e_ifx, e_tup, e_lst, e_dnew, e_idx, e_slc, e_call, e_bi, e_isi, e_bm, e_lc, l_nil, l_cons, o_none, o_some, and_one, and_two, or_one, or_two, all_nil, all_one, trB_bl, i_seq, i_str, i_rng, i_keys, i_items, s_nil, s_cons, s_asg, s_asgT, s_sub, s_exp, s_ret, s_retN, s_if, s_for, List.getElem?_cons_zero, List.getElem?_cons_succ, List.set_cons_zero, List.set_cons_succ, List.length_cons, List.length_nil, Nat.reduceAdd, Nat.reduceLT, if_true, Bool.not_true, Bool.not_false]
  have gl := g1.len
  refine ⟨lv, ms, _, μ1.length, g1.trans0 (Gr.app μ1 [.lst (ms.map D.str)]), (Gr.app μ1 _).get l6, lv0, lv2, lvt, hms, lms, get_last _ _, by omega, fun rest => ?_⟩
  rw [s_cons, s1, seq_nx, s_cons, s2, seq_nx, s_cons, s3, seq_nx]
end K32

/-! k32: a term drawn, the end -/
namespace K32
open PySem PI
theorem idx_mv2 {ps : List WkT} {f : Str} (h : ∃ p ∈ ps, p.1 = f) : ∃ q ∈ ps, ∀ μ, evIdx (.fd .k (ps.map mvD)) (.str f) μ = .ok (.tup [.fl (q.2.1.map D.str), .str q.2.2]) μ := by
  obtain ⟨p, hp, rfl⟩ := h
  exact idx_mv hp
def F14 (ps : List WkT) (nl ks : List Str) (d : Nat) : Prop := ∀ (n : Nat) (μ : Mem) (m a b : Nat) (as : List Str) (k : Str), St μ m → μ[a]? = some (.lst (nl.map D.str)) → μ[b]? = some (.lst (as.map D.str)) → a ≠ m → b ≠ m → as.length ≤ 10 → k ∈ ks → ∃ (t : Th) (μ' : Mem), nrm .val μ (PI.run pr (n + d + 2) 14 [.loc m, .fd .k (ps.map mvD), .str k, .loc a, .loc b, .int (d : Nat)] μ) = .ok (en t) μ' ∧ St μ' m ∧ Up [m] μ μ' ∧ μ'.length = μ.length ∧ Tm d as.length nl ks t
theorem f14_zero {ps : List WkT} {nl ks : List Str} (hf : ∀ p ∈ ps, Fit ks p) (hps : ps.length ≤ 16) (hn : nl ≠ []) (hnl : nl.length ≤ 3) : F14 ps nl ks 0 := by
  intro n μ m a b as k hs ha hb am bm las hk
  have hm : m < μ.length := by
    obtain ⟨_, _, h, _⟩ := hs
    exact (List.getElem?_eq_some_iff.mp h).1
  have fin : ∀ {d : Nat} {t : Th} {μ' : Mem}, St μ' m → Up [m] μ μ' → Tm d as.length nl ks t → ∃ (t' : Th) (μ2 : Mem), nrm .val μ (.ok (en t) μ') = .ok (en t') μ2 ∧ St μ2 m ∧ Up [m] μ μ2 ∧ μ2.length = μ.length ∧ Tm d as.length nl ks t' := fun {d t μ'} h u tm => by
    have g : Gr [m] μ μ' := St.gr u fun i hi _ => by rw [List.mem_singleton.mp hi]; exact h.solid
    obtain ⟨t1, t2, t3⟩ := take_up u
    exact ⟨t, _, nrm_val g (en_solid t), h.up (t3 m hm), t1, t2, tm⟩
  rw [PI.run]
  show ∃ (t : Th) (μ' : Mem), nrm .val μ (exL pr (PI.run pr (n + 0 + 1)) f14.body [some (.loc m), some (.fd .k (ps.map mvD)), some (.str k), some (.loc a), some (.loc b), some (.int (0 : Nat)), none, none, none, none, none, none, none] μ).out = .ok (en t) μ' ∧ _
  obtain ⟨lv, ms, μ2, cc, g1, l6, lv0, lv2, lvt, hms, lms, x2, lcc, ev⟩ := pre14 (C := PI.run pr (n + 0 + 1)) (m := m) (dp := .int ((0 : Nat))) hps hn hnl ha hb las hk
  rw [show f14.body = t14a :: t14b :: t14c :: f14.body.drop 3 from rfl, ev]
  let μ3 : Mem := μ2 ++ [Ob.lst []]
  have c3 : lstK [] μ2 = .ok (.loc μ2.length) μ3 := lst0 _
  have g3 : Gr [] μ2 μ3 := Gr.app μ2 _
  have ne : evCmp .ne (.loc cc) (.loc μ2.length) μ3 = .ok (.bl (!(ms.map D.str).isEmpty)) μ3 := ne_empty (n := 0) (f := 0) (by decide) ((Gr.app μ2 _).get x2) (Fz.strs ms) (py_strs _ _) (get_last μ2 _)
  have hs3 : St μ3 m := hs.gr0 (g1.trans0 g3)
  have u3 : Up [m] μ μ3 := (Up.refl _ _).gr0 (g1.trans0 g3)
  obtain ⟨t, ht, μ4, q, hs4, u4⟩ := leaf_end (n := n + 0) (σ := [some (.loc m), some (.fd .k (ps.map mvD)), some (.str k), some (.loc a), some (.loc b), some (.int (0 : Nat)), some (.loc (μ.length + 2)), some (.loc cc), none, none, none, none, none]) rfl rfl hs3 (g3.get l6) (by omega) lv0 lv2
  clear_value μ3
  rw [s_ret] at q
  have gt : evCmp .gt (.int (0 : Nat)) (.int 0) μ3 = .ok (.bl false) μ3 := rfl
  simp only [bind_ok, into_ok, seq_nx, seq_rt, seq_bk, seq_ct, out_rt, out_nx, vrD_ok, tup1, tup2, tup3, tup4, tup5, lst0, lst1, lst2, lst3, chB_t, chB_f, okB_some, tr_bl, setK_ok, kOk_eq, notK_eq, isNK_eq, notNK_eq, intO_ok, seqK_eq, strK_eq, rngK_eq, dctK_eq, consK_eq, someK_eq, noneK_eq, subK_ok, dropK_eq, retK_eq, asgK_eq, asgTK_eq, sub3_eq, binK_eq, cmpK_eq, idxK_eq, slcK2_eq, slcK_eq, ifK_eq, callK_eq, lK_eq, andK_eq, orK_eq, eltK_eq, allK_eq, lcK_eq, sub2_eq, sub1_eq, ifS_eq, forK_eq, e_var, e_ci, e_cs, e_cb, e_cn, e_not, e_isN, e_notN, e_bin, e_cmp, e_ifx, e_tup, e_lst, e_dnew, e_idx, e_slc, e_call, e_bi, e_isi, e_bm, e_lc, l_nil, l_cons, o_none, o_some, and_one, and_two, or_one, or_two, all_nil, all_one, trB_bl, i_seq, i_str, i_rng, i_keys, i_items, s_nil, s_cons, s_asg, s_asgT, s_sub, s_exp, s_ret, s_retN, s_if, s_for, List.getElem?_cons_zero, List.getElem?_cons_succ, List.set_cons_zero, List.set_cons_succ, List.length_cons, List.length_nil, Nat.reduceAdd, Nat.reduceLT, if_true, Bool.not_true, Bool.not_false] at q
  by_cases c : ms = []
  · have ne : evCmp .ne (.loc cc) (.loc μ2.length) μ3 = .ok (.bl false) μ3 := by rw [ne, c]; rfl
    simp only [f14, List.drop_succ_cons, List.drop_zero, c3, ne, q, bind_ok, into_ok, seq_nx, seq_rt, seq_bk, seq_ct, out_rt, out_nx, vrD_ok, tup1, tup2, tup3, tup4, tup5, lst0, lst1, lst2, lst3, chB_t, chB_f, okB_some, tr_bl, setK_ok, kOk_eq, notK_eq, isNK_eq, notNK_eq, intO_ok, seqK_eq, strK_eq, rngK_eq, dctK_eq, consK_eq, someK_eq, noneK_eq, subK_ok, dropK_eq, retK_eq, asgK_eq, asgTK_eq, sub3_eq, binK_eq, cmpK_eq, idxK_eq, slcK2_eq, slcK_eq, ifK_eq, callK_eq, lK_eq, andK_eq, orK_eq, eltK_eq, allK_eq, lcK_eq, sub2_eq, sub1_eq, ifS_eq, forK_eq, e_var, e_ci, e_cs, e_cb, e_cn, e_not, e_isN, e_notN, e_bin, e_cmp, e_ifx, e_tup, e_lst, e_dnew, e_idx, e_slc, e_call, e_bi, e_isi, e_bm, e_lc, l_nil, l_cons, o_none, o_some, and_one, and_two, or_one, or_two, all_nil, all_one, trB_bl, i_seq, i_str, i_rng, i_keys, i_items, s_nil, s_cons, s_asg, s_asgT, s_sub, s_exp, s_ret, s_retN, s_if, s_for, List.getElem?_cons_zero, List.getElem?_cons_succ, List.set_cons_zero, List.set_cons_succ, List.length_cons, List.length_nil, Nat.reduceAdd, Nat.reduceLT, if_true, Bool.not_true, Bool.not_false]
    exact fin hs4 (u3.trans u4) (Tm_leaf (lvt t ht))
  · have ne : evCmp .ne (.loc cc) (.loc μ2.length) μ3 = .ok (.bl true) μ3 := by
      rw [ne]
      cases ms with
      | nil => exact absurd rfl c
      | cons => rfl
    simp only [f14, List.drop_succ_cons, List.drop_zero, c3, ne, gt, q, bind_ok, into_ok, seq_nx, seq_rt, seq_bk, seq_ct, out_rt, out_nx, vrD_ok, tup1, tup2, tup3, tup4, tup5, lst0, lst1, lst2, lst3, chB_t, chB_f, okB_some, tr_bl, setK_ok, kOk_eq, notK_eq, isNK_eq, notNK_eq, intO_ok, seqK_eq, strK_eq, rngK_eq, dctK_eq, consK_eq, someK_eq, noneK_eq, subK_ok, dropK_eq, retK_eq, asgK_eq, asgTK_eq, sub3_eq, binK_eq, cmpK_eq, idxK_eq, slcK2_eq, slcK_eq, ifK_eq, callK_eq, lK_eq, andK_eq, orK_eq, eltK_eq, allK_eq, lcK_eq, sub2_eq, sub1_eq, ifS_eq, forK_eq, e_var, e_ci, e_cs, e_cb, e_cn, e_not, e_isN, e_notN, e_bin, e_cmp, e_ifx, e_tup, e_lst, e_dnew, e_idx, e_slc, e_call, e_bi, e_isi, e_bm, e_lc, l_nil, l_cons, o_none, o_some, and_one, and_two, or_one, or_two, all_nil, all_one, trB_bl, i_seq, i_str, i_rng, i_keys, i_items, s_nil, s_cons, s_asg, s_asgT, s_sub, s_exp, s_ret, s_retN, s_if, s_for, List.getElem?_cons_zero, List.getElem?_cons_succ, List.set_cons_zero, List.set_cons_succ, List.length_cons, List.length_nil, Nat.reduceAdd, Nat.reduceLT, if_true, Bool.not_true, Bool.not_false]
    exact fin hs4 (u3.trans u4) (Tm_leaf (lvt t ht))
theorem f14_succ {ps : List WkT} {nl ks : List Str} (hf : ∀ p ∈ ps, Fit ks p) (hps : ps.length ≤ 16) (hn : nl ≠ []) (hnl : nl.length ≤ 3) {d : Nat} (ih : F14 ps nl ks d) : F14 ps nl ks (d + 1) := by
  intro n μ m a b as k hs ha hb am bm las hk
  have hm : m < μ.length := by
    obtain ⟨_, _, h, _⟩ := hs
    exact (List.getElem?_eq_some_iff.mp h).1
  have fin : ∀ {d : Nat} {t : Th} {μ' : Mem}, St μ' m → Up [m] μ μ' → Tm d as.length nl ks t → ∃ (t' : Th) (μ2 : Mem), nrm .val μ (.ok (en t) μ') = .ok (en t') μ2 ∧ St μ2 m ∧ Up [m] μ μ2 ∧ μ2.length = μ.length ∧ Tm d as.length nl ks t' := fun {d t μ'} h u tm => by
    have g : Gr [m] μ μ' := St.gr u fun i hi _ => by rw [List.mem_singleton.mp hi]; exact h.solid
    obtain ⟨t1, t2, t3⟩ := take_up u
    exact ⟨t, _, nrm_val g (en_solid t), h.up (t3 m hm), t1, t2, tm⟩
  rw [PI.run]
  show ∃ (t : Th) (μ' : Mem), nrm .val μ (exL pr (PI.run pr (n + (d + 1) + 1)) f14.body [some (.loc m), some (.fd .k (ps.map mvD)), some (.str k), some (.loc a), some (.loc b), some (.int ((d + 1 : Nat) : Nat)), none, none, none, none, none, none, none] μ).out = .ok (en t) μ' ∧ _
  obtain ⟨lv, ms, μ2, cc, g1, l6, lv0, lv2, lvt, hms, lms, x2, lcc, ev⟩ := pre14 (C := PI.run pr (n + (d + 1) + 1)) (m := m) (dp := .int (((d + 1 : Nat) : Nat))) hps hn hnl ha hb las hk
  rw [show f14.body = t14a :: t14b :: t14c :: f14.body.drop 3 from rfl, ev]
  let μ3 : Mem := μ2 ++ [Ob.lst []]
  have c3 : lstK [] μ2 = .ok (.loc μ2.length) μ3 := lst0 _
  have g3 : Gr [] μ2 μ3 := Gr.app μ2 _
  have x3 : μ3[cc]? = some (.lst (ms.map D.str)) := (Gr.app μ2 _).get x2
  have ne : evCmp .ne (.loc cc) (.loc μ2.length) μ3 = .ok (.bl (!(ms.map D.str).isEmpty)) μ3 := ne_empty (n := 0) (f := 0) (by decide) x3 (Fz.strs ms) (py_strs _ _) (get_last μ2 _)
  have hs3 : St μ3 m := hs.gr0 (g1.trans0 g3)
  have u3 : Up [m] μ μ3 := (Up.refl _ _).gr0 (g1.trans0 g3)
  have l63 := g3.get l6
  clear_value μ3
  have gt : evCmp .gt (.int ((d + 1 : Nat) : Nat)) (.int 0) μ3 = .ok (.bl true) μ3 := by
    rw [gt_int, decide_eq_true (by omega)]
  by_cases c : ms = []
  · have ne : evCmp .ne (.loc cc) (.loc μ2.length) μ3 = .ok (.bl false) μ3 := by rw [ne, c]; rfl
    obtain ⟨t, ht, μ4, q, hs4, u4⟩ := leaf_end (n := n + (d + 1)) (σ := [some (.loc m), some (.fd .k (ps.map mvD)), some (.str k), some (.loc a), some (.loc b), some (.int ((d + 1 : Nat) : Nat)), some (.loc (μ.length + 2)), some (.loc cc), none, none, none, none, none]) rfl rfl hs3 l63 (by omega) lv0 lv2
    rw [s_ret] at q
    simp only [bind_ok, into_ok, seq_nx, seq_rt, seq_bk, seq_ct, out_rt, out_nx, vrD_ok, tup1, tup2, tup3, tup4, tup5, lst0, lst1, lst2, lst3, chB_t, chB_f, okB_some, tr_bl, setK_ok, kOk_eq, notK_eq, isNK_eq, notNK_eq, intO_ok, seqK_eq, strK_eq, rngK_eq, dctK_eq, consK_eq, someK_eq, noneK_eq, subK_ok, dropK_eq, retK_eq, asgK_eq, asgTK_eq, sub3_eq, binK_eq, cmpK_eq, idxK_eq, slcK2_eq, slcK_eq, ifK_eq, callK_eq, lK_eq, andK_eq, orK_eq, eltK_eq, allK_eq, lcK_eq, sub2_eq, sub1_eq, ifS_eq, forK_eq, e_var, e_ci, e_cs, e_cb, e_cn, e_not, e_isN, e_notN, e_bin, e_cmp, e_ifx, e_tup, e_lst, e_dnew, e_idx, e_slc, e_call, e_bi, e_isi, e_bm, e_lc, l_nil, l_cons, o_none, o_some, and_one, and_two, or_one, or_two, all_nil, all_one, trB_bl, i_seq, i_str, i_rng, i_keys, i_items, s_nil, s_cons, s_asg, s_asgT, s_sub, s_exp, s_ret, s_retN, s_if, s_for, List.getElem?_cons_zero, List.getElem?_cons_succ, List.set_cons_zero, List.set_cons_succ, List.length_cons, List.length_nil, Nat.reduceAdd, Nat.reduceLT, if_true, Bool.not_true, Bool.not_false] at q
    simp only [f14, List.drop_succ_cons, List.drop_zero, c3, ne, q, bind_ok, into_ok, seq_nx, seq_rt, seq_bk, seq_ct, out_rt, out_nx, vrD_ok, tup1, tup2, tup3, tup4, tup5, lst0, lst1, lst2, lst3, chB_t, chB_f, okB_some, tr_bl, setK_ok, kOk_eq, notK_eq, isNK_eq, notNK_eq, intO_ok, seqK_eq, strK_eq, rngK_eq, dctK_eq, consK_eq, someK_eq, noneK_eq, subK_ok, dropK_eq, retK_eq, asgK_eq, asgTK_eq, sub3_eq, binK_eq, cmpK_eq, idxK_eq, slcK2_eq, slcK_eq, ifK_eq, callK_eq, lK_eq, andK_eq, orK_eq, eltK_eq, allK_eq, lcK_eq, sub2_eq, sub1_eq, ifS_eq, forK_eq, e_var, e_ci, e_cs, e_cb, e_cn, e_not, e_isN, e_notN, e_bin, e_cmp, e_ifx, e_tup, e_lst, e_dnew, e_idx, e_slc, e_call, e_bi, e_isi, e_bm, e_lc, l_nil, l_cons, o_none, o_some, and_one, and_two, or_one, or_two, all_nil, all_one, trB_bl, i_seq, i_str, i_rng, i_keys, i_items, s_nil, s_cons, s_asg, s_asgT, s_sub, s_exp, s_ret, s_retN, s_if, s_for, List.getElem?_cons_zero, List.getElem?_cons_succ, List.set_cons_zero, List.set_cons_succ, List.length_cons, List.length_nil, Nat.reduceAdd, Nat.reduceLT, if_true, Bool.not_true, Bool.not_false]
    exact fin hs4 (u3.trans u4) (Tm_leaf (lvt t ht))
  · have ne : evCmp .ne (.loc cc) (.loc μ2.length) μ3 = .ok (.bl true) μ3 := by
      rw [ne]
      cases ms with
      | nil => exact absurd rfl c
      | cons => rfl
    obtain ⟨r, μ4, q8, r0, r1, hs4, u4, l4⟩ := f8_ok (n + (d + 1)) μ3 m 3 hs3 (by decide) (by decide)
    by_cases rz : 0 < r
    · have gr : evCmp .gt (.int r) (.int 0) μ4 = .ok (.bl true) μ4 := by rw [gt_int, decide_eq_true rz]
      have x4 := u4.get (by simp; omega) x3
      have ln4 := len_ev x4
      rw [List.length_map] at ln4
      have lp := List.length_pos_iff.mpr c
      obtain ⟨r2, μ5, q9, r20, r21, hs5, u5, l5⟩ := f8_ok (n + (d + 1)) μ4 m (ms.length : Nat) hs4 (by omega) (by omega)
      have hr : r2.toNat < ms.length := by omega
      have ix : evIdx (.loc cc) (.int r2) μ5 = .ok (.str ms[r2.toNat]) μ5 := idx_at (k := r2.toNat) (u5.get (by simp; omega) x4) (by omega) (by rw [List.getElem?_map, List.getElem?_eq_getElem hr]; rfl)
      obtain ⟨w, hw, im⟩ := idx_mv2 (hms _ (List.getElem_mem hr))
      have fw := hf w hw
      have i0 : ∀ μ, evIdx (.tup [.fl (w.2.1.map D.str), .str w.2.2]) (.int 0) μ = .ok (.fl (w.2.1.map D.str)) μ := fun _ => rfl
      have is : ∀ μ, itSeq μ (.fl (w.2.1.map D.str)) = .ok (w.2.1.map D.str, []) μ := fun _ => rfl
      have u35 : Up [m] μ μ5 := (u3.trans u4).trans u5
      obtain ⟨ts, μ6, e6, hs6, u6, x6, lts, pts⟩ := parts14 (C := PI.run pr (n + (d + 1) + 1)) (P := Tm d as.length nl ks) (a := a) (b := b) (mk := .fd .k (ps.map mvD)) (d := ((d + 1 : Nat) : Int)) (σ := [some (.loc m), some (.fd .k (ps.map mvD)), some (.str k), some (.loc a), some (.loc b), some (.int ((d + 1 : Nat) : Nat)), some (.loc (μ.length + 2)), some (.loc cc), some (.str ms[r2.toNat]), none, none, none, none]) (by have := u35.len; omega) hs5 rfl rfl rfl rfl rfl rfl fw.2.1 fw.1 fun s hsn μ7 u7 hs7 => by
        have := ih n μ7 m a b as s hs7 ((u35.trans u7).get (by simp [am]) ha) ((u35.trans u7).get (by simp [bm]) hb) am bm las hsn
        obtain ⟨t, μ8, k1, k2, k3, _, k5⟩ := this
        rw [show n + (d + 1) + 1 = n + d + 2 by omega, show ((d + 1 : Nat) : Int) - 1 = (d : Nat) by omega]
        exact ⟨t, μ8, k1, k2, k3, k5⟩
      have tp : evBI .tuple [.loc μ5.length] μ6 = .ok (.tup (enL ts)) μ6 := by
        show biTuple _ _ = _
        unfold biTuple seqOf
        simp only [x6]
      simp only [f14, List.drop_succ_cons, List.drop_zero, c3, ne, gt, q8, gr, ln4, q9, ix, im, i0, is, e6, tp, bind_ok, into_ok, seq_nx, seq_rt, seq_bk, seq_ct, out_rt, out_nx, vrD_ok, tup1, tup2, tup3, tup4, tup5, lst0, lst1, lst2, lst3, chB_t, chB_f, okB_some, tr_bl, setK_ok, kOk_eq, notK_eq, isNK_eq, notNK_eq, intO_ok, seqK_eq, strK_eq, rngK_eq, dctK_eq, consK_eq, someK_eq, noneK_eq, subK_ok, dropK_eq, retK_eq, asgK_eq, asgTK_eq, sub3_eq, binK_eq, cmpK_eq, idxK_eq, slcK2_eq, slcK_eq, ifK_eq, callK_eq, lK_eq, andK_eq, orK_eq, eltK_eq, allK_eq, lcK_eq, sub2_eq, sub1_eq, ifS_eq, forK_eq, e_var, e_ci, e_cs, e_cb, e_cn, e_not, e_isN, e_notN, e_bin, e_cmp, e_ifx, e_tup, e_lst, e_dnew, e_idx, e_slc, e_call, e_bi, e_isi, e_bm, e_lc, l_nil, l_cons, o_none, o_some, and_one, and_two, or_one, or_two, all_nil, all_one, trB_bl, i_seq, i_str, i_rng, i_keys, i_items, s_nil, s_cons, s_asg, s_asgT, s_sub, s_exp, s_ret, s_retN, s_if, s_for, List.getElem?_cons_zero, List.getElem?_cons_succ, List.set_cons_zero, List.set_cons_succ, List.length_cons, List.length_nil, Nat.reduceAdd, Nat.reduceLT, if_true, Bool.not_true, Bool.not_false]
      exact fin (t := .mk ms[r2.toNat] ts) hs6 (u35.trans u6) (Tm_mk pts lts)
    · have gr : evCmp .gt (.int r) (.int 0) μ4 = .ok (.bl false) μ4 := by rw [gt_int, decide_eq_false rz]
      obtain ⟨t, ht, μ5, q, hs5, u5⟩ := leaf_end (n := n + (d + 1)) (σ := [some (.loc m), some (.fd .k (ps.map mvD)), some (.str k), some (.loc a), some (.loc b), some (.int ((d + 1 : Nat) : Nat)), some (.loc (μ.length + 2)), some (.loc cc), none, none, none, none, none]) rfl rfl hs4 (u4.get (by simp; omega) l63) (by omega) lv0 lv2
      rw [s_ret] at q
      simp only [bind_ok, into_ok, seq_nx, seq_rt, seq_bk, seq_ct, out_rt, out_nx, vrD_ok, tup1, tup2, tup3, tup4, tup5, lst0, lst1, lst2, lst3, chB_t, chB_f, okB_some, tr_bl, setK_ok, kOk_eq, notK_eq, isNK_eq, notNK_eq, intO_ok, seqK_eq, strK_eq, rngK_eq, dctK_eq, consK_eq, someK_eq, noneK_eq, subK_ok, dropK_eq, retK_eq, asgK_eq, asgTK_eq, sub3_eq, binK_eq, cmpK_eq, idxK_eq, slcK2_eq, slcK_eq, ifK_eq, callK_eq, lK_eq, andK_eq, orK_eq, eltK_eq, allK_eq, lcK_eq, sub2_eq, sub1_eq, ifS_eq, forK_eq, e_var, e_ci, e_cs, e_cb, e_cn, e_not, e_isN, e_notN, e_bin, e_cmp, e_ifx, e_tup, e_lst, e_dnew, e_idx, e_slc, e_call, e_bi, e_isi, e_bm, e_lc, l_nil, l_cons, o_none, o_some, and_one, and_two, or_one, or_two, all_nil, all_one, trB_bl, i_seq, i_str, i_rng, i_keys, i_items, s_nil, s_cons, s_asg, s_asgT, s_sub, s_exp, s_ret, s_retN, s_if, s_for, List.getElem?_cons_zero, List.getElem?_cons_succ, List.set_cons_zero, List.set_cons_succ, List.length_cons, List.length_nil, Nat.reduceAdd, Nat.reduceLT, if_true, Bool.not_true, Bool.not_false] at q
      simp only [f14, List.drop_succ_cons, List.drop_zero, c3, ne, gt, q8, gr, q, bind_ok, into_ok, seq_nx, seq_rt, seq_bk, seq_ct, out_rt, out_nx, vrD_ok, tup1, tup2, tup3, tup4, tup5, lst0, lst1, lst2, lst3, chB_t, chB_f, okB_some, tr_bl, setK_ok, kOk_eq, notK_eq, isNK_eq, notNK_eq, intO_ok, seqK_eq, strK_eq, rngK_eq, dctK_eq, consK_eq, someK_eq, noneK_eq, subK_ok, dropK_eq, retK_eq, asgK_eq, asgTK_eq, sub3_eq, binK_eq, cmpK_eq, idxK_eq, slcK2_eq, slcK_eq, ifK_eq, callK_eq, lK_eq, andK_eq, orK_eq, eltK_eq, allK_eq, lcK_eq, sub2_eq, sub1_eq, ifS_eq, forK_eq, e_var, e_ci, e_cs, e_cb, e_cn, e_not, e_isN, e_notN, e_bin, e_cmp, e_ifx, e_tup, e_lst, e_dnew, e_idx, e_slc, e_call, e_bi, e_isi, e_bm, e_lc, l_nil, l_cons, o_none, o_some, and_one, and_two, or_one, or_two, all_nil, all_one, trB_bl, i_seq, i_str, i_rng, i_keys, i_items, s_nil, s_cons, s_asg, s_asgT, s_sub, s_exp, s_ret, s_retN, s_if, s_for, List.getElem?_cons_zero, List.getElem?_cons_succ, List.set_cons_zero, List.set_cons_succ, List.length_cons, List.length_nil, Nat.reduceAdd, Nat.reduceLT, if_true, Bool.not_true, Bool.not_false]
      exact fin hs5 ((u3.trans u4).trans u5) (Tm_leaf (lvt t ht))
theorem f14_ok {ps : List WkT} {nl ks : List Str} (hf : ∀ p ∈ ps, Fit ks p) (hps : ps.length ≤ 16) (hn : nl ≠ []) (hnl : nl.length ≤ 3) : ∀ d, F14 ps nl ks d
  | 0 => f14_zero hf hps hn hnl
  | d + 1 => f14_succ hf hps hn hnl (f14_ok hf hps hn hnl d)
end K32

/-! k32: a saying drawn -/
namespace K32
open PySem PI
structure Sg (d b : Nat) (nl ks : List Str) (t : Th) : Prop where
  hun : un t = true
  hbd : bds b t = true
  hht : ht t ≤ d + 4
  hwd : wd t ≤ 3
  hnm : ∀ p ∈ nms t, p.1 ∈ nl ∧ p.2 ∈ ks
  hmy : (nms t).length ≤ 18 * 2 ^ d
theorem Sg.up {d d' b : Nat} {nl ks : List Str} {t : Th} (h : Sg d b nl ks t) (hd : d ≤ d') : Sg d' b nl ks t := ⟨h.hun, h.hbd, by have := h.hht; omega, h.hwd, h.hnm, Nat.le_trans h.hmy (Nat.mul_le_mul_left _ (Nat.pow_le_pow_right (by decide) hd))⟩
theorem Sg_no {d b : Nat} {nl ks : List Str} : Sg d b nl ks (.op .no []) := ⟨rfl, rfl, by show 0 + 1 ≤ _; omega, by simp [wd, wdL], fun _ h => absurd h List.not_mem_nil, Nat.zero_le _⟩
theorem Sg_same {d e b : Nat} (he : e ≤ 2) {nl ks : List Str} {t s : Th} (h : Tm e b nl ks t) (g : Tm e b nl ks s) : Sg d b nl ks (.op .same [t, s]) := by
  have p : 3 ^ e ≤ 9 := by
    rcases (by omega : e = 0 ∨ e = 1 ∨ e = 2) with rfl | rfl | rfl <;> decide
  have q : 1 ≤ 2 ^ d := Nat.pos_of_ne_zero (by simp)
  have := h.hht
  have := g.hht
  have := h.hwd
  have := g.hwd
  have := h.hmy
  have := g.hmy
  refine ⟨by simp [un, unL, h.hun, g.hun], by simp [bds, bdsL, h.hbd, g.hbd], by simp only [ht, htL]; omega, by simp only [wd, wdL, List.length_cons, List.length_nil]; omega, fun p hp => ?_, ?_⟩
  · simp only [nms, nmsL, List.append_nil] at hp
    rcases List.mem_append.mp hp with k | k
    · exact h.hnm p k
    · exact g.hnm p k
  · simp only [nms, nmsL, List.append_nil, List.length_append]
    omega
theorem Sg_not {d b : Nat} {nl ks : List Str} {t : Th} (h : Sg d b nl ks t) : Sg (d + 1) b nl ks (.op .nt [t]) := by
  have := h.hht
  have := h.hwd
  have := h.hmy
  refine ⟨by simp [un, unL, h.hun], by simp [bds, bdsL, h.hbd], by simp only [ht, htL]; omega, by simp only [wd, wdL, List.length_cons, List.length_nil]; omega, fun p hp => ?_, ?_⟩
  · simp only [nms, nmsL, List.append_nil] at hp
    exact h.hnm p hp
  · simp only [nms, nmsL, List.append_nil, Nat.pow_succ]
    omega
theorem Sg_two {d b : Nat} {nl ks : List Str} {t s : Th} (w : W6) (h : Sg d b nl ks t) (g : Sg d b nl ks s) : Sg (d + 1) b nl ks (.op w [t, s]) := by
  have := h.hht
  have := g.hht
  have := h.hwd
  have := g.hwd
  have := h.hmy
  have := g.hmy
  refine ⟨by simp [un, unL, h.hun, g.hun], by simp [bds, bdsL, h.hbd, g.hbd], by simp only [ht, htL]; omega, by simp only [wd, wdL, List.length_cons, List.length_nil]; omega, fun p hp => ?_, ?_⟩
  · simp only [nms, nmsL, List.append_nil] at hp
    rcases List.mem_append.mp hp with k | k
    · exact h.hnm p k
    · exact g.hnm p k
  · simp only [nms, nmsL, List.append_nil, List.length_append, Nat.pow_succ]
    omega
theorem Sg_qt {d b : Nat} {nl ks : List Str} {t : Th} (w : Bool) (k : Str) (h : Sg d (b + 1) nl ks t) : Sg (d + 1) b nl ks (.qt w k t) := by
  have := h.hht
  have := h.hmy
  refine ⟨by simp only [un, h.hun], by simp only [bds, h.hbd], by simp only [ht]; omega, by simp only [wd]; exact h.hwd, fun p hp => ?_, ?_⟩
  · simp only [nms] at hp
    exact h.hnm p hp
  · simp only [nms, Nat.pow_succ]
    omega
end K32

/-! k32: a saying drawn, whole -/
namespace K32
open PySem PI
def F15 (ps : List WkT) (nl ks : List Str) (e d : Nat) : Prop := ∀ (n : Nat) (μ : Mem) (m kl a b : Nat) (as : List Str), St μ m → μ[kl]? = some (.lst (ks.map D.str)) → μ[a]? = some (.lst (nl.map D.str)) → μ[b]? = some (.lst (as.map D.str)) → kl ≠ m → a ≠ m → b ≠ m → as.length + d ≤ 10 →
  ∃ (t : Th) (μ' : Mem), nrm .val μ (PI.run pr (n + d + e + 3) 15 [.loc m, .fd .k (ps.map mvD), .loc kl, .loc a, .loc b, .int (d : Nat), .int (e : Nat)] μ) = .ok (en t) μ' ∧ St μ' m ∧ Up [m] μ μ' ∧ μ'.length = μ.length ∧ Sg d as.length nl ks t
theorem lt_ev (i j : Int) (μ : Mem) : evCmp .lt (.int i) (.int j) μ = .ok (.bl (decide (i < j))) μ := rfl
theorem eq_ev (i j : Int) (μ : Mem) : evCmp .eq (.int i) (.int j) μ = .ok (.bl (i == j)) μ := rfl
/-- a kind of a list of kinds -/
theorem pickL {n m kl : Nat} {ks : List Str} (h0 : ks ≠ []) (h4 : ks.length ≤ 100) {μ : Mem} (hs : St μ m) (hk : μ[kl]? = some (.lst (ks.map D.str))) (hm : kl ≠ m) :
    ∃ k ∈ ks, ∃ (r : Int) (μ' : Mem), evBI .len [.loc kl] μ = .ok (.int (ks.length : Nat)) μ ∧ nrm .val μ (PI.run pr (n + 1) 8 [.loc m, .int (ks.length : Nat)] μ) = .ok (.int r) μ' ∧ evIdx (.loc kl) (.int r) μ' = .ok (.str k) μ' ∧ St μ' m ∧ Up [m] μ μ' ∧ μ'.length = μ.length := by
  have ln := len_ev hk
  rw [List.length_map] at ln
  have := List.length_pos_iff.mpr h0
  obtain ⟨r, μ', q, r0, r1, h1, u, l⟩ := f8_ok n μ m (ks.length : Nat) hs (by omega) (by omega)
  have hr : r.toNat < ks.length := by omega
  exact ⟨ks[r.toNat], List.getElem_mem hr, r, μ', ln, q, idx_at (k := r.toNat) (u.get (by simp [hm]) hk) (by omega) (by rw [List.getElem?_map, List.getElem?_eq_getElem hr]; rfl), h1, u, l⟩
section
variable {ps : List WkT} {nl ks : List Str} {e : Nat} (hf : ∀ p ∈ ps, Fit ks p) (hps : ps.length ≤ 16) (hn : nl ≠ []) (hnl : nl.length ≤ 3) (hk0 : ks ≠ []) (hk4 : ks.length ≤ 4) (he : e ≤ 2)
include hf hps hn hnl hk0 hk4 he
theorem f15_zero : F15 ps nl ks e 0 := by
  intro n μ m kl a b as hs hkl ha hb nk am bm las
  have hm : m < μ.length := by
    obtain ⟨_, _, h, _⟩ := hs
    exact (List.getElem?_eq_some_iff.mp h).1
  have fin : ∀ {t : Th} {μ' : Mem}, St μ' m → Up [m] μ μ' → Sg 0 as.length nl ks t → ∃ (t' : Th) (μ2 : Mem), nrm .val μ (.ok (en t) μ') = .ok (en t') μ2 ∧ St μ2 m ∧ Up [m] μ μ2 ∧ μ2.length = μ.length ∧ Sg 0 as.length nl ks t' := fun {t μ'} h u tm => by
    have g : Gr [m] μ μ' := St.gr u fun i hi _ => by rw [List.mem_singleton.mp hi]; exact h.solid
    obtain ⟨t1, t2, t3⟩ := take_up u
    exact ⟨t, _, nrm_val g (en_solid t), h.up (t3 m hm), t1, t2, tm⟩
  rw [PI.run]
  show ∃ (t : Th) (μ' : Mem), nrm .val μ (exL pr (PI.run pr (n + 0 + e + 2)) f15.body [some (.loc m), some (.fd .k (ps.map mvD)), some (.loc kl), some (.loc a), some (.loc b), some (.int (0 : Nat)), some (.int (e : Nat)), none, none, none, none] μ).out = .ok (en t) μ' ∧ _
  obtain ⟨w, μ1, q1, w0, w1, hs1, u1, l1⟩ := f8_ok (n + 0 + e + 1) μ m 9 hs (by decide) (by decide)
  by_cases c0 : w = 0
  · subst c0
    have z : ((0 : Int) == 0) = true := rfl
    simp only [f15, q1, eq_ev, z, bind_ok, into_ok, seq_nx, seq_rt, seq_bk, seq_ct, out_rt, out_nx, vrD_ok, tup1, tup2, tup3, tup4, tup5, lst0, lst1, lst2, lst3, chB_t, chB_f, okB_some, tr_bl, setK_ok, kOk_eq, notK_eq, isNK_eq, notNK_eq, intO_ok, seqK_eq, strK_eq, rngK_eq, dctK_eq, consK_eq, someK_eq, noneK_eq, subK_ok, dropK_eq, retK_eq, asgK_eq, asgTK_eq, sub3_eq, binK_eq, cmpK_eq, idxK_eq, slcK2_eq, slcK_eq, ifK_eq, callK_eq, lK_eq, andK_eq, orK_eq, eltK_eq, allK_eq, lcK_eq, sub2_eq, sub1_eq, ifS_eq, forK_eq, e_var, e_ci, e_cs, e_cb, e_cn, e_not, e_isN, e_notN, e_bin, e_cmp, e_ifx, e_tup, e_lst, e_dnew, e_idx, e_slc, e_call, e_bi, e_isi, e_bm, e_lc, l_nil, l_cons, o_none, o_some, and_one, and_two, or_one, or_two, all_nil, all_one, trB_bl, i_seq, i_str, i_rng, i_keys, i_items, s_nil, s_cons, s_asg, s_asgT, s_sub, s_exp, s_ret, s_retN, s_if, s_for, List.getElem?_cons_zero, List.getElem?_cons_succ, List.set_cons_zero, List.set_cons_succ, List.length_cons, List.length_nil, Nat.reduceAdd, Nat.reduceLT, if_true, Bool.not_true, Bool.not_false]
    exact fin (t := .op .no []) hs1 u1 Sg_no
  · have z : (w == 0) = false := by rw [beq_eq_false_iff_ne]; exact c0
    obtain ⟨k, hk, r, μ2, ln, q2, ix, hs2, u2, l2⟩ := pickL (n := n + 0 + e + 1) hk0 (by omega) hs1 (u1.get (by simp [nk]) hkl) nk
    have u12 := u1.trans u2
    obtain ⟨t, μ3, q3, hs3, u3, l3, tm3⟩ := f14_ok hf hps hn hnl e (n + 0) μ2 m a b as k hs2 (u12.get (by simp [am]) ha) (u12.get (by simp [bm]) hb) am bm (by omega) hk
    have u13 := u12.trans u3
    obtain ⟨s, μ4, q4, hs4, u4, l4, tm4⟩ := f14_ok hf hps hn hnl e (n + 0) μ3 m a b as k hs3 (u13.get (by simp [am]) ha) (u13.get (by simp [bm]) hb) am bm (by omega) hk
    have zz : (((0 : Nat) : Int) == 0) = true := rfl
    have ed : en (.op .same [t, s]) = .tup [.str "same", en t, en s] := rfl
    by_cases c3 : w < 3
    · have lt := decide_eq_true c3
      simp only [f15, q1, eq_ev, z, ln, q2, ix, lt_ev, lt, q3, q4, bind_ok, into_ok, seq_nx, seq_rt, seq_bk, seq_ct, out_rt, out_nx, vrD_ok, tup1, tup2, tup3, tup4, tup5, lst0, lst1, lst2, lst3, chB_t, chB_f, okB_some, tr_bl, setK_ok, kOk_eq, notK_eq, isNK_eq, notNK_eq, intO_ok, seqK_eq, strK_eq, rngK_eq, dctK_eq, consK_eq, someK_eq, noneK_eq, subK_ok, dropK_eq, retK_eq, asgK_eq, asgTK_eq, sub3_eq, binK_eq, cmpK_eq, idxK_eq, slcK2_eq, slcK_eq, ifK_eq, callK_eq, lK_eq, andK_eq, orK_eq, eltK_eq, allK_eq, lcK_eq, sub2_eq, sub1_eq, ifS_eq, forK_eq, e_var, e_ci, e_cs, e_cb, e_cn, e_not, e_isN, e_notN, e_bin, e_cmp, e_ifx, e_tup, e_lst, e_dnew, e_idx, e_slc, e_call, e_bi, e_isi, e_bm, e_lc, l_nil, l_cons, o_none, o_some, and_one, and_two, or_one, or_two, all_nil, all_one, trB_bl, i_seq, i_str, i_rng, i_keys, i_items, s_nil, s_cons, s_asg, s_asgT, s_sub, s_exp, s_ret, s_retN, s_if, s_for, List.getElem?_cons_zero, List.getElem?_cons_succ, List.set_cons_zero, List.set_cons_succ, List.length_cons, List.length_nil, Nat.reduceAdd, Nat.reduceLT, if_true, Bool.not_true, Bool.not_false]
      rw [← ed]
      exact fin hs4 (u13.trans u4) (Sg_same he tm3 tm4)
    · have lt := decide_eq_false c3
      simp only [f15, q1, eq_ev, z, ln, q2, ix, lt_ev, lt, zz, q3, q4, bind_ok, into_ok, seq_nx, seq_rt, seq_bk, seq_ct, out_rt, out_nx, vrD_ok, tup1, tup2, tup3, tup4, tup5, lst0, lst1, lst2, lst3, chB_t, chB_f, okB_some, tr_bl, setK_ok, kOk_eq, notK_eq, isNK_eq, notNK_eq, intO_ok, seqK_eq, strK_eq, rngK_eq, dctK_eq, consK_eq, someK_eq, noneK_eq, subK_ok, dropK_eq, retK_eq, asgK_eq, asgTK_eq, sub3_eq, binK_eq, cmpK_eq, idxK_eq, slcK2_eq, slcK_eq, ifK_eq, callK_eq, lK_eq, andK_eq, orK_eq, eltK_eq, allK_eq, lcK_eq, sub2_eq, sub1_eq, ifS_eq, forK_eq, e_var, e_ci, e_cs, e_cb, e_cn, e_not, e_isN, e_notN, e_bin, e_cmp, e_ifx, e_tup, e_lst, e_dnew, e_idx, e_slc, e_call, e_bi, e_isi, e_bm, e_lc, l_nil, l_cons, o_none, o_some, and_one, and_two, or_one, or_two, all_nil, all_one, trB_bl, i_seq, i_str, i_rng, i_keys, i_items, s_nil, s_cons, s_asg, s_asgT, s_sub, s_exp, s_ret, s_retN, s_if, s_for, List.getElem?_cons_zero, List.getElem?_cons_succ, List.set_cons_zero, List.set_cons_succ, List.length_cons, List.length_nil, Nat.reduceAdd, Nat.reduceLT, if_true, Bool.not_true, Bool.not_false]
      rw [← ed]
      exact fin hs4 (u13.trans u4) (Sg_same he tm3 tm4)
end
end K32

/-! k32: a saying drawn, deeper -/
namespace K32
open PySem PI
theorem sub_ev (i j : Int) (μ : Mem) : evBin .sub (.int i) (.int j) μ = .ok (.int (i - j)) μ := rfl
section
variable {ps : List WkT} {nl ks : List Str} {e : Nat} (hf : ∀ p ∈ ps, Fit ks p) (hps : ps.length ≤ 16) (hn : nl ≠ []) (hnl : nl.length ≤ 3) (hk0 : ks ≠ []) (hk4 : ks.length ≤ 4) (he : e ≤ 2)
include hf hps hn hnl hk0 hk4 he
theorem f15_succ {d : Nat} (ih : F15 ps nl ks e d) : F15 ps nl ks e (d + 1) := by
  intro n μ m kl a b as hs hkl ha hb nk am bm las
  have hm : m < μ.length := by
    obtain ⟨_, _, h, _⟩ := hs
    exact (List.getElem?_eq_some_iff.mp h).1
  have fin : ∀ {t : Th} {μ' : Mem}, St μ' m → Up [m] μ μ' → Sg (d + 1) as.length nl ks t → ∃ (t' : Th) (μ2 : Mem), nrm .val μ (.ok (en t) μ') = .ok (en t') μ2 ∧ St μ2 m ∧ Up [m] μ μ2 ∧ μ2.length = μ.length ∧ Sg (d + 1) as.length nl ks t' := fun {t μ'} h u tm => by
    have g : Gr [m] μ μ' := St.gr u fun i hi _ => by rw [List.mem_singleton.mp hi]; exact h.solid
    obtain ⟨t1, t2, t3⟩ := take_up u
    exact ⟨t, _, nrm_val g (en_solid t), h.up (t3 m hm), t1, t2, tm⟩
  rw [show n + (d + 1) + e + 3 = (n + d + e + 3) + 1 by omega, PI.run]
  show ∃ (t : Th) (μ' : Mem), nrm .val μ (exL pr (PI.run pr (n + d + e + 3)) f15.body [some (.loc m), some (.fd .k (ps.map mvD)), some (.loc kl), some (.loc a), some (.loc b), some (.int (d + 1 : Nat)), some (.int (e : Nat)), none, none, none, none] μ).out = .ok (en t) μ' ∧ _
  obtain ⟨w, μ1, q1, w0, w1, hs1, u1, l1⟩ := f8_ok (n + d + e + 2) μ m 9 hs (by decide) (by decide)
  by_cases c0 : w = 0
  · subst c0
    have z : ((0 : Int) == 0) = true := rfl
    simp only [f15, q1, eq_ev, z, bind_ok, into_ok, seq_nx, seq_rt, seq_bk, seq_ct, out_rt, out_nx, vrD_ok, tup1, tup2, tup3, tup4, tup5, lst0, lst1, lst2, lst3, chB_t, chB_f, okB_some, tr_bl, setK_ok, kOk_eq, notK_eq, isNK_eq, notNK_eq, intO_ok, seqK_eq, strK_eq, rngK_eq, dctK_eq, consK_eq, someK_eq, noneK_eq, subK_ok, dropK_eq, retK_eq, asgK_eq, asgTK_eq, sub3_eq, binK_eq, cmpK_eq, idxK_eq, slcK2_eq, slcK_eq, ifK_eq, callK_eq, lK_eq, andK_eq, orK_eq, eltK_eq, allK_eq, lcK_eq, sub2_eq, sub1_eq, ifS_eq, forK_eq, e_var, e_ci, e_cs, e_cb, e_cn, e_not, e_isN, e_notN, e_bin, e_cmp, e_ifx, e_tup, e_lst, e_dnew, e_idx, e_slc, e_call, e_bi, e_isi, e_bm, e_lc, l_nil, l_cons, o_none, o_some, and_one, and_two, or_one, or_two, all_nil, all_one, trB_bl, i_seq, i_str, i_rng, i_keys, i_items, s_nil, s_cons, s_asg, s_asgT, s_sub, s_exp, s_ret, s_retN, s_if, s_for, List.getElem?_cons_zero, List.getElem?_cons_succ, List.set_cons_zero, List.set_cons_succ, List.length_cons, List.length_nil, Nat.reduceAdd, Nat.reduceLT, if_true, Bool.not_true, Bool.not_false]
    exact fin (t := .op .no []) hs1 u1 Sg_no
  have z : (w == 0) = false := by rw [beq_eq_false_iff_ne]; exact c0
  have zd : (((d + 1 : Nat) : Int) == 0) = false := by rw [beq_eq_false_iff_ne]; omega
  have dd1 : ((d + 1 : Nat) : Int) - 1 = (d : Nat) := by omega
  obtain ⟨k, hk, r, μ2, ln, q2, ix, hs2, u2, l2⟩ := pickL (n := n + d + e + 2) hk0 (by omega) hs1 (u1.get (by simp [nk]) hkl) nk
  have u12 := u1.trans u2
  have a2 := u12.get (by simp [am]) ha
  have b2 := u12.get (by simp [bm]) hb
  have k2 := u12.get (by simp [nk]) hkl
  by_cases c3 : w < 3
  · have lt := decide_eq_true c3
    obtain ⟨t, μ3, q3, hs3, u3, l3, tm3⟩ := f14_ok hf hps hn hnl e (n + d + 1) μ2 m a b as k hs2 a2 b2 am bm (by omega) hk
    have u13 := u12.trans u3
    obtain ⟨s, μ4, q4, hs4, u4, l4, tm4⟩ := f14_ok hf hps hn hnl e (n + d + 1) μ3 m a b as k hs3 (u13.get (by simp [am]) ha) (u13.get (by simp [bm]) hb) am bm (by omega) hk
    have ed : en (.op .same [t, s]) = .tup [.str "same", en t, en s] := rfl
    rw [show n + d + 1 + e + 2 = n + d + e + 3 by omega] at q3 q4
    simp only [f15, q1, eq_ev, z, ln, q2, ix, lt_ev, lt, q3, q4, bind_ok, into_ok, seq_nx, seq_rt, seq_bk, seq_ct, out_rt, out_nx, vrD_ok, tup1, tup2, tup3, tup4, tup5, lst0, lst1, lst2, lst3, chB_t, chB_f, okB_some, tr_bl, setK_ok, kOk_eq, notK_eq, isNK_eq, notNK_eq, intO_ok, seqK_eq, strK_eq, rngK_eq, dctK_eq, consK_eq, someK_eq, noneK_eq, subK_ok, dropK_eq, retK_eq, asgK_eq, asgTK_eq, sub3_eq, binK_eq, cmpK_eq, idxK_eq, slcK2_eq, slcK_eq, ifK_eq, callK_eq, lK_eq, andK_eq, orK_eq, eltK_eq, allK_eq, lcK_eq, sub2_eq, sub1_eq, ifS_eq, forK_eq, e_var, e_ci, e_cs, e_cb, e_cn, e_not, e_isN, e_notN, e_bin, e_cmp, e_ifx, e_tup, e_lst, e_dnew, e_idx, e_slc, e_call, e_bi, e_isi, e_bm, e_lc, l_nil, l_cons, o_none, o_some, and_one, and_two, or_one, or_two, all_nil, all_one, trB_bl, i_seq, i_str, i_rng, i_keys, i_items, s_nil, s_cons, s_asg, s_asgT, s_sub, s_exp, s_ret, s_retN, s_if, s_for, List.getElem?_cons_zero, List.getElem?_cons_succ, List.set_cons_zero, List.set_cons_succ, List.length_cons, List.length_nil, Nat.reduceAdd, Nat.reduceLT, if_true, Bool.not_true, Bool.not_false]
    rw [← ed]
    exact fin hs4 (u13.trans u4) (Sg_same he tm3 tm4)
  have lt := decide_eq_false c3
  by_cases c4 : w = 3
  · subst c4
    obtain ⟨t, μ3, q3, hs3, u3, l3, sg3⟩ := ih n μ2 m kl a b as hs2 k2 a2 b2 nk am bm (by omega)
    have z3 : ((3 : Int) == 3) = true := rfl
    have ed : en (.op .nt [t]) = .tup [.str "not", en t] := rfl
    simp only [f15, q1, eq_ev, z, ln, q2, ix, lt_ev, lt, zd, z3, sub_ev, dd1, q3, bind_ok, into_ok, seq_nx, seq_rt, seq_bk, seq_ct, out_rt, out_nx, vrD_ok, tup1, tup2, tup3, tup4, tup5, lst0, lst1, lst2, lst3, chB_t, chB_f, okB_some, tr_bl, setK_ok, kOk_eq, notK_eq, isNK_eq, notNK_eq, intO_ok, seqK_eq, strK_eq, rngK_eq, dctK_eq, consK_eq, someK_eq, noneK_eq, subK_ok, dropK_eq, retK_eq, asgK_eq, asgTK_eq, sub3_eq, binK_eq, cmpK_eq, idxK_eq, slcK2_eq, slcK_eq, ifK_eq, callK_eq, lK_eq, andK_eq, orK_eq, eltK_eq, allK_eq, lcK_eq, sub2_eq, sub1_eq, ifS_eq, forK_eq, e_var, e_ci, e_cs, e_cb, e_cn, e_not, e_isN, e_notN, e_bin, e_cmp, e_ifx, e_tup, e_lst, e_dnew, e_idx, e_slc, e_call, e_bi, e_isi, e_bm, e_lc, l_nil, l_cons, o_none, o_some, and_one, and_two, or_one, or_two, all_nil, all_one, trB_bl, i_seq, i_str, i_rng, i_keys, i_items, s_nil, s_cons, s_asg, s_asgT, s_sub, s_exp, s_ret, s_retN, s_if, s_for, List.getElem?_cons_zero, List.getElem?_cons_succ, List.set_cons_zero, List.set_cons_succ, List.length_cons, List.length_nil, Nat.reduceAdd, Nat.reduceLT, if_true, Bool.not_true, Bool.not_false]
    rw [← ed]
    exact fin hs3 (u12.trans u3) (Sg_not sg3)
  have z3 : (w == 3) = false := by rw [beq_eq_false_iff_ne]; exact c4
  by_cases c7 : w < 7
  · have lt7 := decide_eq_true c7
    obtain ⟨t, μ3, q3, hs3, u3, l3, sg3⟩ := ih n μ2 m kl a b as hs2 k2 a2 b2 nk am bm (by omega)
    have u13 := u12.trans u3
    obtain ⟨s, μ4, q4, hs4, u4, l4, sg4⟩ := ih n μ3 m kl a b as hs3 (u13.get (by simp [nk]) hkl) (u13.get (by simp [am]) ha) (u13.get (by simp [bm]) hb) nk am bm (by omega)
    have l5 := lst3 (.str "and") (.str "or") (.str "so") μ4
    have u14 := u13.trans u4
    let μ5 : Mem := μ4 ++ [Ob.lst [.str "and", .str "or", .str "so"]]
    have x5 : μ5[μ4.length]? = some (.lst [.str "and", .str "or", .str "so"]) := get_last _ _
    have g5 : Gr [] μ4 μ5 := Gr.app _ _
    have l5 : lstK [.str "and", .str "or", .str "so"] μ4 = .ok (.loc μ4.length) μ5 := l5
    have pk : ∃ v : W6, evIdx (.loc μ4.length) (.int (w - 4)) μ5 = .ok (.str v.s) μ5 := by
      rcases (by omega : w - 4 = (0 : Nat) ∨ w - 4 = (1 : Nat) ∨ w - 4 = (2 : Nat)) with h | h | h
      · exact ⟨.an, idx_at x5 h rfl⟩
      · exact ⟨.or, idx_at x5 h rfl⟩
      · exact ⟨.so, idx_at x5 h rfl⟩
    obtain ⟨v, pk⟩ := pk
    clear_value μ5
    have ed : en (.op v [t, s]) = .tup [.str v.s, en t, en s] := rfl
    simp only [f15, q1, eq_ev, z, ln, q2, ix, lt_ev, lt, lt7, zd, z3, sub_ev, dd1, q3, q4, l5, pk, bind_ok, into_ok, seq_nx, seq_rt, seq_bk, seq_ct, out_rt, out_nx, vrD_ok, tup1, tup2, tup3, tup4, tup5, lst0, lst1, lst2, lst3, chB_t, chB_f, okB_some, tr_bl, setK_ok, kOk_eq, notK_eq, isNK_eq, notNK_eq, intO_ok, seqK_eq, strK_eq, rngK_eq, dctK_eq, consK_eq, someK_eq, noneK_eq, subK_ok, dropK_eq, retK_eq, asgK_eq, asgTK_eq, sub3_eq, binK_eq, cmpK_eq, idxK_eq, slcK2_eq, slcK_eq, ifK_eq, callK_eq, lK_eq, andK_eq, orK_eq, eltK_eq, allK_eq, lcK_eq, sub2_eq, sub1_eq, ifS_eq, forK_eq, e_var, e_ci, e_cs, e_cb, e_cn, e_not, e_isN, e_notN, e_bin, e_cmp, e_ifx, e_tup, e_lst, e_dnew, e_idx, e_slc, e_call, e_bi, e_isi, e_bm, e_lc, l_nil, l_cons, o_none, o_some, and_one, and_two, or_one, or_two, all_nil, all_one, trB_bl, i_seq, i_str, i_rng, i_keys, i_items, s_nil, s_cons, s_asg, s_asgT, s_sub, s_exp, s_ret, s_retN, s_if, s_for, List.getElem?_cons_zero, List.getElem?_cons_succ, List.set_cons_zero, List.set_cons_succ, List.length_cons, List.length_nil, Nat.reduceAdd, Nat.reduceLT, if_true, Bool.not_true, Bool.not_false]
    rw [← ed]
    exact fin (hs4.gr0 g5) (u14.gr0 g5) (Sg_two v sg3 sg4)
  have lt7 := decide_eq_false c7
  let μ3 : Mem := μ2 ++ [Ob.lst [.str "all", .str "some"]]
  let μ4 : Mem := μ3 ++ [Ob.lst [.str k]]
  let μ5 : Mem := μ4 ++ [Ob.lst ((k :: as).map D.str)]
  have x3 : μ3[μ2.length]? = some (.lst [.str "all", .str "some"]) := get_last _ _
  have g3 : Gr [] μ2 μ3 := Gr.app _ _
  have g4 : Gr [] μ3 μ4 := Gr.app _ _
  have g5 : Gr [] μ4 μ5 := Gr.app _ _
  have g35 : Gr [] μ2 μ5 := (g3.trans0 g4).trans0 g5
  have l3 : lstK [.str "all", .str "some"] μ2 = .ok (.loc μ2.length) μ3 := lst2 _ _ _
  have l4 : lstK [.str k] μ3 = .ok (.loc μ3.length) μ4 := lst1 _ _
  have pk : ∃ v : Bool, evIdx (.loc μ2.length) (.int (w - 7)) μ3 = .ok (.str (qs v)) μ3 := by
    rcases (by omega : w - 7 = (0 : Nat) ∨ w - 7 = (1 : Nat)) with h | h
    · exact ⟨true, idx_at x3 h rfl⟩
    · exact ⟨false, idx_at x3 h rfl⟩
  obtain ⟨v, pk⟩ := pk
  have ad : evBin .add (.loc μ3.length) (.loc b) μ4 = .ok (.loc μ4.length) μ5 := by
    have := add_locs (get_last μ3 (Ob.lst [.str k])) ((g3.trans0 g4).get b2) (by rw [List.length_map]; simp only [List.length_singleton]; unfold lim; omega)
    exact this
  have x5 : μ5[μ4.length]? = some (.lst ((k :: as).map D.str)) := get_last _ _
  have ll := g3.len
  have ll' := g4.len
  have ml := (List.getElem?_eq_some_iff.mp b2).1
  clear_value μ3 μ4 μ5
  obtain ⟨t, μ6, q6, hs6, u6, l6, sg6⟩ := ih n μ5 m kl a μ4.length (k :: as) (hs2.gr0 g35) (g35.get k2) (g35.get a2) x5 nk am (by have := u12.len; omega) (by rw [List.length_cons]; omega)
  have ed : en (.qt v k t) = .tup [.str (qs v), .str k, en t] := rfl
  simp only [f15, q1, eq_ev, z, ln, q2, ix, lt_ev, lt, lt7, zd, z3, sub_ev, dd1, l3, pk, l4, ad, q6, bind_ok, into_ok, seq_nx, seq_rt, seq_bk, seq_ct, out_rt, out_nx, vrD_ok, tup1, tup2, tup3, tup4, tup5, lst0, lst1, lst2, lst3, chB_t, chB_f, okB_some, tr_bl, setK_ok, kOk_eq, notK_eq, isNK_eq, notNK_eq, intO_ok, seqK_eq, strK_eq, rngK_eq, dctK_eq, consK_eq, someK_eq, noneK_eq, subK_ok, dropK_eq, retK_eq, asgK_eq, asgTK_eq, sub3_eq, binK_eq, cmpK_eq, idxK_eq, slcK2_eq, slcK_eq, ifK_eq, callK_eq, lK_eq, andK_eq, orK_eq, eltK_eq, allK_eq, lcK_eq, sub2_eq, sub1_eq, ifS_eq, forK_eq, e_var, e_ci, e_cs, e_cb, e_cn, e_not, e_isN, e_notN, e_bin, e_cmp, e_ifx, e_tup, e_lst, e_dnew, e_idx, e_slc, e_call, e_bi, e_isi, e_bm, e_lc, l_nil, l_cons, o_none, o_some, and_one, and_two, or_one, or_two, all_nil, all_one, trB_bl, i_seq, i_str, i_rng, i_keys, i_items, s_nil, s_cons, s_asg, s_asgT, s_sub, s_exp, s_ret, s_retN, s_if, s_for, List.getElem?_cons_zero, List.getElem?_cons_succ, List.set_cons_zero, List.set_cons_succ, List.length_cons, List.length_nil, Nat.reduceAdd, Nat.reduceLT, if_true, Bool.not_true, Bool.not_false]
  rw [← ed]
  exact fin hs6 ((u12.gr0 g35).trans u6) (Sg_qt v k sg6)
theorem f15_ok : ∀ d, F15 ps nl ks e d
  | 0 => f15_zero hf hps hn hnl hk0 hk4 he
  | d + 1 => f15_succ hf hps hn hnl hk0 hk4 he (f15_ok d)
end
end K32

/-! k32: the law, a turn -/
namespace K32
open PySem PI
mutual
theorem nms_few : ∀ t : Th, wd t ≤ 3 → (nms t).length ≤ 3 ^ ht t
  | .nm _ _, _ => by simp [nms, ht]
  | .bd _, _ => by simp [nms]
  | .vr _, _ => by simp [nms]
  | .mk f ts, h => by
    rw [wd] at h
    have l := nmsL_few ts (by omega)
    rw [nms, ht, Nat.pow_succ]
    have : ts.length ≤ 3 := by omega
    calc (nmsL ts).length ≤ ts.length * 3 ^ htL ts := l
      _ ≤ 3 * 3 ^ htL ts := Nat.mul_le_mul_right _ this
      _ = _ := Nat.mul_comm _ _
  | .op f ts, h => by
    rw [wd] at h
    have l := nmsL_few ts (by omega)
    rw [nms, ht, Nat.pow_succ]
    have : ts.length ≤ 3 := by omega
    calc (nmsL ts).length ≤ ts.length * 3 ^ htL ts := l
      _ ≤ 3 * 3 ^ htL ts := Nat.mul_le_mul_right _ this
      _ = _ := Nat.mul_comm _ _
  | .qt _ _ t, h => by
    rw [wd] at h
    rw [nms, ht, Nat.pow_succ]
    have := nms_few t h
    omega
  | .qn _ _ _ t, h => by
    rw [wd] at h
    rw [nms, ht, Nat.pow_succ]
    have := nms_few t h
    omega
theorem nmsL_few : ∀ ts : List Th, wdL ts ≤ 3 → (nmsL ts).length ≤ ts.length * 3 ^ htL ts
  | [], _ => by simp [nmsL]
  | t :: ts, h => by
    rw [wdL] at h
    have a := nms_few t (by omega)
    have b := nmsL_few ts (by omega)
    rw [nmsL, List.length_append, htL, List.length_cons, Nat.succ_mul]
    have c : 3 ^ ht t ≤ 3 ^ max (ht t) (htL ts) := Nat.pow_le_pow_right (by decide) (by omega)
    have d : ts.length * 3 ^ htL ts ≤ ts.length * 3 ^ max (ht t) (htL ts) := Nat.mul_le_mul_left _ (Nat.pow_le_pow_right (by decide) (by omega))
    omega
end
/-- names of few words and kinds are few -/
theorem few_dd {ws ks : List Str} (hw : ws.length ≤ 4) (hk : ks.length ≤ 4) {ps : List (Str × Str)} (h : ∀ p ∈ ps, p.1 ∈ ws ∧ p.2 ∈ ks) : (dd (ps.map pk)).length < 64 := by
  let all : List (List Str) := ws.flatMap fun w => ks.map fun k => [w, k]
  have la : all.length ≤ 16 := by
    have : ∀ ws : List Str, (ws.flatMap fun w => ks.map fun k => [w, k]).length = ws.length * ks.length := fun ws => by
      induction ws with
      | nil => simp
      | cons w ws ih => rw [List.flatMap_cons, List.length_append, ih, List.length_map, List.length_cons, Nat.succ_mul]; omega
    show (ws.flatMap fun w => ks.map fun k => [w, k]).length ≤ 16
    rw [this]
    exact Nat.mul_le_mul hw hk
  have := sub_len (ys := all) (dd_nodup (ps.map pk)) fun x hx => by
    obtain ⟨p, hp, rfl⟩ := List.mem_map.mp (dd_mem.mp hx)
    obtain ⟨a, b⟩ := h p hp
    exact List.mem_flatMap.mpr ⟨p.1, a, List.mem_map.mpr ⟨p.2, b, rfl⟩⟩
  omega
/-- what stood before -/
structure Bf (ks : List Str) (t : Th) : Prop where
  hun : un t = true
  hht : ht t ≤ 9
  hwd : wd t ≤ 3
  hnm : ∃ w, ∀ p ∈ nms t, p.1 ∈ [("x" : Str), "yy", w] ∧ p.2 ∈ ks
abbrev b22 : List S := [.asg (.g (.nm 8)) (.call 7 [.var 7] .own),
    .asg (.g (.nm 9)) (.idx (.var 4) (.call 8 [.var 8, .bi .len [.var 4]] .val)),
    .asg (.g (.nm 10)) (.bin .add (.ci 1) (.call 8 [.var 8, .ci 2] .val)),
    .asg (.g (.nm 11)) (.lst [.cs "x", .cs "yy", .idx (.var 5) (.call 8 [.var 8, .bi .len [.var 5]] .val)]),
    .asg (.g (.nm 12)) (.call 15 [.var 8, .var 3, .var 4, .var 11, .lst [.var 9], .bin .sub (.ci 3) (.var 10), .var 10] .val),
    .asg (.g (.nm 13)) (.call 14 [.var 8, .var 3, .var 9, .var 11, .lst [], .call 8 [.var 8, .ci 2] .val] .val),
    .ifs (.not_ (.call 20 [.var 12, .var 9, .var 13, .idx (.var 11) (.call 8 [.var 8, .ci 3] .val)] .val))
      [.ret (.cb false)]
      [],
    .asg (.g (.nm 14)) (.call 1 [.var 12, .var 13] .val),
    .ifs (.or_ [.not_ (.call 21 [.lst [.var 14]] .val), .not_ (.call 21 [.lst [.var 6, .var 14, .var 6]] .val), .cmp .ne (.call 5 [.lst []] .own) (.lst [])])
      [.ret (.cb false)]
      [],
    .asg (.g (.nm 6)) (.var 14)]
theorem f22_turn {N K W : Nat} {sc a1 a2 : D} {ps : List WkT} {ks ws : List Str} (hN : 200 ≤ N) (hf : ∀ p ∈ ps, Fit ks p) (hps : ps.length ≤ 16) (hk0 : ks ≠ []) (hk4 : ks.length ≤ 4) (hw0 : ws ≠ []) (hw9 : ws.length ≤ 100) (hst : (Str.ofString "strange") ∉ ws)
    {μ : Mem} (hK : μ[K]? = some (.lst (ks.map D.str))) (hW : μ[W]? = some (.lst (ws.map D.str))) {bf : Th} (hb : Bf ks bf) (c : Int) (z7 z8 z9 z10 z11 z12 z13 z14 : Option D) :
    ∃ (y8 y9 y10 y11 y12 y13 y14 : Option D) (t : Th) (μ' : Mem), exL pr (PI.run pr N) b22 [some sc, some a1, some a2, some (.fd .k (ps.map mvD)), some (.loc K), some (.loc W), some (en bf), some (.int c), z8, z9, z10, z11, z12, z13, z14, none] μ =
      .nx [some sc, some a1, some a2, some (.fd .k (ps.map mvD)), some (.loc K), some (.loc W), some (en t), some (.int c), y8, y9, y10, y11, y12, y13, y14, none] μ' ∧ Gr [] μ μ' ∧ Bf ks t := by
  have hKl := (List.getElem?_eq_some_iff.mp hK).1
  have hWl := (List.getElem?_eq_some_iff.mp hW).1
  obtain ⟨N1, h1⟩ : ∃ N1, N = N1 + 1 := ⟨N - 1, by omega⟩
  -- the line
  obtain ⟨a, b, q7, ha, ha', hb'⟩ := f7_ok N1 μ c
  rw [← h1] at q7
  let m := μ.length
  let μ1 : Mem := μ ++ [Ob.lst [.int a, .int b]]
  have q7 : nrm .own μ (PI.run pr N 7 [.int c] μ) = .ok (.loc m) μ1 := q7
  have g1 : Gr [] μ μ1 := Gr.app _ _
  have hs1 : St μ1 m := ⟨a, b, get_last _ _, ha, ha', hb'⟩
  have Km : K ≠ m := by show K ≠ μ.length; omega
  have Wm : W ≠ m := by show W ≠ μ.length; omega
  have ml : m < μ1.length := by show μ.length < (μ ++ [_]).length; simp
  have mm : μ.length = m := rfl
  clear_value m μ1
  -- the kind
  obtain ⟨k, hk, r, μ2, ln2, q2, ix2, hs2, u2, l2⟩ := pickL (n := N1) hk0 (by omega) hs1 (g1.get hK) Km
  rw [← h1] at q2
  have K2 := u2.get (by simp [Km]) (g1.get hK)
  have W2 := u2.get (by simp [Wm]) (g1.get hW)
  -- most
  obtain ⟨r3, μ3, q3, r30, r31, hs3, u3, l3⟩ := f8_ok N1 μ2 m 2 hs2 (by decide) (by decide)
  rw [← h1] at q3
  have K3 := u3.get (by simp [Km]) K2
  have W3 := u3.get (by simp [Wm]) W2
  obtain ⟨e, d, he, hd, he2⟩ : ∃ e d : Nat, 1 + r3 = (e : Int) ∧ (3 : Int) - (e : Int) = (d : Int) ∧ (e = 1 ∧ d = 2 ∨ e = 2 ∧ d = 1) := by
    rcases (by omega : r3 = 0 ∨ r3 = 1) with rfl | rfl
    · exact ⟨1, 2, rfl, rfl, .inl ⟨rfl, rfl⟩⟩
    · exact ⟨2, 1, rfl, rfl, .inr ⟨rfl, rfl⟩⟩
  -- the names
  obtain ⟨w, hw, r4, μ4, ln4, q4, ix4, hs4, u4, l4⟩ := pickL (n := N1) hw0 (by omega) hs3 W3 Wm
  rw [← h1] at q4
  have K4 := u4.get (by simp [Km]) K3
  have W4 := u4.get (by simp [Wm]) W3
  let nl : List Str := ["x", "yy", w]
  let μ5 : Mem := μ4 ++ [Ob.lst (nl.map D.str)]
  have c5 : lstK [.str "x", .str "yy", .str w] μ4 = .ok (.loc μ4.length) μ5 := lst3 _ _ _ _
  have g5 : Gr [] μ4 μ5 := Gr.app _ _
  have n5 : μ5[μ4.length]? = some (.lst (nl.map D.str)) := get_last _ _
  have nl0 : nl ≠ [] := by simp [nl]
  have nl3 : nl.length ≤ 3 := by simp [nl]
  have hx : (Str.ofString "strange") ∉ nl := by
    intro h
    rcases List.mem_cons.mp h with h | h
    · exact absurd h (by decide +kernel)
    · rcases List.mem_cons.mp h with h | h
      · exact absurd h (by decide +kernel)
      · rw [List.mem_singleton.mp h] at hst
        exact hst hw
  have L4 : m < μ4.length := by have := u2.len; have := u3.len; have := u4.len; omega
  -- the body
  let μ6 : Mem := μ5 ++ [Ob.lst ([k].map D.str)]
  have c6 : lstK [.str k] μ5 = .ok (.loc μ5.length) μ6 := lst1 _ _
  have g6 : Gr [] μ5 μ6 := Gr.app _ _
  have k6 : μ6[μ5.length]? = some (.lst ([k].map D.str)) := get_last _ _
  have n6 := g6.get n5
  have l5 : μ5.length = μ4.length + 1 := by simp [μ5]
  have nld : nl = [("x" : Str), "yy", w] := rfl
  clear_value μ5 μ6 nl
  obtain ⟨N2, h2⟩ : ∃ N2, N = N2 + d + e + 3 := ⟨N - d - e - 3, by omega⟩
  obtain ⟨t, μ7, q7b, hs7, u7, l7, sg⟩ := f15_ok hf hps nl0 nl3 hk0 hk4 (e := e) (by omega) d N2 μ6 m K μ4.length μ5.length [k] (hs4.gr0 (g5.trans0 g6)) ((g5.trans0 g6).get K4) n6 k6 Km (by omega) (by omega) (by simp only [List.length_singleton]; omega)
  rw [← h2] at q7b
  have g46 := g5.trans0 g6
  have K7 := u7.get (by simp [Km]) (g46.get K4)
  have W7 := u7.get (by simp [Wm]) (g46.get W4)
  have n7 := u7.get (i := μ4.length) (by simp; omega) n6
  -- the term
  let μ8 : Mem := μ7 ++ [Ob.lst (([] : List Str).map D.str)]
  have c8 : lstK [] μ7 = .ok (.loc μ7.length) μ8 := lst0 _
  have g8 : Gr [] μ7 μ8 := Gr.app _ _
  have e8 : μ8[μ7.length]? = some (.lst (([] : List Str).map D.str)) := get_last _ _
  have m7 : m < μ7.length := by have := u7.len; have := g6.len; omega
  clear_value μ8
  obtain ⟨r9, μ9, q9, r90, r91, hs9, u9, l9⟩ := f8_ok N1 μ8 m 2 (hs7.gr0 g8) (by decide) (by decide)
  rw [← h1] at q9
  obtain ⟨e9, rfl⟩ := Int.eq_ofNat_of_zero_le r90
  obtain ⟨N3, h3⟩ : ∃ N3, N = N3 + e9 + 2 := ⟨N - e9 - 2, by omega⟩
  have n9 := u9.get (i := μ4.length) (by simp; omega) (g8.get n7)
  obtain ⟨s, μ10, q10, hs10, u10, l10, tm⟩ := f14_ok hf hps nl0 nl3 e9 N3 μ9 m μ4.length μ7.length [] k hs9 n9 (u9.get (i := μ7.length) (by simp; omega) e8) (by omega) (by omega) (by simp) hk
  rw [← h3] at q10
  have n10 := u10.get (i := μ4.length) (by simp; omega) n9
  -- the name
  obtain ⟨r11, μ11, q11, r110, r111, hs11, u11, l11⟩ := f8_ok N1 μ10 m 3 hs10 (by decide) (by decide)
  rw [← h1] at q11
  have n11 := u11.get (i := μ4.length) (by simp; omega) n10
  obtain ⟨x, ix11⟩ : ∃ x : Str, evIdx (.loc μ4.length) (.int r11) μ11 = .ok (.str x) μ11 := by
    rw [nld] at n11
    rcases (by omega : r11 = (0 : Nat) ∨ r11 = (1 : Nat) ∨ r11 = (2 : Nat)) with h | h | h
    · exact ⟨_, idx_at n11 h rfl⟩
    · exact ⟨_, idx_at n11 h rfl⟩
    · exact ⟨_, idx_at n11 h rfl⟩
  -- the first question
  have sh : ht t ≤ 6 := by have := sg.hht; omega
  have shs : ht s ≤ 2 := by have := tm.hht; omega
  have sw : wd t ≤ 3 := sg.hwd
  have sws : wd s ≤ 3 := tm.hwd
  have sn : na s = true := tm.hna rfl
  have q20 : nrm .val μ11 (PI.run pr N 20 [en t, .str k, en s, .str x] μ11) = .ok (.bl true) μ11 := by
    rw [h1]
    exact f20_ok sg.hun (by have := sg.hbd; exact this) (by omega) (by omega) tm.hun sn (by omega) (by omega) (fun h => hx (sg.hnm _ h).1) (by omega) μ11
  -- the saying
  have q1 : nrm .val μ11 (PI.run pr N 1 [en t, en s] μ11) = .ok (en (ex none (some s) 0 t)) μ11 := by
    rw [h1]
    exact f1_ok sg.hun (by omega) (by omega) μ11
  obtain ⟨o1, o2, o3, o4, o5⟩ := ex_facts tm.hun (clean_bds s sn tm.hun) t 0 sg.hun sg.hbd
  generalize hS : ex none (some s) 0 t = S at o1 o2 o3 o4 o5 q1
  have onm : ∀ p ∈ nms S, p.1 ∈ nl ∧ p.2 ∈ ks := fun p hp => (o5 p hp).elim (sg.hnm p) (tm.hnm p)
  have many : (nms S).length ≤ 10000 := by
    have := nms_few S (by omega)
    have : 3 ^ ht S ≤ 3 ^ 8 := Nat.pow_le_pow_right (by decide) (by omega)
    have : 3 ^ 8 = 6561 := by decide
    omega
  have manyb : (nms bf).length ≤ 20000 := by
    have := nms_few bf hb.hwd
    have : 3 ^ ht bf ≤ 3 ^ 9 := Nat.pow_le_pow_right (by decide) hb.hht
    have : 3 ^ 9 = 19683 := by decide
    omega
  -- the second question, thrice
  obtain ⟨N4, h4⟩ : ∃ N4, N = N4 + 2 := ⟨N - 2, by omega⟩
  let μ12 : Mem := μ11 ++ [Ob.lst (enL [S])]
  have c12 : lstK [en S] μ11 = .ok (.loc μ11.length) μ12 := lst1 _ _
  have x12 : μ12[μ11.length]? = some (.lst (enL [S])) := get_last _ _
  have g12 : Gr [] μ11 μ12 := Gr.app _ _
  clear_value μ12
  have q12 : nrm .val μ12 (PI.run pr N 21 [.loc μ11.length] μ12) = .ok (.bl true) μ12 := by
    rw [h4]
    refine f21_ok (fun t ht' => ?_) ?_ ?_ μ12 _ x12
    · rw [List.mem_singleton.mp ht']; exact ⟨o1, by omega⟩
    · simp only [nmsL, List.append_nil]; omega
    · refine few_dd (ws := nl) (by omega) hk4 fun p hp => onm p ?_
      simpa only [nmsL, List.append_nil] using hp
  let μ13 : Mem := μ12 ++ [Ob.lst (enL [bf, S, bf])]
  have c13 : lstK [en bf, en S, en bf] μ12 = .ok (.loc μ12.length) μ13 := lst3 _ _ _ _
  have x13 : μ13[μ12.length]? = some (.lst (enL [bf, S, bf])) := get_last _ _
  have g13 : Gr [] μ12 μ13 := Gr.app _ _
  clear_value μ13
  obtain ⟨w', hw'⟩ := hb.hnm
  have q13 : nrm .val μ13 (PI.run pr N 21 [.loc μ12.length] μ13) = .ok (.bl true) μ13 := by
    rw [h4]
    refine f21_ok (fun t ht' => ?_) ?_ ?_ μ13 _ x13
    · rcases List.mem_cons.mp ht' with h | h
      · rw [h]; exact ⟨hb.hun, by have := hb.hht; omega⟩
      · rcases List.mem_cons.mp h with h | h
        · rw [h]; exact ⟨o1, by omega⟩
        · rw [List.mem_singleton.mp h]; exact ⟨hb.hun, by have := hb.hht; omega⟩
    · simp only [nmsL, List.append_nil, List.length_append]; omega
    · refine few_dd (ws := ["x", "yy", w, w']) (by simp) hk4 fun p hp => ?_
      simp only [nmsL, List.append_nil] at hp
      have A : p ∈ nms bf → p.1 ∈ [("x" : Str), "yy", w, w'] ∧ p.2 ∈ ks := fun h => by
        obtain ⟨h1, h2⟩ := hw' p h
        refine ⟨?_, h2⟩
        rcases List.mem_cons.mp h1 with h | h
        · rw [h]; simp
        · rcases List.mem_cons.mp h with h | h
          · rw [h]; simp
          · rw [List.mem_singleton.mp h]; simp
      rcases List.mem_append.mp hp with h | h
      · exact A h
      · rcases List.mem_append.mp h with h | h
        · obtain ⟨h1, h2⟩ := onm p h
          refine ⟨?_, h2⟩
          rw [nld] at h1
          rcases List.mem_cons.mp h1 with h | h
          · rw [h]; simp
          · rcases List.mem_cons.mp h with h | h
            · rw [h]; simp
            · rw [List.mem_singleton.mp h]; simp
        · exact A h
  let μ14 : Mem := μ13 ++ [Ob.lst (enL [])]
  have c14 : lstK [] μ13 = .ok (.loc μ13.length) μ14 := lst0 _
  have x14 : μ14[μ13.length]? = some (.lst (enL [])) := get_last _ _
  have g14 : Gr [] μ13 μ14 := Gr.app _ _
  clear_value μ14
  have q14 := f5_ok (n := N1) (ts := []) (fun t h => absurd h List.not_mem_nil) (by simp [nmsL]) (by simp [nmsL, dd]) μ14 μ13.length x14
  rw [← h1] at q14
  let μ15 : Mem := μ14 ++ [Ob.lst (srt (nmsL []))]
  have q14 : nrm .own μ14 (PI.run pr N 5 [.loc μ13.length] μ14) = .ok (.loc μ14.length) μ15 := q14
  have g15 : Gr [] μ14 μ15 := Gr.app _ _
  let μ16 : Mem := μ15 ++ [Ob.lst []]
  have c16 : lstK [] μ15 = .ok (.loc μ15.length) μ16 := lst0 _
  have g16 : Gr [] μ15 μ16 := Gr.app _ _
  have x15 : μ16[μ14.length]? = some (.lst (srt (nmsL []))) := g16.get (get_last _ _)
  have z0 : srt (nmsL []) = [] := by
    unfold srt nmsL sortK
    simp [dd]
  rw [z0] at x15
  have n16 : evCmp .ne (.loc μ14.length) (.loc μ15.length) μ16 = .ok (.bl false) μ16 := ne_empty (n := 0) (f := 0) (xs := []) (ys := []) (ps := []) (by decide) x15 Fz.nil rfl (get_last _ _)
  clear_value μ15 μ16
  have gf : Gr [] μ11 μ16 := ((((g12.trans0 g13).trans0 g14).trans0 g15).trans0 g16)
  have gr : Gr [] μ μ11 := by
    have lens : μ1.length ≤ μ11.length := by have := u2.len; have := u3.len; have := u4.len; have := g46.len; have := u7.len; have := g8.len; have := u9.len; have := u10.len; have := u11.len; omega
    have uu : Up [m] μ1 μ11 := (((((((u2.trans u3).trans u4).gr0 g46).trans u7).gr0 g8).trans u9).trans u10).trans u11
    refine ⟨by have := g1.len; omega, fun i hi _ => ?_, fun _ _ h => absurd h List.not_mem_nil⟩
    rw [uu.same i (by have := g1.len; omega) (by simp; omega)]
    exact g1.same i hi List.not_mem_nil
  have tb : ∀ μ, truth μ (.bl true) = some true := fun _ => rfl
  refine ⟨some (.loc m), some (.str k), some (.int e), some (.loc μ4.length), some (en t), some (en s), some (en S), S, μ16, ?_, gr.trans0 gf, ⟨o1, by omega, by omega, w, fun p hp => by rw [← nld]; exact onm p hp⟩⟩
  simp only [q7, ln2, q2, ix2, q3, add_int, he, ln4, q4, ix4, c5, c6, sub_ev, hd, q7b, c8, q9, q10, q11, ix11, q20, q1, c12, q12, c13, q13, c14, q14, c16, n16, bind_ok, into_ok, seq_nx, seq_rt, seq_bk, seq_ct, out_rt, out_nx, vrD_ok, tup1, tup2, tup3, tup4, tup5, lst0, lst1, lst2, lst3, chB_t, chB_f, okB_some, tr_bl, setK_ok, kOk_eq, notK_eq, isNK_eq, notNK_eq, intO_ok, seqK_eq, strK_eq, rngK_eq, dctK_eq, consK_eq, someK_eq, noneK_eq, subK_ok, dropK_eq, retK_eq, asgK_eq, asgTK_eq, sub3_eq, binK_eq, cmpK_eq, idxK_eq, slcK2_eq, slcK_eq, ifK_eq, callK_eq, lK_eq, andK_eq, orK_eq, eltK_eq, allK_eq, lcK_eq, sub2_eq, sub1_eq, ifS_eq, forK_eq, e_var, e_ci, e_cs, e_cb, e_cn, e_not, e_isN, e_notN, e_bin, e_cmp, e_ifx, e_tup, e_lst, e_dnew, e_idx, e_slc, e_call, e_bi, e_isi, e_bm, e_lc, l_nil, l_cons, o_none, o_some, and_one, and_two, or_one, or_two, all_nil, all_one, trB_bl, i_seq, i_str, i_rng, i_keys, i_items, s_nil, s_cons, s_asg, s_asgT, s_sub, s_exp, s_ret, s_retN, s_if, s_for, List.getElem?_cons_zero, List.getElem?_cons_succ, List.set_cons_zero, List.set_cons_succ, List.length_cons, List.length_nil, Nat.reduceAdd, Nat.reduceLT, if_true, Bool.not_true, Bool.not_false]
end K32

/-! k32: the law -/
namespace K32
open PySem PI
theorem cut_ints {ns : List Int} {lo hi : Option Int} : ∀ x ∈ cut (ns.map D.int) lo hi, ∃ c : Int, x = .int c := fun x hx => by
  have h := List.mem_of_mem_drop (List.mem_of_mem_take hx)
  obtain ⟨c, _, rfl⟩ := List.mem_map.mp h
  exact ⟨c, rfl⟩
theorem cut_len {ns : List Int} {lo hi : Option Int} : (cut (ns.map D.int) lo hi).length ≤ ns.length := by
  unfold cut
  rw [List.length_take, List.length_drop, List.length_map]
  omega
theorem law_true {N : Nat} (hN : 200 ≤ N) (ns : List Int) (hl : ns.length ≤ 63) : ∃ μ, PI.run pr (N + 1) 22 [.sl (ns.map .int)] [] = .ok (.bl true) μ := by
  obtain ⟨N1, h1⟩ : ∃ N1, N = N1 + 1 := ⟨N - 1, by omega⟩
  obtain ⟨N4, h4⟩ : ∃ N4, N = N4 + 4 := ⟨N - 4, by omega⟩
  rw [PI.run]
  show ∃ μ, (exL pr (PI.run pr N) f22.body [some (.sl (ns.map .int)), none, none, none, none, none, none, none, none, none, none, none, none, none, none, none] []).out = _
  obtain ⟨v, q6⟩ := f6_ok N1 [] ns 0
  rw [← h1] at q6
  have q6 : nrm .val [] (PI.run pr N 6 [.sl (ns.map .int), .int 0] []) = .ok (.int v) [] := q6
  obtain ⟨a, b, q7, ha, ha', hb'⟩ := f7_ok N1 [] v
  rw [← h1] at q7
  let μ1 : Mem := [Ob.lst [.int a, .int b]]
  have q7 : nrm .own [] (PI.run pr N 7 [.int v] []) = .ok (.loc 0) μ1 := q7
  have hs1 : St μ1 0 := ⟨a, b, rfl, ha, ha', hb'⟩
  obtain ⟨ks, wks, μ2, q13, l2, u2, k1, k4, hks, hwk, w4⟩ := f13_ok N4 μ1 0 hs1
  rw [← h4] at q13
  obtain ⟨ps, q12, hf, hps⟩ := f12_ok N1 μ2 k4 hks hwk w4
  rw [← h1] at q12
  let kn : List Str := ks.map (·.1)
  have i0 : ∀ μ, evIdx (.tup [.fl (ks.map kdD), .fl (wks.map wkD)]) (.int 0) μ = .ok (.fl (ks.map kdD)) μ := fun _ => rfl
  have i1 : ∀ μ, evIdx (.tup [.fl (ks.map kdD), .fl (wks.map wkD)]) (.int 1) μ = .ok (.fl (wks.map wkD)) μ := fun _ => rfl
  have t1 : ∀ μ, itSeq μ (.fl (ks.map kdD)) = .ok (ks.map kdD, []) μ := fun _ => rfl
  -- kinds
  let μ3 : Mem := μ2 ++ [Ob.lst (kn.map D.str)]
  have lk : lcGo [] (lcStep pr (PI.run pr N) [some (.sl (ns.map .int)), some (.loc 0), some (.tup [.fl (ks.map kdD), .fl (wks.map wkD)]), some (.fd .k (ps.map mvD)), none, none, none, none, none, none, none, none, none, none, none, none] (.idx (.var 9) (.ci 0)) (.nm 9) [] [9]) μ2.length (ks.map kdD) (μ2 ++ [.lst []]) = .ok (.loc μ2.length) μ3 := by
    have := lc_each (μ := μ2) (step := lcStep pr (PI.run pr N) [some (.sl (ns.map .int)), some (.loc 0), some (.tup [.fl (ks.map kdD), .fl (wks.map wkD)]), some (.fd .k (ps.map mvD)), none, none, none, none, none, none, none, none, none, none, none, none] (.idx (.var 9) (.ci 0)) (.nm 9) [] [9]) (e := kdD) (g := fun k => D.str k.1) (xs := ks) (by unfold lim; omega) fun k _ acc => by
      rw [lcStep_ok (σ' := [some (.sl (ns.map .int)), some (.loc 0), some (.tup [.fl (ks.map kdD), .fl (wks.map wkD)]), some (.fd .k (ps.map mvD)), none, none, none, none, none, some (kdD k), none, none, none, none, none, none]) pr _ _ _ rfl]
      have ix : ∀ μ, evIdx (kdD k) (.int 0) μ = .ok (.str k.1) μ := fun _ => rfl
      simp only [ix, bind_ok, into_ok, seq_nx, seq_rt, seq_bk, seq_ct, out_rt, out_nx, vrD_ok, tup1, tup2, tup3, tup4, tup5, lst0, lst1, lst2, lst3, chB_t, chB_f, okB_some, tr_bl, setK_ok, kOk_eq, notK_eq, isNK_eq, notNK_eq, intO_ok, seqK_eq, strK_eq, rngK_eq, dctK_eq, consK_eq, someK_eq, noneK_eq, subK_ok, dropK_eq, retK_eq, asgK_eq, asgTK_eq, sub3_eq, binK_eq, cmpK_eq, idxK_eq, slcK2_eq, slcK_eq, ifK_eq, callK_eq, lK_eq, andK_eq, orK_eq, eltK_eq, allK_eq, lcK_eq, sub2_eq, sub1_eq, ifS_eq, forK_eq, e_var, e_ci, e_cs, e_cb, e_cn, e_not, e_isN, e_notN, e_bin, e_cmp, e_ifx, e_tup, e_lst, e_dnew, e_idx, e_slc, e_call, e_bi, e_isi, e_bm, e_lc, l_nil, l_cons, o_none, o_some, and_one, and_two, or_one, or_two, all_nil, all_one, trB_bl, i_seq, i_str, i_rng, i_keys, i_items, s_nil, s_cons, s_asg, s_asgT, s_sub, s_exp, s_ret, s_retN, s_if, s_for, List.getElem?_cons_zero, List.getElem?_cons_succ, List.set_cons_zero, List.set_cons_succ, List.length_cons, List.length_nil, Nat.reduceAdd, Nat.reduceLT, if_true, Bool.not_true, Bool.not_false]
    rw [this]
    show _ = R.ok _ (μ2 ++ [Ob.lst ((ks.map (·.1)).map D.str)])
    rw [List.map_map]
    rfl
  have g3 : Gr [] μ2 μ3 := Gr.app _ _
  have K3 : μ3[μ2.length]? = some (.lst (kn.map D.str)) := get_last _ _
  have knl : kn.length = ks.length := List.length_map _
  -- words
  let μ4 : Mem := μ3 ++ [Ob.lst [.str "zzz"]]
  have c4 : lstK [.str "zzz"] μ3 = .ok (.loc μ3.length) μ4 := lst1 _ _
  have g4 : Gr [] μ3 μ4 := Gr.app _ _
  have Z4 : μ4[μ3.length]? = some (.lst [.str "zzz"]) := get_last _ _
  let key : List Str := ps.map (·.1)
  let μ5 : Mem := μ4 ++ [Ob.lst (key.map D.str)]
  have c5 : evBI .listD [.fd .k (ps.map mvD)] μ4 = .ok (.loc μ4.length) μ5 := by
    show newL μ4 ((ps.map mvD).map (·.1)) = R.ok _ (μ4 ++ [Ob.lst ((ps.map (·.1)).map D.str)])
    rw [List.map_map, List.map_map]
    rfl
  have g5 : Gr [] μ4 μ5 := Gr.app _ _
  have Y5 : μ5[μ4.length]? = some (.lst (key.map D.str)) := get_last _ _
  have kyl : key.length = ps.length := List.length_map _
  let μ6 : Mem := μ5 ++ [Ob.lst ((kn ++ key).map D.str)]
  have c6 : evBin .add (.loc μ2.length) (.loc μ4.length) μ5 = .ok (.loc μ5.length) μ6 := by
    have := add_locs ((g4.trans0 g5).get K3) Y5 (by
      have e1 : (kn.map D.str).length = kn.length := List.length_map _
      have e2 : (key.map D.str).length = key.length := List.length_map _
      unfold lim; omega)
    rw [← List.map_append] at this
    exact this
  have g6 : Gr [] μ5 μ6 := Gr.app _ _
  have X6 : μ6[μ5.length]? = some (.lst ((kn ++ key).map D.str)) := get_last _ _
  have t6 : itSeq μ6 (.loc μ5.length) = .ok ((kn ++ key).map D.str, [(μ5.length, .lst ((kn ++ key).map D.str))]) μ6 := by
    unfold itSeq seqOf srcOf
    simp only [X6]
  let fl : Str → Option D := fun w => if w = Str.ofString "strange" then none else some (.str w)
  let fs : List Str := (kn ++ key).filter fun w => decide (w ≠ Str.ofString "strange")
  have ff : (kn ++ key).filterMap fl = fs.map D.str := by
    show _ = ((kn ++ key).filter _).map D.str
    generalize kn ++ key = zs
    induction zs with
    | nil => rfl
    | cons z zs ih =>
      by_cases c : z = Str.ofString "strange"
      · rw [List.filterMap_cons_none (show fl z = none from if_pos c), ih, List.filter_cons_of_neg (by simp [c])]
      · rw [List.filterMap_cons_some (show fl z = some (.str z) from if_neg c), ih, List.filter_cons_of_pos (by simp [c])]
        rfl
  let μ7 : Mem := μ6 ++ [Ob.lst (fs.map D.str)]
  have lw : lcGo [(μ5.length, .lst ((kn ++ key).map D.str))] (lcStep pr (PI.run pr N) [some (.sl (ns.map .int)), some (.loc 0), some (.tup [.fl (ks.map kdD), .fl (wks.map wkD)]), some (.fd .k (ps.map mvD)), some (.loc μ2.length), none, none, none, none, none, none, none, none, none, none, none] (.var 15) (.nm 15) [.cmp .ne (.var 15) (.cs "strange")] [15]) μ6.length ((kn ++ key).map D.str) (μ6 ++ [.lst []]) = .ok (.loc μ6.length) μ7 := by
    have := lc_old (step := lcStep pr (PI.run pr N) [some (.sl (ns.map .int)), some (.loc 0), some (.tup [.fl (ks.map kdD), .fl (wks.map wkD)]), some (.fd .k (ps.map mvD)), some (.loc μ2.length), none, none, none, none, none, none, none, none, none, none, none] (.var 15) (.nm 15) [.cmp .ne (.var 15) (.cs "strange")] [15]) X6 (e := D.str) (f := fl) (xs := kn ++ key) (by rw [List.length_append]; unfold lim; omega) fun w _ acc => by
      rw [lcStep_ok (σ' := [some (.sl (ns.map .int)), some (.loc 0), some (.tup [.fl (ks.map kdD), .fl (wks.map wkD)]), some (.fd .k (ps.map mvD)), some (.loc μ2.length), none, none, none, none, none, none, none, none, none, none, some (.str w)]) pr _ _ _ rfl]
      simp only [nes, bind_ok, into_ok, seq_nx, seq_rt, seq_bk, seq_ct, out_rt, out_nx, vrD_ok, tup1, tup2, tup3, tup4, tup5, lst0, lst1, lst2, lst3, chB_t, chB_f, okB_some, tr_bl, setK_ok, kOk_eq, notK_eq, isNK_eq, notNK_eq, intO_ok, seqK_eq, strK_eq, rngK_eq, dctK_eq, consK_eq, someK_eq, noneK_eq, subK_ok, dropK_eq, retK_eq, asgK_eq, asgTK_eq, sub3_eq, binK_eq, cmpK_eq, idxK_eq, slcK2_eq, slcK_eq, ifK_eq, callK_eq, lK_eq, andK_eq, orK_eq, eltK_eq, allK_eq, lcK_eq, sub2_eq, sub1_eq, ifS_eq, forK_eq, e_var, e_ci, e_cs, e_cb, e_cn, e_not, e_isN, e_notN, e_bin, e_cmp, e_ifx, e_tup, e_lst, e_dnew, e_idx, e_slc, e_call, e_bi, e_isi, e_bm, e_lc, l_nil, l_cons, o_none, o_some, and_one, and_two, or_one, or_two, all_nil, all_one, trB_bl, i_seq, i_str, i_rng, i_keys, i_items, s_nil, s_cons, s_asg, s_asgT, s_sub, s_exp, s_ret, s_retN, s_if, s_for, List.getElem?_cons_zero, List.getElem?_cons_succ, List.set_cons_zero, List.set_cons_succ, List.length_cons, List.length_nil, Nat.reduceAdd, Nat.reduceLT, if_true, Bool.not_true, Bool.not_false]
      by_cases c : w = Str.ofString "strange"
      · rw [show fl w = none from if_pos c, show (w == Str.ofString "strange") = true from by rw [c]; exact beq_self_eq_true _]
        simp only [bind_ok, into_ok, seq_nx, seq_rt, seq_bk, seq_ct, out_rt, out_nx, vrD_ok, tup1, tup2, tup3, tup4, tup5, lst0, lst1, lst2, lst3, chB_t, chB_f, okB_some, tr_bl, setK_ok, kOk_eq, notK_eq, isNK_eq, notNK_eq, intO_ok, seqK_eq, strK_eq, rngK_eq, dctK_eq, consK_eq, someK_eq, noneK_eq, subK_ok, dropK_eq, retK_eq, asgK_eq, asgTK_eq, sub3_eq, binK_eq, cmpK_eq, idxK_eq, slcK2_eq, slcK_eq, ifK_eq, callK_eq, lK_eq, andK_eq, orK_eq, eltK_eq, allK_eq, lcK_eq, sub2_eq, sub1_eq, ifS_eq, forK_eq, e_var, e_ci, e_cs, e_cb, e_cn, e_not, e_isN, e_notN, e_bin, e_cmp, e_ifx, e_tup, e_lst, e_dnew, e_idx, e_slc, e_call, e_bi, e_isi, e_bm, e_lc, l_nil, l_cons, o_none, o_some, and_one, and_two, or_one, or_two, all_nil, all_one, trB_bl, i_seq, i_str, i_rng, i_keys, i_items, s_nil, s_cons, s_asg, s_asgT, s_sub, s_exp, s_ret, s_retN, s_if, s_for, List.getElem?_cons_zero, List.getElem?_cons_succ, List.set_cons_zero, List.set_cons_succ, List.length_cons, List.length_nil, Nat.reduceAdd, Nat.reduceLT, if_true, Bool.not_true, Bool.not_false]
      · rw [show fl w = some (.str w) from if_neg c, show (w == Str.ofString "strange") = false from by simpa using c]
        simp only [bind_ok, into_ok, seq_nx, seq_rt, seq_bk, seq_ct, out_rt, out_nx, vrD_ok, tup1, tup2, tup3, tup4, tup5, lst0, lst1, lst2, lst3, chB_t, chB_f, okB_some, tr_bl, setK_ok, kOk_eq, notK_eq, isNK_eq, notNK_eq, intO_ok, seqK_eq, strK_eq, rngK_eq, dctK_eq, consK_eq, someK_eq, noneK_eq, subK_ok, dropK_eq, retK_eq, asgK_eq, asgTK_eq, sub3_eq, binK_eq, cmpK_eq, idxK_eq, slcK2_eq, slcK_eq, ifK_eq, callK_eq, lK_eq, andK_eq, orK_eq, eltK_eq, allK_eq, lcK_eq, sub2_eq, sub1_eq, ifS_eq, forK_eq, e_var, e_ci, e_cs, e_cb, e_cn, e_not, e_isN, e_notN, e_bin, e_cmp, e_ifx, e_tup, e_lst, e_dnew, e_idx, e_slc, e_call, e_bi, e_isi, e_bm, e_lc, l_nil, l_cons, o_none, o_some, and_one, and_two, or_one, or_two, all_nil, all_one, trB_bl, i_seq, i_str, i_rng, i_keys, i_items, s_nil, s_cons, s_asg, s_asgT, s_sub, s_exp, s_ret, s_retN, s_if, s_for, List.getElem?_cons_zero, List.getElem?_cons_succ, List.set_cons_zero, List.set_cons_succ, List.length_cons, List.length_nil, Nat.reduceAdd, Nat.reduceLT, if_true, Bool.not_true, Bool.not_false]
    rw [this, ff]
  have g7 : Gr [] μ6 μ7 := Gr.app _ _
  have F7 : μ7[μ6.length]? = some (.lst (fs.map D.str)) := get_last _ _
  have fsl : fs.length ≤ 20 := by
    have : fs.length ≤ (kn ++ key).length := List.length_filter_le _ _
    rw [List.length_append] at this
    omega
  let ws : List Str := "zzz" :: fs
  let μ8 : Mem := μ7 ++ [Ob.lst (ws.map D.str)]
  have c8 : evBin .add (.loc μ3.length) (.loc μ6.length) μ7 = .ok (.loc μ7.length) μ8 := by
    have := add_locs (((g5.trans0 g6).trans0 g7).get Z4) F7 (by rw [List.length_map]; simp only [List.length_singleton]; unfold lim; omega)
    exact this
  have g8 : Gr [] μ7 μ8 := Gr.app _ _
  have W8 : μ8[μ7.length]? = some (.lst (ws.map D.str)) := get_last _ _
  have hst : Str.ofString "strange" ∉ ws := by
    intro h
    rcases List.mem_cons.mp h with h | h
    · exact absurd h (by decide +kernel)
    · have := (List.mem_filter.mp h).2
      simp at this
  -- the cells
  let cs : List D := cut (ns.map D.int) (some 1) (some 40)
  let μ9 : Mem := μ8 ++ [Ob.lst [.int 5, .int 8]]
  have c9 : lstK [.int 5, .int 8] μ8 = .ok (.loc μ8.length) μ9 := lst2 _ _ _
  have g9 : Gr [] μ8 μ9 := Gr.app _ _
  let μ10 : Mem := μ9 ++ [Ob.lst cs]
  have c10 : evSlc (.sl (ns.map .int)) (some 1) (some 40) μ9 = .ok (.loc μ9.length) μ10 := rfl
  have g10 : Gr [] μ9 μ10 := Gr.app _ _
  let μ11 : Mem := μ10 ++ [Ob.lst ([.int 5, .int 8] ++ cs)]
  have c11 : evBin .add (.loc μ8.length) (.loc μ9.length) μ10 = .ok (.loc μ10.length) μ11 := by
    have := add_locs (g10.get (get_last μ8 (Ob.lst [.int 5, .int 8]))) (get_last μ9 (Ob.lst cs)) (by
      have : cs.length ≤ ns.length := cut_len
      show 2 + cs.length ≤ lim
      unfold lim; omega)
    exact this
  have g11 : Gr [] μ10 μ11 := Gr.app _ _
  have X11 : μ11[μ10.length]? = some (.lst ([.int 5, .int 8] ++ cs)) := get_last _ _
  have t11 : itSeq μ11 (.loc μ10.length) = .ok ([.int 5, .int 8] ++ cs, [(μ10.length, .lst ([.int 5, .int 8] ++ cs))]) μ11 := by
    unfold itSeq seqOf srcOf
    simp only [X11]
  have g811 := (g9.trans0 g10).trans0 g11
  have K11 := ((((g4.trans0 g5).trans0 g6).trans0 g7).trans0 g8).trans0 g811 |>.get K3
  have W11 := g811.get W8
  have hcs : ∀ x ∈ [D.int 5, .int 8] ++ cs, ∃ c : Int, x = .int c := fun x hx => by
    rcases List.mem_append.mp hx with h | h
    · rcases List.mem_cons.mp h with h | h
      · exact ⟨_, h⟩
      · exact ⟨_, List.mem_singleton.mp h⟩
    · exact cut_ints x h
  have kn0 : kn ≠ [] := fun z => by rw [z, List.length_nil] at knl; omega
  generalize hcc : [D.int 5, .int 8] ++ cs = cc at c11 X11 t11 hcs
  let I : List D → PI.Env → Mem → Prop := fun xs σ μ' => ∃ (y7 y8 y9 y10 y11 y12 y13 y14 : Option D) (bf : Th), σ = [some (.sl (ns.map .int)), some (.loc 0), some (.tup [.fl (ks.map kdD), .fl (wks.map wkD)]), some (.fd .k (ps.map mvD)), some (.loc μ2.length), some (.loc μ7.length), some (en bf), y7, y8, y9, y10, y11, y12, y13, y14, none] ∧ Gr [] μ11 μ' ∧ Bf kn bf ∧ ∀ x ∈ xs, ∃ c : Int, x = .int c
  obtain ⟨σ', μ12, lp, y7, y8, y9, y10, y11, y12, y13, y14, bf, rfl, _⟩ := for_inv (src := [(μ10.length, .lst cc)]) (step := forStep pr (PI.run pr N) (.nm 7) b22) I (fun xs σ μ' i => by
      obtain ⟨_, _, _, _, _, _, _, _, _, _, g, _⟩ := i
      exact still_gr X11 g) (xs := cc) (σ := [some (.sl (ns.map .int)), some (.loc 0), some (.tup [.fl (ks.map kdD), .fl (wks.map wkD)]), some (.fd .k (ps.map mvD)), some (.loc μ2.length), some (.loc μ7.length), some (en (.op .no [])), none, none, none, none, none, none, none, none, none]) (μ := μ11) ⟨none, none, none, none, none, none, none, none, .op .no [], rfl, Gr.refl _, ⟨rfl, by simp [ht, htL], by simp [wd, wdL], "x", fun p h => absurd h List.not_mem_nil⟩, hcs⟩ fun x xs σ μ' i => by
    obtain ⟨y7, y8, y9, y10, y11, y12, y13, y14, bf, rfl, g, hb, hx⟩ := i
    obtain ⟨c, rfl⟩ := hx x List.mem_cons_self
    obtain ⟨w8, w9, w10, w11, w12, w13, w14, t, μ2', e, g', hb'⟩ := f22_turn (N := N) (K := μ2.length) (W := μ7.length) (sc := .sl (ns.map .int)) (a1 := .loc 0) (a2 := .tup [.fl (ks.map kdD), .fl (wks.map wkD)]) (ps := ps) (ks := kn) (ws := ws) hN hf hps kn0 (by omega) (by simp [ws]) (by simp [ws]; omega) hst (g.get K11) (g.get W11) hb c y7 y8 y9 y10 y11 y12 y13 y14
    refine ⟨_, μ2', .inl ?_, some (.int c), w8, w9, w10, w11, w12, w13, w14, t, rfl, g.trans0 g', hb', fun x m => hx x (List.mem_cons_of_mem _ m)⟩
    rw [forStep_ok (σ' := [some (.sl (ns.map .int)), some (.loc 0), some (.tup [.fl (ks.map kdD), .fl (wks.map wkD)]), some (.fd .k (ps.map mvD)), some (.loc μ2.length), some (.loc μ7.length), some (en bf), some (.int c), y8, y9, y10, y11, y12, y13, y14, none]) pr _ _ _ rfl]
    exact e
  have en0 : en (.op .no []) = .tup [.str "no"] := rfl
  rw [en0] at lp
  clear_value μ1 μ3 μ4 μ5 μ6 μ7 μ8 μ9 μ10 μ11
  refine ⟨μ12, ?_⟩
  simp only [f22, q6, q7, q13, i0, i1, q12, t1, lk, c4, c5, c6, t6, lw, c8, c9, c10, c11, t11, lp, bind_ok, into_ok, seq_nx, seq_rt, seq_bk, seq_ct, out_rt, out_nx, vrD_ok, tup1, tup2, tup3, tup4, tup5, lst0, lst1, lst2, lst3, chB_t, chB_f, okB_some, tr_bl, setK_ok, kOk_eq, notK_eq, isNK_eq, notNK_eq, intO_ok, seqK_eq, strK_eq, rngK_eq, dctK_eq, consK_eq, someK_eq, noneK_eq, subK_ok, dropK_eq, retK_eq, asgK_eq, asgTK_eq, sub3_eq, binK_eq, cmpK_eq, idxK_eq, slcK2_eq, slcK_eq, ifK_eq, callK_eq, lK_eq, andK_eq, orK_eq, eltK_eq, allK_eq, lcK_eq, sub2_eq, sub1_eq, ifS_eq, forK_eq, e_var, e_ci, e_cs, e_cb, e_cn, e_not, e_isN, e_notN, e_bin, e_cmp, e_ifx, e_tup, e_lst, e_dnew, e_idx, e_slc, e_call, e_bi, e_isi, e_bm, e_lc, l_nil, l_cons, o_none, o_some, and_one, and_two, or_one, or_two, all_nil, all_one, trB_bl, i_seq, i_str, i_rng, i_keys, i_items, s_nil, s_cons, s_asg, s_asgT, s_sub, s_exp, s_ret, s_retN, s_if, s_for, List.getElem?_cons_zero, List.getElem?_cons_succ, List.set_cons_zero, List.set_cons_succ, List.length_cons, List.length_nil, Nat.reduceAdd, Nat.reduceLT, if_true, Bool.not_true, Bool.not_false]
theorem law_true203 (ns : List Int) (hl : ns.length ≤ 63) : ∃ μ, PI.run pr 203 22 [.sl (ns.map .int)] [] = .ok (.bl true) μ := law_true (by decide) ns hl
end K32

/-! law_k32_opened_and_shut: the end -/
namespace K32
open PySem PySem.Spec PyProof.Rows L2 PI
def CA : Nat → Addr := fun _ => default
theorem all_mk {l : PySem.W.OpenLaw} {w : World} {K : PySem.W.Frag} {h : Heap} {mg : Str → Option Value} {fa : Addr} (X : K.In h) (G : h.Ns mainGlobals mg) (hfa : mg "law" = some (.ref fa))
    {od0 an0 : Option Addr} {sl0 : Array (Option Value)} {oc0 kV0 dc0 pm0 cd0 ct0 : Value} {f0a : Addr}
    (a0 : PySem.W.nsIn K mainGlobals "exchanged" = some (some (.ref f0a))) (l0 : K.lookup f0a = some ⟨oc0, od0, .func (PySem.W.fnOf "exchanged" "exchanged" (defArgs (top 2)) (defBody (top 2)) (defScope (top 2)) .none kV0 dc0 pm0 an0 cd0 ct0), sl0⟩) (c0 : PySem.W.codeIn K cd0 "exchanged" = true) (k0 : PySem.W.keepIn K (.ref f0a) = true)
    {od1 an1 : Option Addr} {sl1 : Array (Option Value)} {oc1 kV1 dc1 pm1 cd1 ct1 : Value} {f1a : Addr}
    (a1 : PySem.W.nsIn K mainGlobals "opened" = some (some (.ref f1a))) (l1 : K.lookup f1a = some ⟨oc1, od1, .func (PySem.W.fnOf "opened" "opened" (defArgs (top 3)) (defBody (top 3)) (defScope (top 3)) .none kV1 dc1 pm1 an1 cd1 ct1), sl1⟩) (c1 : PySem.W.codeIn K cd1 "opened" = true) (k1 : PySem.W.keepIn K (.ref f1a) = true)
    {od2 an2 : Option Addr} {sl2 : Array (Option Value)} {oc2 kV2 dc2 pm2 cd2 ct2 : Value} {f2a : Addr}
    (a2 : PySem.W.nsIn K mainGlobals "shut" = some (some (.ref f2a))) (l2 : K.lookup f2a = some ⟨oc2, od2, .func (PySem.W.fnOf "shut" "shut" (defArgs (top 4)) (defBody (top 4)) (defScope (top 4)) .none kV2 dc2 pm2 an2 cd2 ct2), sl2⟩) (c2 : PySem.W.codeIn K cd2 "shut" = true) (k2 : PySem.W.keepIn K (.ref f2a) = true)
    {od3 an3 : Option Addr} {sl3 : Array (Option Value)} {oc3 kV3 dc3 pm3 cd3 ct3 : Value} {f3a : Addr}
    (a3 : PySem.W.nsIn K mainGlobals "put_in" = some (some (.ref f3a))) (l3 : K.lookup f3a = some ⟨oc3, od3, .func (PySem.W.fnOf "put_in" "put_in" (defArgs (top 5)) (defBody (top 5)) (defScope (top 5)) .none kV3 dc3 pm3 an3 cd3 ct3), sl3⟩) (c3 : PySem.W.codeIn K cd3 "put_in" = true) (k3 : PySem.W.keepIn K (.ref f3a) = true)
    {od4 an4 : Option Addr} {sl4 : Array (Option Value)} {oc4 kV4 dc4 pm4 cd4 ct4 : Value} {f4a : Addr}
    (a4 : PySem.W.nsIn K mainGlobals "names_within" = some (some (.ref f4a))) (l4 : K.lookup f4a = some ⟨oc4, od4, .func (PySem.W.fnOf "names_within" "names_within" (defArgs (top 6)) (defBody (top 6)) (defScope (top 6)) .none kV4 dc4 pm4 an4 cd4 ct4), sl4⟩) (c4 : PySem.W.codeIn K cd4 "names_within" = true) (k4 : PySem.W.keepIn K (.ref f4a) = true)
    {od5 an5 : Option Addr} {sl5 : Array (Option Value)} {oc5 kV5 dc5 pm5 cd5 ct5 : Value} {f5a : Addr}
    (a5 : PySem.W.nsIn K mainGlobals "free_in" = some (some (.ref f5a))) (l5 : K.lookup f5a = some ⟨oc5, od5, .func (PySem.W.fnOf "free_in" "free_in" (defArgs (top 7)) (defBody (top 7)) (defScope (top 7)) .none kV5 dc5 pm5 an5 cd5 ct5), sl5⟩) (c5 : PySem.W.codeIn K cd5 "free_in" = true) (k5 : PySem.W.keepIn K (.ref f5a) = true)
    {od6 an6 : Option Addr} {sl6 : Array (Option Value)} {oc6 kV6 dc6 pm6 cd6 ct6 : Value} {f6a : Addr}
    (a6 : PySem.W.nsIn K mainGlobals "_law_seed" = some (some (.ref f6a))) (l6 : K.lookup f6a = some ⟨oc6, od6, .func (PySem.W.fnOf "_law_seed" "_law_seed" (defArgs (top 9)) (defBody (top 9)) (defScope (top 9)) .none kV6 dc6 pm6 an6 cd6 ct6), sl6⟩) (c6 : PySem.W.codeIn K cd6 "_law_seed" = true) (k6 : PySem.W.keepIn K (.ref f6a) = true)
    {od7 an7 : Option Addr} {sl7 : Array (Option Value)} {oc7 kV7 dc7 pm7 cd7 ct7 : Value} {f7a : Addr}
    (a7 : PySem.W.nsIn K mainGlobals "_law_state" = some (some (.ref f7a))) (l7 : K.lookup f7a = some ⟨oc7, od7, .func (PySem.W.fnOf "_law_state" "_law_state" (defArgs (top 10)) (defBody (top 10)) (defScope (top 10)) .none kV7 dc7 pm7 an7 cd7 ct7), sl7⟩) (c7 : PySem.W.codeIn K cd7 "_law_state" = true) (k7 : PySem.W.keepIn K (.ref f7a) = true)
    {od8 an8 : Option Addr} {sl8 : Array (Option Value)} {oc8 kV8 dc8 pm8 cd8 ct8 : Value} {f8a : Addr}
    (a8 : PySem.W.nsIn K mainGlobals "_law_draw" = some (some (.ref f8a))) (l8 : K.lookup f8a = some ⟨oc8, od8, .func (PySem.W.fnOf "_law_draw" "_law_draw" (defArgs (top 11)) (defBody (top 11)) (defScope (top 11)) .none kV8 dc8 pm8 an8 cd8 ct8), sl8⟩) (c8 : PySem.W.codeIn K cd8 "_law_draw" = true) (k8 : PySem.W.keepIn K (.ref f8a) = true)
    {od9 an9 : Option Addr} {sl9 : Array (Option Value)} {oc9 kV9 dc9 pm9 cd9 ct9 : Value} {f9a : Addr}
    (a9 : PySem.W.nsIn K mainGlobals "_law_word" = some (some (.ref f9a))) (l9 : K.lookup f9a = some ⟨oc9, od9, .func (PySem.W.fnOf "_law_word" "_law_word" (defArgs (top 12)) (defBody (top 12)) (defScope (top 12)) .none kV9 dc9 pm9 an9 cd9 ct9), sl9⟩) (c9 : PySem.W.codeIn K cd9 "_law_word" = true) (k9 : PySem.W.keepIn K (.ref f9a) = true)
    {od10 an10 : Option Addr} {sl10 : Array (Option Value)} {oc10 kV10 dc10 pm10 cd10 ct10 : Value} {f10a : Addr}
    (a10 : PySem.W.nsIn K mainGlobals "_law_kinds" = some (some (.ref f10a))) (l10 : K.lookup f10a = some ⟨oc10, od10, .func (PySem.W.fnOf "_law_kinds" "_law_kinds" (defArgs (top 13)) (defBody (top 13)) (defScope (top 13)) .none kV10 dc10 pm10 an10 cd10 ct10), sl10⟩) (c10 : PySem.W.codeIn K cd10 "_law_kinds" = true) (k10 : PySem.W.keepIn K (.ref f10a) = true)
    {od11 an11 : Option Addr} {sl11 : Array (Option Value)} {oc11 kV11 dc11 pm11 cd11 ct11 : Value} {f11a : Addr}
    (a11 : PySem.W.nsIn K mainGlobals "_law_works" = some (some (.ref f11a))) (l11 : K.lookup f11a = some ⟨oc11, od11, .func (PySem.W.fnOf "_law_works" "_law_works" (defArgs (top 14)) (defBody (top 14)) (defScope (top 14)) .none kV11 dc11 pm11 an11 cd11 ct11), sl11⟩) (c11 : PySem.W.codeIn K cd11 "_law_works" = true) (k11 : PySem.W.keepIn K (.ref f11a) = true)
    {od12 an12 : Option Addr} {sl12 : Array (Option Value)} {oc12 kV12 dc12 pm12 cd12 ct12 : Value} {f12a : Addr}
    (a12 : PySem.W.nsIn K mainGlobals "_law_makes" = some (some (.ref f12a))) (l12 : K.lookup f12a = some ⟨oc12, od12, .func (PySem.W.fnOf "_law_makes" "_law_makes" (defArgs (top 15)) (defBody (top 15)) (defScope (top 15)) .none kV12 dc12 pm12 an12 cd12 ct12), sl12⟩) (c12 : PySem.W.codeIn K cd12 "_law_makes" = true) (k12 : PySem.W.keepIn K (.ref f12a) = true)
    {od13 an13 : Option Addr} {sl13 : Array (Option Value)} {oc13 kV13 dc13 pm13 cd13 ct13 : Value} {f13a : Addr}
    (a13 : PySem.W.nsIn K mainGlobals "_law_drawn_ground" = some (some (.ref f13a))) (l13 : K.lookup f13a = some ⟨oc13, od13, .func (PySem.W.fnOf "_law_drawn_ground" "_law_drawn_ground" (defArgs (top 16)) (defBody (top 16)) (defScope (top 16)) .none kV13 dc13 pm13 an13 cd13 ct13), sl13⟩) (c13 : PySem.W.codeIn K cd13 "_law_drawn_ground" = true) (k13 : PySem.W.keepIn K (.ref f13a) = true)
    {od14 an14 : Option Addr} {sl14 : Array (Option Value)} {oc14 kV14 dc14 pm14 cd14 ct14 : Value} {f14a : Addr}
    (a14 : PySem.W.nsIn K mainGlobals "_law_term" = some (some (.ref f14a))) (l14 : K.lookup f14a = some ⟨oc14, od14, .func (PySem.W.fnOf "_law_term" "_law_term" (defArgs (top 17)) (defBody (top 17)) (defScope (top 17)) .none kV14 dc14 pm14 an14 cd14 ct14), sl14⟩) (c14 : PySem.W.codeIn K cd14 "_law_term" = true) (k14 : PySem.W.keepIn K (.ref f14a) = true)
    {od15 an15 : Option Addr} {sl15 : Array (Option Value)} {oc15 kV15 dc15 pm15 cd15 ct15 : Value} {f15a : Addr}
    (a15 : PySem.W.nsIn K mainGlobals "_law_saying" = some (some (.ref f15a))) (l15 : K.lookup f15a = some ⟨oc15, od15, .func (PySem.W.fnOf "_law_saying" "_law_saying" (defArgs (top 18)) (defBody (top 18)) (defScope (top 18)) .none kV15 dc15 pm15 an15 cd15 ct15), sl15⟩) (c15 : PySem.W.codeIn K cd15 "_law_saying" = true) (k15 : PySem.W.keepIn K (.ref f15a) = true)
    {od16 an16 : Option Addr} {sl16 : Array (Option Value)} {oc16 kV16 dc16 pm16 cd16 ct16 : Value} {f16a : Addr}
    (a16 : PySem.W.nsIn K mainGlobals "_law_named" = some (some (.ref f16a))) (l16 : K.lookup f16a = some ⟨oc16, od16, .func (PySem.W.fnOf "_law_named" "_law_named" (defArgs (top 19)) (defBody (top 19)) (defScope (top 19)) .none kV16 dc16 pm16 an16 cd16 ct16), sl16⟩) (c16 : PySem.W.codeIn K cd16 "_law_named" = true) (k16 : PySem.W.keepIn K (.ref f16a) = true)
    {od17 an17 : Option Addr} {sl17 : Array (Option Value)} {oc17 kV17 dc17 pm17 cd17 ct17 : Value} {f17a : Addr}
    (a17 : PySem.W.nsIn K mainGlobals "_law_exchanged" = some (some (.ref f17a))) (l17 : K.lookup f17a = some ⟨oc17, od17, .func (PySem.W.fnOf "_law_exchanged" "_law_exchanged" (defArgs (top 20)) (defBody (top 20)) (defScope (top 20)) .none kV17 dc17 pm17 an17 cd17 ct17), sl17⟩) (c17 : PySem.W.codeIn K cd17 "_law_exchanged" = true) (k17 : PySem.W.keepIn K (.ref f17a) = true)
    {od18 an18 : Option Addr} {sl18 : Array (Option Value)} {oc18 kV18 dc18 pm18 cd18 ct18 : Value} {f18a : Addr}
    (a18 : PySem.W.nsIn K mainGlobals "_law_unnamed" = some (some (.ref f18a))) (l18 : K.lookup f18a = some ⟨oc18, od18, .func (PySem.W.fnOf "_law_unnamed" "_law_unnamed" (defArgs (top 21)) (defBody (top 21)) (defScope (top 21)) .none kV18 dc18 pm18 an18 cd18 ct18), sl18⟩) (c18 : PySem.W.codeIn K cd18 "_law_unnamed" = true) (k18 : PySem.W.keepIn K (.ref f18a) = true)
    {od19 an19 : Option Addr} {sl19 : Array (Option Value)} {oc19 kV19 dc19 pm19 cd19 ct19 : Value} {f19a : Addr}
    (a19 : PySem.W.nsIn K mainGlobals "_law_free" = some (some (.ref f19a))) (l19 : K.lookup f19a = some ⟨oc19, od19, .func (PySem.W.fnOf "_law_free" "_law_free" (defArgs (top 22)) (defBody (top 22)) (defScope (top 22)) .none kV19 dc19 pm19 an19 cd19 ct19), sl19⟩) (c19 : PySem.W.codeIn K cd19 "_law_free" = true) (k19 : PySem.W.keepIn K (.ref f19a) = true)
    {od20 an20 : Option Addr} {sl20 : Array (Option Value)} {oc20 kV20 dc20 pm20 cd20 ct20 : Value} {f20a : Addr}
    (a20 : PySem.W.nsIn K mainGlobals "_law_right" = some (some (.ref f20a))) (l20 : K.lookup f20a = some ⟨oc20, od20, .func (PySem.W.fnOf "_law_right" "_law_right" (defArgs (top 23)) (defBody (top 23)) (defScope (top 23)) .none kV20 dc20 pm20 an20 cd20 ct20), sl20⟩) (c20 : PySem.W.codeIn K cd20 "_law_right" = true) (k20 : PySem.W.keepIn K (.ref f20a) = true)
    {od21 an21 : Option Addr} {sl21 : Array (Option Value)} {oc21 kV21 dc21 pm21 cd21 ct21 : Value} {f21a : Addr}
    (a21 : PySem.W.nsIn K mainGlobals "_law_free_right" = some (some (.ref f21a))) (l21 : K.lookup f21a = some ⟨oc21, od21, .func (PySem.W.fnOf "_law_free_right" "_law_free_right" (defArgs (top 24)) (defBody (top 24)) (defScope (top 24)) .none kV21 dc21 pm21 an21 cd21 ct21), sl21⟩) (c21 : PySem.W.codeIn K cd21 "_law_free_right" = true) (k21 : PySem.W.keepIn K (.ref f21a) = true)
    {od22 an22 : Option Addr} {sl22 : Array (Option Value)} {oc22 kV22 dc22 pm22 cd22 ct22 : Value} {f22a : Addr}
    (a22 : PySem.W.nsIn K mainGlobals "law" = some (some (.ref f22a))) (l22 : K.lookup f22a = some ⟨oc22, od22, .func (PySem.W.fnOf "law" "law" (defArgs (top 25)) (defBody (top 25)) (defScope (top 25)) .none kV22 dc22 pm22 an22 cd22 ct22), sl22⟩) (c22 : PySem.W.codeIn K cd22 "law" = true) (k22 : PySem.W.keepIn K (.ref f22a) = true)
    {g0a : Addr} {go0 : Option Addr} {gn0 : Nat} {gs0 : Array (Option Value)} {t0_0 t0_1 : Tok} (ga0 : PySem.W.nsIn K mainGlobals "BINDERS" = some (some (.ref g0a))) (gb0 : K.lookup g0a = some ⟨.type "tuple", go0, .seq #[.str "all" t0_0, .str "some" t0_1] gn0, gs0⟩)
    (z_len : PySem.W.nsIn K mainGlobals "len" = some none)
    (z_list : PySem.W.nsIn K mainGlobals "list" = some none)
    (z_tuple : PySem.W.nsIn K mainGlobals "tuple" = some none)
    (z_all : PySem.W.nsIn K mainGlobals "all" = some none)
    (z_any : PySem.W.nsIn K mainGlobals "any" = some none)
    (z_sum : PySem.W.nsIn K mainGlobals "sum" = some none)
    (z_int : PySem.W.nsIn K mainGlobals "int" = some none)
    (z_max : PySem.W.nsIn K mainGlobals "max" = some none)
    (z_min : PySem.W.nsIn K mainGlobals "min" = some none)
    (z_abs : PySem.W.nsIn K mainGlobals "abs" = some none)
    (z_sorted : PySem.W.nsIn K mainGlobals "sorted" = some none)
    (z_set : PySem.W.nsIn K mainGlobals "set" = some none)
    (z_range : PySem.W.nsIn K mainGlobals "range" = some none)
    (z_isinstance : PySem.W.nsIn K mainGlobals "isinstance" = some none)
    (z_zip : PySem.W.nsIn K mainGlobals "zip" = some none)
    (z_enumerate : PySem.W.nsIn K mainGlobals "enumerate" = some none)
    (z_reversed : PySem.W.nsIn K mainGlobals "reversed" = some none)
    (z_str : PySem.W.nsIn K mainGlobals "str" = some none)
    (z_bool : PySem.W.nsIn K mainGlobals "bool" = some none)
    (z_dict : PySem.W.nsIn K mainGlobals "dict" = some none) :
    ∃ fd : FuncData, (∀ (s : Shared) (v : Value), BindsTo s fd ⟨[v], []⟩ [("script", v)]) ∧ ∀ base : Heap, K.In base → base.Ns mainGlobals mg → FnOk l.prog w K mg base (L2.CX l.prog w) 203 fa fd ["script"] (spF K CA (run pr 203) 22) := by
  have e := hfa.symm.trans (PySem.W.mg_of X G a22)
  cases e
  have D0 : DefOk tab pr K mg 0 "exchanged" := def_mk X G rfl sc0 ck0 rfl rfl (fun _ _ _ _ _ _ us hl => match us, hl with | [_, _, _, _], _ => rfl) a0 l0 c0 k0
  have D1 : DefOk tab pr K mg 1 "opened" := def_mk X G rfl sc1 ck1 rfl rfl (fun _ _ _ _ _ _ us hl => match us, hl with | [_, _], _ => rfl) a1 l1 c1 k1
  have D2 : DefOk tab pr K mg 2 "shut" := def_mk X G rfl sc2 ck2 rfl rfl (fun _ _ _ _ _ _ us hl => match us, hl with | [_, _, _], _ => rfl) a2 l2 c2 k2
  have D3 : DefOk tab pr K mg 3 "put_in" := def_mk X G rfl sc3 ck3 rfl rfl (fun _ _ _ _ _ _ us hl => match us, hl with | [_, _, _, _], _ => rfl) a3 l3 c3 k3
  have D4 : DefOk tab pr K mg 4 "names_within" := def_mk X G rfl sc4 ck4 rfl rfl (fun _ _ _ _ _ _ us hl => match us, hl with | [_], _ => rfl) a4 l4 c4 k4
  have D5 : DefOk tab pr K mg 5 "free_in" := def_mk X G rfl sc5 ck5 rfl rfl (fun _ _ _ _ _ _ us hl => match us, hl with | [_], _ => rfl) a5 l5 c5 k5
  have D6 : DefOk tab pr K mg 6 "_law_seed" := def_mk X G rfl sc6 ck6 rfl rfl (fun _ _ _ _ _ _ us hl => match us, hl with | [_, _], _ => rfl) a6 l6 c6 k6
  have D7 : DefOk tab pr K mg 7 "_law_state" := def_mk X G rfl sc7 ck7 rfl rfl (fun _ _ _ _ _ _ us hl => match us, hl with | [_], _ => rfl) a7 l7 c7 k7
  have D8 : DefOk tab pr K mg 8 "_law_draw" := def_mk X G rfl sc8 ck8 rfl rfl (fun _ _ _ _ _ _ us hl => match us, hl with | [_, _], _ => rfl) a8 l8 c8 k8
  have D9 : DefOk tab pr K mg 9 "_law_word" := def_mk X G rfl sc9 ck9 rfl rfl (fun _ _ _ _ _ _ us hl => match us, hl with | [_, _], _ => rfl) a9 l9 c9 k9
  have D10 : DefOk tab pr K mg 10 "_law_kinds" := def_mk X G rfl sc10 ck10 rfl rfl (fun _ _ _ _ _ _ us hl => match us, hl with | [_, _], _ => rfl) a10 l10 c10 k10
  have D11 : DefOk tab pr K mg 11 "_law_works" := def_mk X G rfl sc11 ck11 rfl rfl (fun _ _ _ _ _ _ us hl => match us, hl with | [_, _, _], _ => rfl) a11 l11 c11 k11
  have D12 : DefOk tab pr K mg 12 "_law_makes" := def_mk X G rfl sc12 ck12 rfl rfl (fun _ _ _ _ _ _ us hl => match us, hl with | [_, _], _ => rfl) a12 l12 c12 k12
  have D13 : DefOk tab pr K mg 13 "_law_drawn_ground" := def_mk X G rfl sc13 ck13 rfl rfl (fun _ _ _ _ _ _ us hl => match us, hl with | [_], _ => rfl) a13 l13 c13 k13
  have D14 : DefOk tab pr K mg 14 "_law_term" := def_mk X G rfl sc14 ck14 rfl rfl (fun _ _ _ _ _ _ us hl => match us, hl with | [_, _, _, _, _, _], _ => rfl) a14 l14 c14 k14
  have D15 : DefOk tab pr K mg 15 "_law_saying" := def_mk X G rfl sc15 ck15 rfl rfl (fun _ _ _ _ _ _ us hl => match us, hl with | [_, _, _, _, _, _, _], _ => rfl) a15 l15 c15 k15
  have D16 : DefOk tab pr K mg 16 "_law_named" := def_mk X G rfl sc16 ck16 rfl rfl (fun _ _ _ _ _ _ us hl => match us, hl with | [_, _], _ => rfl) a16 l16 c16 k16
  have D17 : DefOk tab pr K mg 17 "_law_exchanged" := def_mk X G rfl sc17 ck17 rfl rfl (fun _ _ _ _ _ _ us hl => match us, hl with | [_, _, _], _ => rfl) a17 l17 c17 k17
  have D18 : DefOk tab pr K mg 18 "_law_unnamed" := def_mk X G rfl sc18 ck18 rfl rfl (fun _ _ _ _ _ _ us hl => match us, hl with | [_, _], _ => rfl) a18 l18 c18 k18
  have D19 : DefOk tab pr K mg 19 "_law_free" := def_mk X G rfl sc19 ck19 rfl rfl (fun _ _ _ _ _ _ us hl => match us, hl with | [_], _ => rfl) a19 l19 c19 k19
  have D20 : DefOk tab pr K mg 20 "_law_right" := def_mk X G rfl sc20 ck20 rfl rfl (fun _ _ _ _ _ _ us hl => match us, hl with | [_, _, _, _], _ => rfl) a20 l20 c20 k20
  have D21 : DefOk tab pr K mg 21 "_law_free_right" := def_mk X G rfl sc21 ck21 rfl rfl (fun _ _ _ _ _ _ us hl => match us, hl with | [_], _ => rfl) a21 l21 c21 k21
  have D22 : DefOk tab pr K mg 22 "law" := def_mk X G rfl sc22 ck22 rfl rfl (fun _ _ _ _ _ _ us hl => match us, hl with | [_], _ => rfl) a22 l22 c22 k22
  have T : Top tab pr CA K mg := ⟨fun fid x h => ?_, fun i x d h h' => ?_, fun x h => ?_⟩
  · have F := fun_mk (st := top 25) l22 c22 k22
    refine ⟨PySem.W.fnOf "law" "law" (defArgs (top 25)) (defBody (top 25)) (defScope (top 25)) .none kV22 dc22 pm22 an22 cd22 ct22, fun s v => .of_eq rfl, fun base _ _ => ?_⟩
    exact fn_ok (glob_ok T (203 - 1)) rfl F sc22 ck22 rfl rfl
  · match fid, h with
    | 0, h => cases h; exact D0
    | 1, h => cases h; exact D1
    | 2, h => cases h; exact D2
    | 3, h => cases h; exact D3
    | 4, h => cases h; exact D4
    | 5, h => cases h; exact D5
    | 6, h => cases h; exact D6
    | 7, h => cases h; exact D7
    | 8, h => cases h; exact D8
    | 9, h => cases h; exact D9
    | 10, h => cases h; exact D10
    | 11, h => cases h; exact D11
    | 12, h => cases h; exact D12
    | 13, h => cases h; exact D13
    | 14, h => cases h; exact D14
    | 15, h => cases h; exact D15
    | 16, h => cases h; exact D16
    | 17, h => cases h; exact D17
    | 18, h => cases h; exact D18
    | 19, h => cases h; exact D19
    | 20, h => cases h; exact D20
    | 21, h => cases h; exact D21
    | 22, h => cases h; exact D22
    | n + 23, h => simp [tab] at h
  · match i, h, h' with
    | 0, h, h' => cases h; cases h'; exact ⟨.ref g0a, .ref g0a, PySem.W.mg_of X G ga0, rfl, fun φ H => .tup (.inr (show KT K g0a [.str "all", .str "some"] from ⟨_, _, _, gb0, rfl, rfl, (by show 2 ≤ sizeLine; decide), (.cons ⟨_, rfl⟩ (.cons ⟨_, rfl⟩ (.nil)))⟩)) (.cons (.str _ (by decide +kernel)) (.cons (.str _ (by decide +kernel)) (.nil)))⟩
    | n + 1, h, h' => simp [tab] at h
  · simp only [bltNames, List.mem_cons, List.not_mem_nil, or_false] at h
    rcases h with rfl | rfl | rfl | rfl | rfl | rfl | rfl | rfl | rfl | rfl | rfl | rfl | rfl | rfl | rfl | rfl | rfl | rfl | rfl | rfl
    · exact PySem.W.mg_none_of X G z_len
    · exact PySem.W.mg_none_of X G z_list
    · exact PySem.W.mg_none_of X G z_tuple
    · exact PySem.W.mg_none_of X G z_all
    · exact PySem.W.mg_none_of X G z_any
    · exact PySem.W.mg_none_of X G z_sum
    · exact PySem.W.mg_none_of X G z_int
    · exact PySem.W.mg_none_of X G z_max
    · exact PySem.W.mg_none_of X G z_min
    · exact PySem.W.mg_none_of X G z_abs
    · exact PySem.W.mg_none_of X G z_sorted
    · exact PySem.W.mg_none_of X G z_set
    · exact PySem.W.mg_none_of X G z_range
    · exact PySem.W.mg_none_of X G z_isinstance
    · exact PySem.W.mg_none_of X G z_zip
    · exact PySem.W.mg_none_of X G z_enumerate
    · exact PySem.W.mg_none_of X G z_reversed
    · exact PySem.W.mg_none_of X G z_str
    · exact PySem.W.mg_none_of X G z_bool
    · exact PySem.W.mg_none_of X G z_dict
theorem walk {l : PySem.W.OpenLaw} {q : Program} {loose : List Str} {XP : (Str → Option Value) → Heap → Prop} {YP : World → Heap → Prop} {d : DefRec} {K : Params → PySem.W.Frag} (hn : l.most = some 63) (hdf : d.params.defaults = [])
    (hY : ∀ (w : World) (h : Heap), YP w h → (K w.params).In h)
    (F : ∀ (w : World) (mg : Str → Option Value) (fa : Addr) (h : Heap), (K w.params).In h → h.Ns mainGlobals mg → mg d.name = some (.ref fa) →
      ∃ fd : FuncData, (∀ (s : Shared) (u : Value), BindsTo s fd ⟨[u], []⟩ [("script", u)]) ∧ ∀ base : Heap, (K w.params).In base → base.Ns mainGlobals mg → FnOk l.prog w (K w.params) mg base (L2.CX l.prog w) 203 fa fd ["script"] (spF (K w.params) CA (run pr 203) 22)) :
    PySem.W.WalkO q loose XP YP l.row.toRowW d [] (fun f vs => PySem.call f vs) :=
  L2.walk_of (n := 63) (k := 203) (x := "script") (CX := fun w => L2.CX l.prog w) (sp := fun w => spF (K w.params) CA (run pr 203) 22) hn (by decide) hdf ⟨rfl, by decide, by decide⟩ hY
    F (fun w H a ns hl _ hS => law_sp law_true203 H a ns hl hS) fun w H s e s' c => by
      obtain ⟨_, _, _, _, _, _, _, _, _, _, _, _, f⟩ := c
      exact f
end K32
open PySem PySem.W PyProof.Rows
set_option maxRecDepth 100000 in
set_option maxHeartbeats 0 in
theorem PySem.Challenge.cw_samesmith_k32_opened_and_shut_holds : PySem.Challenge.rw_samesmith_k32_opened_and_shut.Holds := by
  w_on; o_law; k_head; (case hw => w_witness2)
  k_fill
  refine K32.walk (l := PySem.Challenge.rw_samesmith_k32_opened_and_shut) rfl rfl (fun w h Y => PySem.W.kIn_of Y) ?F
  case F =>
    intro w mg fa h KX G hmg
    refine' K32.all_mk KX G hmg ?a0 ?l0 ?c0 ?k0 ?a1 ?l1 ?c1 ?k1 ?a2 ?l2 ?c2 ?k2 ?a3 ?l3 ?c3 ?k3 ?a4 ?l4 ?c4 ?k4 ?a5 ?l5 ?c5 ?k5 ?a6 ?l6 ?c6 ?k6 ?a7 ?l7 ?c7 ?k7 ?a8 ?l8 ?c8 ?k8 ?a9 ?l9 ?c9 ?k9 ?a10 ?l10 ?c10 ?k10 ?a11 ?l11 ?c11 ?k11 ?a12 ?l12 ?c12 ?k12 ?a13 ?l13 ?c13 ?k13 ?a14 ?l14 ?c14 ?k14 ?a15 ?l15 ?c15 ?k15 ?a16 ?l16 ?c16 ?k16 ?a17 ?l17 ?c17 ?k17 ?a18 ?l18 ?c18 ?k18 ?a19 ?l19 ?c19 ?k19 ?a20 ?l20 ?c20 ?k20 ?a21 ?l21 ?c21 ?k21 ?a22 ?l22 ?c22 ?k22 ?ga0 ?gb0 ?z_len ?z_list ?z_tuple ?z_all ?z_any ?z_sum ?z_int ?z_max ?z_min ?z_abs ?z_sorted ?z_set ?z_range ?z_isinstance ?z_zip ?z_enumerate ?z_reversed ?z_str ?z_bool ?z_dict
    (case a0 => k_is); (case l0 => k_is); (case c0 => k_is); (case k0 => k_is)
    (case a1 => k_is); (case l1 => k_is); (case c1 => k_is); (case k1 => k_is)
    (case a2 => k_is); (case l2 => k_is); (case c2 => k_is); (case k2 => k_is)
    (case a3 => k_is); (case l3 => k_is); (case c3 => k_is); (case k3 => k_is)
    (case a4 => k_is); (case l4 => k_is); (case c4 => k_is); (case k4 => k_is)
    (case a5 => k_is); (case l5 => k_is); (case c5 => k_is); (case k5 => k_is)
    (case a6 => k_is); (case l6 => k_is); (case c6 => k_is); (case k6 => k_is)
    (case a7 => k_is); (case l7 => k_is); (case c7 => k_is); (case k7 => k_is)
    (case a8 => k_is); (case l8 => k_is); (case c8 => k_is); (case k8 => k_is)
    (case a9 => k_is); (case l9 => k_is); (case c9 => k_is); (case k9 => k_is)
    (case a10 => k_is); (case l10 => k_is); (case c10 => k_is); (case k10 => k_is)
    (case a11 => k_is); (case l11 => k_is); (case c11 => k_is); (case k11 => k_is)
    (case a12 => k_is); (case l12 => k_is); (case c12 => k_is); (case k12 => k_is)
    (case a13 => k_is); (case l13 => k_is); (case c13 => k_is); (case k13 => k_is)
    (case a14 => k_is); (case l14 => k_is); (case c14 => k_is); (case k14 => k_is)
    (case a15 => k_is); (case l15 => k_is); (case c15 => k_is); (case k15 => k_is)
    (case a16 => k_is); (case l16 => k_is); (case c16 => k_is); (case k16 => k_is)
    (case a17 => k_is); (case l17 => k_is); (case c17 => k_is); (case k17 => k_is)
    (case a18 => k_is); (case l18 => k_is); (case c18 => k_is); (case k18 => k_is)
    (case a19 => k_is); (case l19 => k_is); (case c19 => k_is); (case k19 => k_is)
    (case a20 => k_is); (case l20 => k_is); (case c20 => k_is); (case k20 => k_is)
    (case a21 => k_is); (case l21 => k_is); (case c21 => k_is); (case k21 => k_is)
    (case a22 => k_is); (case l22 => k_is); (case c22 => k_is); (case k22 => k_is)
    (case ga0 => k_is); (case gb0 => k_is); (case z_len => k_is); (case z_list => k_is)
    (case z_tuple => k_is); (case z_all => k_is); (case z_any => k_is); (case z_sum => k_is)
    (case z_int => k_is); (case z_max => k_is); (case z_min => k_is); (case z_abs => k_is)
    (case z_sorted => k_is); (case z_set => k_is); (case z_range => k_is); (case z_isinstance => k_is)
    (case z_zip => k_is); (case z_enumerate => k_is); (case z_reversed => k_is); (case z_str => k_is)
    (case z_bool => k_is); (case z_dict => k_is)
#print axioms PySem.Challenge.cw_samesmith_k32_opened_and_shut_holds
