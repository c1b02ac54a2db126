import PyProof.Rows.All
import Wide.All
import OpenK.AllK
import Wide.FinOn
import HandS.ForMost
import HandS.ForExc
import HandS.IsInst
import HandS.Wide
import HandS.Flow
import HandS.ExcOwn
import HandS.Zip
import HandS.TupAny
import KE.GoesEnum
import KE.GoesMore
import HandS.StrMore
import HandS.ExcIs
import HandS.TryOnly
import HandS.SortInts
import HandS.Codes
import HandS.Style
import HandS.Iter
import HandS.Dict
import HandS.Small
import HandS.More
import PySem.Challenge.RW_cardhouse_k42_circles
set_option Elab.async false
/-! CdCore: a small functional reading of the Python that the laws use: values, a heap of lists, results, combinators. No program in sight. -/
namespace Cd
noncomputable section
open Classical

/-- a value: tuples lie inline, a list (a dict, an instance) is a place of the heap -/
inductive Val where
  | non | bl (b : Bool) | int (i : Int) | str (s : List Nat) | tup (l : List Val) | fl (l : List Val) | ref (n : Nat) | exo (a : Nat)

/-- what stands at a place: a list, a dict, an instance; a list that is only read lies inline (fl) -/
inductive Obj where
  | lst (l : List Val)
  | dct (l : List (Val × Val))
  | ins (c : String) (fs : List (String × Val))

abbrev Hep := List Obj
/-- a written text -/
def S (s : String) : List Nat := s.toList.map Char.toNat
/-- an exception: its class, its arguments (fields) -/
structure Exc where
  cls : String
  args : List Val

inductive Res (α : Type) where
  | ok (a : α) (h : Hep)
  | exc (e : Exc) (h : Hep)
  | stuck

def Res.bind {α β : Type} (r : Res α) (f : α → Hep → Res β) : Res β :=
  match r with
  | .ok a h => f a h
  | .exc e h => .exc e h
  | .stuck => .stuck
@[simp] theorem Res.bind_ok {α β : Type} (a : α) (h : Hep) (f : α → Hep → Res β) : (Res.ok a h).bind f = f a h := id rfl
@[simp] theorem Res.bind_exc {α β : Type} (e : Exc) (h : Hep) (f : α → Hep → Res β) : (Res.exc e h : Res α).bind f = .exc e h := id rfl
@[simp] theorem Res.bind_stuck {α β : Type} (f : α → Hep → Res β) : (Res.stuck : Res α).bind f = .stuck := id rfl

abbrev Env := List (Option Val)
abbrev EM := Env → Hep → Res Val
abbrev TM := Env → Hep → Res Bool
abbrev AM := Env → Hep → Res (List Val)
abbrev Fn := List Val → Hep → Res Val

/-- how a statement ends -/
inductive SR where
  | nx (η : Env) (h : Hep)
  | brk (η : Env) (h : Hep)
  | cont (η : Env) (h : Hep)
  | ret (v : Val) (h : Hep)
  | exc (e : Exc) (η : Env) (h : Hep)
  | stuck
abbrev SM := Env → Hep → SR
def SR.bind (r : SR) (f : Env → Hep → SR) : SR :=
  match r with
  | .nx η h => f η h
  | r => r
@[simp] theorem SR.bind_nx (η : Env) (h : Hep) (f : Env → Hep → SR) : (SR.nx η h).bind f = f η h := id rfl
@[simp] theorem SR.bind_brk (η : Env) (h : Hep) (f : Env → Hep → SR) : (SR.brk η h).bind f = .brk η h := id rfl
@[simp] theorem SR.bind_cont (η : Env) (h : Hep) (f : Env → Hep → SR) : (SR.cont η h).bind f = .cont η h := id rfl
@[simp] theorem SR.bind_ret (v : Val) (h : Hep) (f : Env → Hep → SR) : (SR.ret v h).bind f = .ret v h := id rfl
@[simp] theorem SR.bind_exc (e : Exc) (η : Env) (h : Hep) (f : Env → Hep → SR) : (SR.exc e η h).bind f = .exc e η h := id rfl
@[simp] theorem SR.bind_stuck (f : Env → Hep → SR) : SR.stuck.bind f = .stuck := id rfl
/-- an expression's result within a statement -/
def Res.thn {α : Type} (r : Res α) (η : Env) (f : α → Hep → SR) : SR :=
  match r with
  | .ok a h => f a h
  | .exc e h => .exc e η h
  | .stuck => .stuck
@[simp] theorem Res.thn_ok {α : Type} (a : α) (h : Hep) (η : Env) (f : α → Hep → SR) : (Res.ok a h).thn η f = f a h := id rfl
@[simp] theorem Res.thn_exc {α : Type} (e : Exc) (h : Hep) (η : Env) (f : α → Hep → SR) : (Res.exc e h : Res α).thn η f = .exc e η h := id rfl
@[simp] theorem Res.thn_stuck {α : Type} (η : Env) (f : α → Hep → SR) : (Res.stuck : Res α).thn η f = .stuck := id rfl

/-- a choice that may be missing -/
def ofO {α : Type} (o : Option α) (h : Hep) : Res α :=
  match o with
  | some a => .ok a h
  | none => .stuck
@[simp] theorem ofO_some {α : Type} (a : α) (h : Hep) : ofO (some a) h = .ok a h := id rfl
@[simp] theorem ofO_none {α : Type} (h : Hep) : ofO (none : Option α) h = .stuck := id rfl

/-! ### expressions -/
def eVar (i : Nat) : EM := fun η h => match η[i]? with | some (some v) => .ok v h | _ => .stuck
def eC (v : Val) : EM := fun _ h => .ok v h
/-- an operator on two values that makes no object -/
def eBin (f : Hep → Val → Val → Option Val) (a b : EM) : EM := fun η h => (a η h).bind fun x h1 => (b η h1).bind fun y h2 => ofO (f h2 x y) h2
def eUn (f : Hep → Val → Option Val) (a : EM) : EM := fun η h => (a η h).bind fun x h1 => ofO (f h1 x) h1
def aNil : AM := fun _ h => .ok [] h
def aCons (a : EM) (r : AM) : AM := fun η h => (a η h).bind fun x h1 => (r η h1).bind fun xs h2 => .ok (x :: xs) h2
/-- the largest size of a list, a tuple, a text -/
def line : Nat := Classical.choose (⟨16777216, rfl⟩ : ∃ n : Nat, n = 16777216)
theorem line_is : line = 16777216 := Classical.choose_spec (⟨16777216, rfl⟩ : ∃ n : Nat, n = 16777216)
def szOk (n : Nat) : Prop := n ≤ line
def eTup (a : AM) : EM := fun η h => (a η h).bind fun xs h1 => if szOk xs.length then .ok (.tup xs) h1 else .stuck
def eLst (a : AM) : EM := fun η h => (a η h).bind fun xs h1 => if szOk xs.length then .ok (.ref h1.length) (h1 ++ [.lst xs]) else .stuck
/-- a def, or a built-in function, of the argument list -/
def eCall (F : Fn) (a : AM) : EM := fun η h => (a η h).bind fun xs h1 => F xs h1
def eIf (c : TM) (a b : EM) : EM := fun η h => (c η h).bind fun k h1 => if k then a η h1 else b η h1
/-- x and y, x or y, as values: all but the last are truths -/
def eAnd (a b : EM) : EM := fun η h => (a η h).bind fun x h1 => match x with | .bl true => b η h1 | .bl false => .ok (.bl false) h1 | _ => .stuck
def eOr (a b : EM) : EM := fun η h => (a η h).bind fun x h1 => match x with | .bl true => .ok (.bl true) h1 | .bl false => b η h1 | _ => .stuck
def eNot (a : EM) : EM := fun η h => (a η h).bind fun x h1 => match x with | .bl k => .ok (.bl (!k)) h1 | _ => .stuck

/-! ### tests -/
def tVal (a : EM) : TM := fun η h => (a η h).bind fun x h1 => match x with | .bl k => .ok k h1 | _ => .stuck
def tAnd (a b : TM) : TM := fun η h => (a η h).bind fun k h1 => if k then b η h1 else .ok false h1
def tOr (a b : TM) : TM := fun η h => (a η h).bind fun k h1 => if k then .ok true h1 else b η h1
def tNot (a : TM) : TM := fun η h => (a η h).bind fun k h1 => .ok (!k) h1
/-- the truth of a value -/
def truth (h : Hep) : Val → Option Bool
  | .non => some false
  | .bl k => some k
  | .int i => some (i != 0)
  | .str s => if szOk s.length then some (s.length != 0) else none
  | .tup l => some (!l.isEmpty)
  | .fl l => some (!l.isEmpty)
  | .ref n => match h[n]? with
    | some (.lst l) => some (!l.isEmpty)
    | some (.dct l) => some (!l.isEmpty)
    | _ => none
  | .exo _ => none
def tTru (a : EM) : TM := fun η h => (a η h).bind fun x h1 => ofO (truth h1 x) h1

/-! ### operators -/
def mulOk (i j : Int) : Prop := (-(2 ^ 64) < i ∧ i < 2 ^ 64) ∨ (-(2 ^ 64) < j ∧ j < 2 ^ 64) ∨ i.natAbs.log2 + j.natAbs.log2 < 1000000
def divOk (j : Int) : Prop := 0 < j ∧ j.natAbs.log2 < 9000
def powOk (i j : Int) : Prop := 0 ≤ j ∧ j ≤ 1000000 ∧ i.natAbs < 2 ^ 64
def mdOk (j : Int) : Prop := 0 < j
def oAdd (_ : Hep) : Val → Val → Option Val
  | .int i, .int j => some (.int (i + j))
  | .str s, .str t => if szOk (s.length + t.length) then some (.str (s ++ t)) else none
  | .tup l, .tup m => if l.isEmpty then none else if szOk (l.length + m.length) then some (.tup (l ++ m)) else none
  | _, _ => none
/-- += of integers, of texts -/
def oIAdd (_ : Hep) : Val → Val → Option Val
  | .int i, .int j => some (.int (i + j))
  | .str s, .str t => if szOk (s.length + t.length) then some (.str (s ++ t)) else none
  | _, _ => none
def oSub (_ : Hep) : Val → Val → Option Val
  | .int i, .int j => some (.int (i - j))
  | _, _ => none
def oMul (_ : Hep) : Val → Val → Option Val
  | .int i, .int j => if mulOk i j then some (.int (i * j)) else none
  | _, _ => none
def oDiv (_ : Hep) : Val → Val → Option Val
  | .int i, .int j => if divOk j then some (.int (i / j)) else none
  | _, _ => none
def oMod (_ : Hep) : Val → Val → Option Val
  | .int i, .int j => if mdOk j then some (.int (i % j)) else none
  | _, _ => none
def oPow (_ : Hep) : Val → Val → Option Val
  | .int i, .int j => if powOk i j then some (.int (i ^ j.toNat)) else none
  | _, _ => none
def oNeg (_ : Hep) : Val → Option Val
  | .int i => some (.int (-i))
  | _ => none
def oLt (_ : Hep) : Val → Val → Option Val
  | .int i, .int j => some (.bl (decide (i < j)))
  | .str s, .str t => some (.bl (decide (s < t)))
  | _, _ => none
def oLe (_ : Hep) : Val → Val → Option Val
  | .int i, .int j => some (.bl (decide (i ≤ j)))
  | .str s, .str t => some (.bl (!decide (t < s)))
  | _, _ => none
def oGt (_ : Hep) : Val → Val → Option Val
  | .int i, .int j => some (.bl (decide (j < i)))
  | .str s, .str t => some (.bl (decide (t < s)))
  | _, _ => none
def oGe (_ : Hep) : Val → Val → Option Val
  | .int i, .int j => some (.bl (decide (j ≤ i)))
  | .str s, .str t => some (.bl (!decide (s < t)))
  | _, _ => none
/-- data: a value with all that lies in it -/
inductive Dat where
  | non | bl (b : Bool) | int (i : Int) | str (s : List Nat) | lst (l : List Dat) | tup (l : List Dat)
mutual
def Dat.eqv : Dat → Dat → Bool
  | .non, .non => true
  | .bl a, .bl b => a == b
  | .bl a, .int j => (if a then 1 else 0) == j
  | .int i, .bl b => i == (if b then 1 else 0)
  | .int i, .int j => i == j
  | .str s, .str t => s == t
  | .lst l, .lst m => Dat.eqvs l m
  | .tup l, .tup m => Dat.eqvs l m
  | _, _ => false
def Dat.eqvs : List Dat → List Dat → Bool
  | [], [] => true
  | a :: l, b :: m => Dat.eqv a b && Dat.eqvs l m
  | _, _ => false
end
/-- characters that there are -/
def chOk (s : List Nat) : Prop := ∀ c ∈ s, c < 1114112
mutual
/-- the data of a value, at most n deep -/
def rsl (h : Hep) : Nat → Val → Option Dat
  | _, .non => some .non
  | _, .bl b => some (.bl b)
  | _, .int i => some (.int i)
  | _, .str s => if chOk s then some (.str s) else none
  | 0, _ => none
  | n + 1, .tup l => (rsls h n l).map .tup
  | n + 1, .fl l => (rsls h n l).map .lst
  | n + 1, .ref a => match h[a]? with
    | some (.lst l) => (rsls h n l).map .lst
    | _ => none
  | _ + 1, .exo _ => none
def rsls (h : Hep) (n : Nat) : List Val → Option (List Dat)
  | [] => some []
  | v :: l => match rsl h n v with
    | some d => (rsls h n l).map (d :: ·)
    | none => none
end

/-- == of data -/
def scl : Val → Val → Option Bool
  | .int i, .int j => some (i == j)
  | .str s, .str t => some (s == t)
  | .bl a, .bl b => some (a == b)
  | .non, .non => some true
  | .non, .int _ => some false
  | .non, .bl _ => some false
  | .non, .str _ => some false
  | .int _, .non => some false
  | .bl _, .non => some false
  | .str _, .non => some false
  | .int _, .str _ => some false
  | .str _, .int _ => some false
  | .bl _, .str _ => some false
  | .str _, .bl _ => some false
  | _, _ => none
def vEq (h : Hep) (a b : Val) : Option Bool :=
  match scl a b with
  | some k => some k
  | none => match rsl h 40 a, rsl h 40 b with
    | some x, some y => some (x.eqv y)
    | _, _ => none
def oEq (h : Hep) (a b : Val) : Option Val := (vEq h a b).map .bl
def oNe (h : Hep) (a b : Val) : Option Val := (vEq h a b).map fun k => .bl (!k)
def isNon : Val → Bool
  | .non => true
  | _ => false
def oIsN (_ : Hep) (a b : Val) : Option Val := match b with | .non => some (.bl (isNon a)) | _ => none
def oNotN (_ : Hep) (a b : Val) : Option Val := match b with | .non => some (.bl (!isNon a)) | _ => none
/-- the place of a subscript -/
def ixN (n : Nat) (i : Int) : Option Nat := if 0 ≤ i then (if i < n then some i.toNat else none) else if -(n : Int) ≤ i then some (i + n).toNat else none
def atI {α : Type} (xs : List α) (i : Int) : Option α := (ixN xs.length i).bind fun j => xs[j]?
def oIdx (h : Hep) : Val → Val → Option Val
  | .tup l, .int i => atI l i
  | .fl l, .int i => atI l i
  | .str s, .int i => if szOk s.length then (atI s i).map fun c => .str [c] else none
  | .ref n, .int i => match h[n]? with
    | some (.lst l) => atI l i
    | _ => none
  | _, _ => none
/-! ### statements -/
def sNop : SM := fun η h => .nx η h
def sBrk : SM := fun η h => .brk η h
def sCont : SM := fun η h => .cont η h
def sSeq (a b : SM) : SM := fun η h => (a η h).bind fun η1 h1 => b η1 h1
def sSet (i : Nat) (e : EM) : SM := fun η h => (e η h).thn η fun v h1 => .nx (η.set i (some v)) h1
def sExpr (e : EM) : SM := fun η h => (e η h).thn η fun _ h1 => .nx η h1
def sRet (e : EM) : SM := fun η h => (e η h).thn η fun v h1 => .ret v h1
def sRetN : SM := fun _ h => .ret .non h
def sIf (c : TM) (a b : SM) : SM := fun η h => (c η h).thn η fun k h1 => if k then a η h1 else b η h1
def sAug (i : Nat) (f : Hep → Val → Val → Option Val) (e : EM) : SM := fun η h => match η[i]? with
  | some (some x) => (e η h).thn η fun y h1 => (ofO (f h1 x y) h1).thn η fun z h2 => .nx (η.set i (some z)) h2
  | _ => .stuck
/-- n turns of a while at most -/
def whileN (c : TM) (b : SM) : Nat → Env → Hep → SR
  | 0, _, _ => .stuck
  | n + 1, η, h => (c η h).thn η fun k h1 => if k then
      match b η h1 with
      | .nx η' h' => whileN c b n η' h'
      | .cont η' h' => whileN c b n η' h'
      | .brk η' h' => .nx η' h'
      | r => r
    else .nx η h1
def sWhile (c : TM) (b : SM) : SM := fun η h => if q : ∃ n, whileN c b n η h ≠ .stuck then whileN c b q.choose η h else .stuck
theorem whileN_mono {c : TM} {b : SM} : ∀ (n : Nat) (η : Env) (h : Hep), whileN c b n η h ≠ .stuck → whileN c b (n + 1) η h = whileN c b n η h
  | 0, η, h, q => absurd rfl q
  | n + 1, η, h, q => by
    rw [whileN] at q ⊢
    rw [whileN]
    cases ec : c η h with
    | ok k h1 =>
      rw [ec] at q
      simp only [Res.thn_ok] at q ⊢
      cases k with
      | false => rfl
      | true =>
        simp only [if_true] at q ⊢
        cases eb : b η h1 with
        | nx η' h' => rw [eb] at q; simp only at q ⊢; exact whileN_mono n η' h' q
        | cont η' h' => rw [eb] at q; simp only at q ⊢; exact whileN_mono n η' h' q
        | brk η' h' => rfl
        | ret v h' => rfl
        | exc e η' h' => rfl
        | stuck => rfl
    | exc e h1 => rfl
    | stuck => rfl
theorem whileN_le {c : TM} {b : SM} {η : Env} {h : Hep} {n m : Nat} (q : whileN c b n η h ≠ .stuck) (l : n ≤ m) : whileN c b m η h = whileN c b n η h := by
  induction l with
  | refl => rfl
  | step l ih => rw [whileN_mono _ _ _ (by rw [ih]; exact q), ih]
theorem sWhile_of {c : TM} {b : SM} {η : Env} {h : Hep} {n : Nat} (q : whileN c b n η h ≠ .stuck) : sWhile c b η h = whileN c b n η h := by
  have e : ∃ n, whileN c b n η h ≠ .stuck := ⟨n, q⟩
  unfold sWhile
  rw [dif_pos e]
  rcases Nat.le_total n e.choose with l | l
  · exact whileN_le q l
  · exact (whileN_le e.choose_spec l).symm
theorem sWhile_stuck {c : TM} {b : SM} {η : Env} {h : Hep} (q : ¬ ∃ n, whileN c b n η h ≠ .stuck) : sWhile c b η h = .stuck := by
  unfold sWhile
  rw [dif_neg q]
/-- one turn of a while -/
theorem sWhile_eq (c : TM) (b : SM) (η : Env) (h : Hep) : sWhile c b η h = (c η h).thn η fun k h1 => if k then
      match b η h1 with
      | .nx η' h' => sWhile c b η' h'
      | .cont η' h' => sWhile c b η' h'
      | .brk η' h' => .nx η' h'
      | r => r
    else .nx η h1 := by
  by_cases q : ∃ n, whileN c b n η h ≠ .stuck
  · obtain ⟨n, q⟩ := q
    rw [sWhile_of q]
    cases n with
    | zero => exact absurd rfl q
    | succ n =>
      rw [whileN] at q ⊢
      cases ec : c η h with
      | ok k h1 =>
        rw [ec] at q
        simp only [Res.thn_ok] at q ⊢
        cases k with
        | false => rfl
        | true =>
          simp only [if_true] at q ⊢
          cases eb : b η h1 with
          | nx η' h' => rw [eb] at q; simp only at q ⊢; exact (sWhile_of q).symm
          | cont η' h' => rw [eb] at q; simp only at q ⊢; exact (sWhile_of q).symm
          | brk η' h' => rfl
          | ret v h' => rfl
          | exc e η' h' => rfl
          | stuck => rfl
      | exc e h1 => rfl
      | stuck => rfl
  · have all : ∀ n, whileN c b n η h = .stuck := fun n => Classical.byContradiction fun z => q ⟨n, z⟩
    rw [sWhile_stuck q]
    have q1 : ∀ n, whileN c b (n + 1) η h = .stuck := fun n => all (n + 1)
    simp only [whileN] at q1
    cases ec : c η h with
    | ok k h1 =>
      rw [ec] at q1
      simp only [Res.thn_ok] at q1 ⊢
      cases k with
      | false => exact absurd (q1 0) (by simp)
      | true =>
        simp only [if_true] at q1 ⊢
        cases eb : b η h1 with
        | nx η' h' =>
          rw [eb] at q1
          exact (sWhile_stuck fun ⟨n, z⟩ => z (q1 n)).symm
        | cont η' h' =>
          rw [eb] at q1
          exact (sWhile_stuck fun ⟨n, z⟩ => z (q1 n)).symm
        | brk η' h' => rw [eb] at q1; exact absurd (q1 0) (by simp)
        | ret v h' => rw [eb] at q1; exact absurd (q1 0) (by simp)
        | exc e η' h' => rw [eb] at q1; exact absurd (q1 0) (by simp)
        | stuck => rfl
    | exc e h1 => rw [ec] at q1; exact absurd (q1 0) (by simp)
    | stuck => rfl
/-- the targets of a store -/
abbrev GM := Val → Env → Option Env
def gNam (i : Nat) : GM := fun v η => some (η.set i (some v))
abbrev GMs := List Val → Env → Option Env
def gsNil : GMs := fun vs η => match vs with | [] => some η | _ => none
def gsCons (g : GM) (r : GMs) : GMs := fun vs η => match vs with | v :: t => (g v η).bind fun η1 => r t η1 | [] => none
def gTpl (gs : GMs) : GM := fun v η => match v with | .tup l => gs l η | _ => none
def sAsg (g : GM) (e : EM) : SM := fun η h => (e η h).thn η fun v h1 => match g v η with | some η1 => .nx η1 h1 | none => .stuck
/-- what a for walks: the items, and whether what they come from still stands -/
abbrev IM := Env → Hep → Res (List Val × (Hep → Bool))
def forL (g : GM) (chk : Hep → Bool) (b : SM) : List Val → Env → Hep → SR
  | [], η, h => if chk h then .nx η h else .stuck
  | x :: xs, η, h => if chk h then
      match g x η with
      | some η1 => match b η1 h with
        | .nx η' h' => forL g chk b xs η' h'
        | .cont η' h' => forL g chk b xs η' h'
        | .brk η' h' => .nx η' h'
        | r => r
      | none => .stuck
    else .stuck
def sFor (it : IM) (g : GM) (b : SM) : SM := fun η h => (it η h).thn η fun p h1 => forL g p.2 b p.1 η h1
def isLst (n : Nat) (l : List Val) (h : Hep) : Prop := h[n]? = some (.lst l)
/-- the items of a value -/
def items (h : Hep) : Val → Option (List Val × (Hep → Bool))
  | .tup l => some (l, fun _ => true)
  | .fl l => some (l, fun _ => true)
  | .str s => some (s.map fun c => .str [c], fun _ => true)
  | .ref n => match h[n]? with
    | some (.lst l) => some (l, fun h' => decide (isLst n l h'))
    | _ => none
  | _ => none
def iVal (e : EM) : IM := fun η h => (e η h).bind fun v h1 => ofO (items h1 v) h1
def rng (lo : Int) (n : Nat) : List Val := (List.range n).map fun (i : Nat) => .int (lo + (i : Int))
def i62 (i : Int) : Prop := -(2 ^ 62) ≤ i ∧ i < 2 ^ 62
/-- what a call of a built-in walks, by its arguments -/
def iArgs (f : Hep → List Val → Option (List Val × (Hep → Bool))) (a : AM) : IM := fun η h => (a η h).bind fun vs h1 => ofO (f h1 vs) h1
def fRng1 (_ : Hep) : List Val → Option (List Val × (Hep → Bool))
  | [.int j] => if i62 j then some (rng 0 j.toNat, fun _ => true) else none
  | _ => none
def fRng2 (_ : Hep) : List Val → Option (List Val × (Hep → Bool))
  | [.int i, .int j] => if i62 i ∧ i62 j then some (rng i (j - i).toNat, fun _ => true) else none
  | _ => none
/-- a def: n parameters, all names' slots, the body -/
def fn (n N : Nat) (b : SM) : Fn := fun vs h => if vs.length = n then
    match b (vs.map some ++ List.replicate (N - n) none) h with
    | .nx _ h' => .ok .non h'
    | .ret v h' => .ok v h'
    | .exc e _ h' => .exc e h'
    | _ => .stuck
  else .stuck
/-- a built-in function -/
abbrev BFn := List Val → Hep → Option (Val × Hep)
def eCallB (F : BFn) (a : AM) : EM := fun η h => (a η h).bind fun xs h1 => match F xs h1 with | some (v, h2) => .ok v h2 | none => .stuck
/-! ### exceptions -/
def sRaise (c : String) : SM := fun η h => .exc ⟨c, []⟩ η h
/-- behind a suite: the name of the exception is gone; a suite that raises is not told -/
def SR.forget (i : Nat) : SR → SR
  | .nx η h => .nx (η.set i none) h
  | .brk η h => .brk (η.set i none) h
  | .cont η h => .cont (η.set i none) h
  | .exc _ _ _ => .stuck
  | r => r
/-- try .. except C as e: tbl tells of each class whether C names it -/
def sTry (tbl : List (String × Bool)) (i : Nat) (b : SM) (hd : Exc → Nat → SM) : SM := fun η h => match b η h with
  | .exc x η' h' => match tbl.lookup x.cls with
    | some true => if ∀ a, (hd x a (η'.set i (some (.exo a))) h').forget i = (hd x 0 (η'.set i (some (.exo 0))) h').forget i then (hd x 0 (η'.set i (some (.exo 0))) h').forget i else .stuck
    | some false => .exc x η' h'
    | none => .stuck
  | r => r
def SR.quiet : SR → SR
  | .exc _ _ _ => .stuck
  | r => r
/-- try .. except C -/
def sTryO (tbl : List (String × Bool)) (b : SM) (hd : SM) : SM := fun η h => match b η h with
  | .exc x η' h' => match tbl.lookup x.cls with
    | some true => (hd η' h').quiet
    | some false => .exc x η' h'
    | none => .stuck
  | r => r
/-- isinstance(e, D), e the exception that the suite holds -/
def eIsE (tbl : List (String × Bool)) (x : Exc) (a : Nat) (m : EM) : EM := fun η h => (m η h).bind fun v h1 => match v with
  | .exo b => if b = a then (if x.args = [] then (match tbl.lookup x.cls with | some k => .ok (.bl k) h1 | none => .stuck) else .stuck) else .stuck
  | _ => .stuck
/-! ### built-in functions -/
def bLen : BFn := fun vs h => match vs with
  | [.str s] => if szOk s.length then some (.int s.length, h) else none
  | [.tup l] => some (.int l.length, h)
  | [.fl l] => some (.int l.length, h)
  | [.ref n] => match h[n]? with
    | some (.lst l) => some (.int l.length, h)
    | _ => none
  | _ => none
def bAbs : BFn := fun vs h => match vs with
  | [.int i] => some (.int (if i < 0 then -i else i), h)
  | _ => none
def bMax2 : BFn := fun vs h => match vs with
  | [.int i, .int j] => some (.int (if j > i then j else i), h)
  | _ => none
def bMin2 : BFn := fun vs h => match vs with
  | [.int i, .int j] => some (.int (if j < i then j else i), h)
  | _ => none
def bInt : BFn := fun vs h => match vs with
  | [.int i] => some (.int i, h)
  | [.bl k] => some (.int (if k then 1 else 0), h)
  | _ => none
/-- list(..) of a list or a tuple; tuple(..) -/
def bList : BFn := fun vs h => match vs with
  | [.tup l] => some (.ref h.length, h ++ [.lst l])
  | [.fl l] => some (.ref h.length, h ++ [.lst l])
  | [.ref n] => match h[n]? with
    | some (.lst l) => some (.ref h.length, h ++ [.lst l])
    | _ => none
  | _ => none
def bTuple : BFn := fun vs h => match vs with
  | [.tup l] => some (.tup l, h)
  | [.fl l] => some (.tup l, h)
  | [.ref n] => match h[n]? with
    | some (.lst l) => some (.tup l, h)
    | _ => none
  | _ => none
def bls : List Val → Option (List Bool)
  | [] => some []
  | .bl b :: l => (bls l).map (b :: ·)
  | _ :: _ => none
def itsL (h : Hep) : Val → Option (List Val)
  | .fl l => some l
  | .ref n => match h[n]? with
    | some (.lst l) => some l
    | _ => none
  | _ => none
def bAll : BFn := fun vs h => match vs with
  | [v] => match (itsL h v).bind bls with
    | some bs => some (.bl (bs.all id), h)
    | none => none
  | _ => none
def bAny : BFn := fun vs h => match vs with
  | [v] => match (itsL h v).bind bls with
    | some bs => some (.bl (bs.any id), h)
    | none => none
  | _ => none
/-! ### isinstance -/
/-- the name of a value's built-in type -/
def typ (h : Hep) : Val → Option String
  | .non => some "NoneType"
  | .bl _ => some "bool"
  | .int _ => some "int"
  | .str _ => some "str"
  | .tup _ => some "tuple"
  | .fl _ => some "list"
  | .ref n => match h[n]? with
    | some (.lst _) => some "list"
    | some (.dct _) => some "dict"
    | _ => none
  | .exo _ => none
def isT (t n : String) : Bool := t == n || (t == "bool" && n == "int")
def oIsi (n : String) (h : Hep) (v : Val) : Option Val := (typ h v).map fun t => .bl (isT t n)
/-! ### lists that change -/
def setIx (h : Hep) : Val → Val → Val → Option Hep
  | .ref n, .int k, v => match h[n]? with
    | some (.lst l) => match ixN l.length k with
      | some j => some (h.set n (.lst (l.set j v)))
      | none => none
    | _ => none
  | _, _, _ => none
/-- o[i] = e: the value first -/
def sSetIx (o i e : EM) : SM := fun η h => (e η h).thn η fun v h1 => (o η h1).thn η fun x h2 => (i η h2).thn η fun k h3 => match setIx h3 x k v with
  | some h4 => .nx η h4
  | none => .stuck
/-- an item of a list that may change -/
def oIdxL (h : Hep) : Val → Val → Option Val
  | .ref n, .int i => match h[n]? with
    | some (.lst l) => atI l i
    | _ => none
  | _, _ => none
/-- o[i] op= e -/
def sAugIx (f : Hep → Val → Val → Option Val) (o i e : EM) : SM := fun η h => (o η h).thn η fun x h1 => (i η h1).thn η fun k h2 => (ofO (oIdxL h2 x k) h2).thn η fun y h3 => (e η h3).thn η fun z h4 => (ofO (f h4 y z) h4).thn η fun v h5 =>
  match setIx h5 x k v with
  | some h6 => .nx η h6
  | none => .stuck
/-- o.m(..), a method of a built-in type T -/
def eMth (T : String) (F : Val → BFn) (o : EM) (a : AM) : EM := fun η h => (o η h).bind fun x h1 => if typ h1 x = some T then (a η h1).bind fun xs h2 => (match F x xs h2 with | some (v, h3) => .ok v h3 | none => .stuck) else .stuck
def mAppend : Val → BFn := fun x vs h => match x, vs with
  | .ref n, [v] => match h[n]? with
    | some (.lst l) => if szOk (l.length + 1) then some (.non, h.set n (.lst (l ++ [v]))) else none
    | _ => none
  | _, _ => none
def mExtend : Val → BFn := fun x vs h => match x, vs with
  | .ref n, [.ref m] => match h[n]?, h[m]? with
    | some (.lst l), some (.lst k) => if szOk (l.length + k.length) then some (.non, h.set n (.lst (l ++ k))) else none
    | _, _ => none
  | _, _ => none
def mPop : Val → BFn := fun x vs h => match x, vs with
  | .ref n, [] => match h[n]? with
    | some (.lst l) => match l[l.length - 1]? with
      | some v => some (v, h.set n (.lst l.dropLast))
      | none => none
    | _ => none
  | _, _ => none
/-! ### slices -/
def sIx (n d : Nat) : Option Int → Nat
  | none => d
  | some v => if v < 0 then (v + (n : Int)).toNat else min v.toNat n
def cut {α : Type} (l : List α) (lo hi : Option Int) : List α := (l.drop (sIx l.length 0 lo)).take (sIx l.length l.length hi - sIx l.length 0 lo)
abbrev PM := Env → Hep → Res (Option Int)
def pNo : PM := fun _ h => .ok none h
def pSome (e : EM) : PM := fun η h => (e η h).bind fun x h1 => match x with | .int i => .ok (some i) h1 | _ => .stuck
def oSl (h : Hep) (x : Val) (lo hi : Option Int) : Option (Val × Hep) := match x with
  | .str s => if szOk s.length then some (.str (cut s lo hi), h) else none
  | .tup l => some (.tup (cut l lo hi), h)
  | .fl l => some (.ref h.length, h ++ [.lst (cut l lo hi)])
  | .ref n => match h[n]? with
    | some (.lst l) => some (.ref h.length, h ++ [.lst (cut l lo hi)])
    | _ => none
  | _ => none
def eSl (o : EM) (lo hi : PM) : EM := fun η h => (o η h).bind fun x h1 => (lo η h1).bind fun l h2 => (hi η h2).bind fun u h3 => match oSl h3 x l u with | some (v, h4) => .ok v h4 | none => .stuck
/-! ### comprehensions -/
/-- the block's own slots forgotten -/
def wipe (η : Env) : List Nat → Env
  | [] => η
  | v :: vs => (wipe η vs).set v none
def compL (g : GM) (chk : Hep → Bool) (c : TM) (e : EM) (η : Env) : List Val → Hep → Res (List Val)
  | [], h => if chk h then .ok [] h else .stuck
  | x :: xs, h => if chk h then
      match g x η with
      | some η1 => match c η1 h with
        | .ok k h1 => if k then
            match e η1 h1 with
            | .ok y h2 => (compL g chk c e η xs h2).bind fun ys h3 => .ok (y :: ys) h3
            | _ => .stuck
          else compL g chk c e η xs h1
        | _ => .stuck
      | none => .stuck
    else .stuck
def tTrue : TM := fun _ h => .ok true h
def eComp (vs : List Nat) (it : IM) (g : GM) (c : TM) (e : EM) : EM := fun η h => (it η h).bind fun p h1 => (compL g p.2 c e (wipe η vs) p.1 h1).bind fun ys h2 => if szOk ys.length then .ok (.ref h2.length) (h2 ++ [.lst ys]) else .stuck
/-! ### in -/
def flat : Val → Bool
  | .non => true
  | .bl _ => true
  | .int _ => true
  | .str _ => true
  | _ => false
def eqF : Val → Val → Bool
  | .non, .non => true
  | .bl a, .bl b => a == b
  | .bl a, .int b => (if a then 1 else 0) == b
  | .int a, .bl b => a == (if b then 1 else 0)
  | .int a, .int b => a == b
  | .str a, .str b => a == b
  | _, _ => false
def seqOf (h : Hep) : Val → Option (List Val)
  | .tup l => some l
  | .fl l => some l
  | .ref n => match h[n]? with
    | some (.lst l) => some l
    | _ => none
  | _ => none
def isIn (h : Hep) (a b : Val) : Option Bool :=
  match a, b with
  | .str [c], .str s => some (decide (c ∈ s))
  | _, .str _ => none
  | _, _ => match seqOf h b with
    | some l => if flat a && l.all flat then some (l.any fun y => eqF y a) else none
    | none => none
def oIn (h : Hep) (a b : Val) : Option Val := (isIn h a b).map .bl
def oNin (h : Hep) (a b : Val) : Option Val := (isIn h a b).map fun k => .bl (!k)
/-! ### what a for walks, more -/
/-- the items of a list or tuple, and whether it stands -/
def itemsS (h : Hep) : Val → Option (List Val × (Hep → Bool))
  | .tup l => some (l, fun _ => true)
  | .fl l => some (l, fun _ => true)
  | .ref n => match h[n]? with
    | some (.lst l) => some (l, fun h' => decide (isLst n l h'))
    | _ => none
  | _ => none
def enumL (l : List Val) : List Val := l.zipIdx.map fun p => .tup [.int (p.2 : Nat), p.1]
def fEnum (h : Hep) : List Val → Option (List Val × (Hep → Bool))
  | [v] => (itemsS h v).map fun p => (enumL p.1, p.2)
  | _ => none
def zipL (l m : List Val) : List Val := (l.zip m).map fun p => .tup [p.1, p.2]
def isT2 : Val → Val → Bool
  | .tup _, .tup _ => true
  | .tup _, _ => false
  | _, .tup _ => false
  | _, _ => true
def fZip (h : Hep) : List Val → Option (List Val × (Hep → Bool))
  | [v, w] => match itemsS h v, itemsS h w with
    | some p, some q => if isT2 v w then some (zipL p.1 q.1, fun h' => p.2 h' && q.2 h') else none
    | _, _ => none
  | _ => none
/-! ### texts -/
def bOrd : BFn := fun vs h => match vs with
  | [.str [c]] => some (.int (c : Nat), h)
  | _ => none
/-- a text cut at a sign -/
def cutAt (s : Nat) : List Nat → List Nat → List (List Nat)
  | acc, [] => [acc]
  | acc, c :: r => if c = s then acc :: cutAt s [] r else cutAt s (acc ++ [c]) r
def splitOk (c n : Nat) : Prop := c < 256 ∧ n + 2 ≤ line
def mSplit : Val → BFn := fun x vs h => match x, vs with
  | .str s, [.str [c]] => if splitOk c s.length then some (.ref h.length, h ++ [.lst ((cutAt c [] s).map .str)]) else none
  | _, _ => none
def strOk (i : Int) : Prop := i.natAbs.log2 < 1920
/-- str(int) -/
def bStr : BFn := fun vs h => match vs with
  | [.int i] => if strOk i then some (.str (S (toString i)), h) else none
  | _ => none
/-- the parts with the sign between them -/
def joinL (s : List Nat) : List (List Nat) → List Nat
  | [] => []
  | [p] => p
  | p :: q :: r => p ++ (s ++ joinL s (q :: r))
def strsL : List Val → Option (List (List Nat))
  | [] => some []
  | .str s :: l => (strsL l).map (s :: ·)
  | _ :: _ => none
def joinOk (s : List Nat) (ps : List (List Nat)) : Prop := (ps.map List.length).sum + ps.length * s.length ≤ line
def mJoin : Val → BFn := fun x vs h => match x, vs with
  | .str s, [v] => match (seqOf h v).bind strsL with
    | some ps => if joinOk s ps then some (.str (joinL s ps), h) else none
    | none => none
  | _, _ => none
/-- filled with 0 behind the sign -/
def zfillL (s : List Nat) (i : Int) : List Nat := if i ≤ s.length then s else match s with
  | 43 :: r => 43 :: (List.replicate (i.toNat - s.length) 48 ++ r)
  | 45 :: r => 45 :: (List.replicate (i.toNat - s.length) 48 ++ r)
  | _ => List.replicate (i.toNat - s.length) 48 ++ s
def padOk (i : Int) : Prop := i ≤ line ∧ -1000 < i
def mZfill : Val → BFn := fun x vs h => match x, vs with
  | .str s, [.int i] => if padOk i then some (.str (zfillL s i), h) else none
  | _, _ => none
def mStarts : Val → BFn := fun x vs h => match x, vs with
  | .str s, [.str t] => some (.bl (decide (s.take t.length = t)), h)
  | _, _ => none
def mEnds : Val → BFn := fun x vs h => match x, vs with
  | .str s, [.str t] => some (.bl (decide (t.length ≤ s.length) && decide (s.drop (s.length - t.length) = t)), h)
  | _, _ => none
/-! ### more of lists -/
def oCat (h : Hep) : Val → Val → Option (Val × Hep)
  | .ref n, .ref m => match h[n]?, h[m]? with
    | some (.lst l), some (.lst k) => if szOk (l.length + k.length) then some (.ref h.length, h ++ [.lst (l ++ k)]) else none
    | _, _ => none
  | _, _ => none
/-- list + list -/
def eCat (a b : EM) : EM := fun η h => (a η h).bind fun x h1 => (b η h1).bind fun y h2 => match oCat h2 x y with | some (v, h3) => .ok v h3 | none => .stuck
/-- l[::-1] -/
def eRev (a : EM) : EM := fun η h => (a η h).bind fun x h1 => match itsL h1 x with | some l => .ok (.ref h1.length) (h1 ++ [.lst l.reverse]) | none => .stuck
def digV (s : List Nat) : Nat := s.foldl (fun t c => t * 10 + (c - 48)) 0
def digOk (s : List Nat) : Prop := (s.all fun c => decide (48 ≤ c) && decide (c ≤ 57)) = true ∧ s ≠ [] ∧ s.length ≤ 640
/-- int(figures) -/
def bIntS : BFn := fun vs h => match vs with
  | [.str s] => if digOk s then some (.int (digV s), h) else none
  | _ => none
def intsL : List Val → Option (List Int)
  | [] => some []
  | .int i :: l => (intsL l).map (i :: ·)
  | _ :: _ => none
def maxL : Int → List Int → Int
  | m, [] => m
  | m, i :: l => maxL (if m < i then i else m) l
def bMaxL : BFn := fun vs h => match vs with
  | [v] => match (itsL h v).bind intsL with
    | some (i :: l) => some (.int (maxL i l), h)
    | _ => none
  | _ => none
def insI (i : Int) : List Int → List Int
  | [] => [i]
  | j :: l => if i ≤ j then i :: j :: l else j :: insI i l
def srtI : List Int → List Int
  | [] => []
  | i :: l => insI i (srtI l)
/-- sorted(a list of integers) -/
def bSortI : BFn := fun vs h => match vs with
  | [v] => match (itsL h v).bind intsL with
    | some ns => some (.ref h.length, h ++ [.lst ((srtI ns).map .int)])
    | none => none
  | _ => none
/-- text * int, int * int -/
def repL (s : List Nat) (n : Nat) : List Nat := (List.replicate n s).flatten
def repOk (n : Nat) (i : Int) : Prop := -1000000 < i ∧ i ≤ line ∧ n * i.toNat ≤ line
def oMulS (_ : Hep) : Val → Val → Option Val
  | .int i, .int j => if mulOk i j then some (.int (i * j)) else none
  | .str s, .int i => if repOk s.length i then some (.str (repL s i.toNat)) else none
  | _, _ => none
/-- range of three, upward -/
def rngC (lo c : Int) (n : Nat) : List Val := (List.range n).map fun (i : Nat) => .int (lo + (i : Int) * c)
def i40 (i : Int) : Prop := -(2 ^ 40) ≤ i ∧ i < 2 ^ 40
def stepN (i j c : Int) : Nat := if i < j then ((j - i - 1) / c + 1).toNat else 0
def fRng3 (_ : Hep) : List Val → Option (List Val × (Hep → Bool))
  | [.int i, .int j, .int c] => if i40 i ∧ i40 j ∧ 0 < c ∧ c < 2 ^ 29 then some (rngC i c (stepN i j c), fun _ => true) else none
  | _ => none
/-- a def that is not reckoned any deeper -/
def fnStuck : Fn := fun _ _ => .stuck
/-! ### dicts: keys integers and texts -/
def isKey : Val → Bool
  | .int _ => true
  | .str _ => true
  | _ => false
def keyEq : Val → Val → Bool
  | .int i, .int j => i == j
  | .str s, .str t => s == t
  | _, _ => false
def dGet : List (Val × Val) → Val → Option Val
  | [], _ => none
  | p :: l, k => if keyEq p.1 k then some p.2 else dGet l k
def dHas (l : List (Val × Val)) (k : Val) : Bool := (dGet l k).isSome
def dUpd (k v : Val) : List (Val × Val) → List (Val × Val)
  | [] => []
  | p :: l => (if keyEq p.1 k then (p.1, v) else p) :: dUpd k v l
/-- in its place, or at the end -/
def dPut (l : List (Val × Val)) (k v : Val) : List (Val × Val) := if dHas l k then dUpd k v l else l ++ [(k, v)]
/-- {} -/
def eDNew : EM := fun _ h => .ok (.ref h.length) (h ++ [.dct []])
/-- {k: v, ..} of written texts -/
def eDTxt (l : List (String × String)) : EM := fun _ h => .ok (.ref h.length) (h ++ [.dct (l.map fun p => (.str (S p.1), .str (S p.2)))])
/-- d[k] -/
def oDIdx (h : Hep) (x k : Val) : Option Val := match x with
  | .ref n => match h[n]? with
    | some (.dct l) => if isKey k then dGet l k else none
    | _ => none
  | _ => none
/-- k in d -/
def oDIn (h : Hep) (k x : Val) : Option Val := match x with
  | .ref n => match h[n]? with
    | some (.dct l) => if isKey k then some (.bl (dHas l k)) else none
    | _ => none
  | _ => none
def oDNin (h : Hep) (k x : Val) : Option Val := match x with
  | .ref n => match h[n]? with
    | some (.dct l) => if isKey k then some (.bl (!dHas l k)) else none
    | _ => none
  | _ => none
def setDx (h : Hep) (x k v : Val) : Option Hep := match x with
  | .ref n => match h[n]? with
    | some (.dct l) => if isKey k then (if szOk (l.length + 1) then some (h.set n (.dct (dPut l k v))) else none) else none
    | _ => none
  | _ => none
/-- d[k] = e: the value first -/
def sSetDx (o i e : EM) : SM := fun η h => (e η h).thn η fun v h1 => (o η h1).thn η fun x h2 => (i η h2).thn η fun k h3 => match setDx h3 x k v with
  | some h4 => .nx η h4
  | none => .stuck
/-- d.get(k, v) -/
def isDct (h : Hep) : Val → Bool
  | .ref n => match h[n]? with
    | some (.dct _) => true
    | _ => false
  | _ => false
def oDGet2 (h : Hep) (x y z : Val) : Option Val := match x with
  | .ref n => match h[n]? with
    | some (.dct l) => if isKey y then some ((dGet l y).getD z) else none
    | _ => none
  | _ => none
def eDGet2 (o k v : EM) : EM := fun η h => (o η h).bind fun x h1 => if isDct h1 x then (k η h1).bind fun y h2 => (v η h2).bind fun z h3 => ofO (oDGet2 h3 x y z) h3 else .stuck
/-- what a written dict of texts holds, for the texts that are told -/
def tblGet (tbl : List (String × Option String)) (s : List Nat) : Option (Option String) := (tbl.find? fun p => S p.1 == s).map (·.2)
def oKIn (tbl : List (String × Option String)) (_ : Hep) (x : Val) : Option Val := match x with
  | .str s => (tblGet tbl s).map fun r => .bl r.isSome
  | _ => none
def oKNin (tbl : List (String × Option String)) (_ : Hep) (x : Val) : Option Val := match x with
  | .str s => (tblGet tbl s).map fun r => .bl (!r.isSome)
  | _ => none
def oKGet (tbl : List (String × Option String)) (_ : Hep) (x : Val) : Option Val := match x with
  | .str s => match tblGet tbl s with
    | some (some t) => some (.str (S t))
    | _ => none
  | _ => none
/-- upper of ASCII -/
def up1 (c : Nat) : Nat := if 97 ≤ c ∧ c ≤ 122 then c - 32 else c
def upOk (s : List Nat) : Prop := (s.all fun c => decide (c < 128)) = true ∧ s.length ≤ 1000000
def mUpper : Val → BFn := fun x vs h => match x, vs with
  | .str s, [] => if upOk s then some (.str (s.map up1), h) else none
  | _, _ => none
end
end Cd

set_option Elab.async false
set_option linter.all false
set_option maxRecDepth 100000
set_option maxHeartbeats 4000000
/-! CdB1: the bridge: the functional reading over the hand layer: relations. -/
namespace Cb
open PySem PySem.Spec PyProof.Rows L2

def toS (l : List Nat) : Str := ⟨l.toArray⟩
/-- a list that is only read -/
def FzL (K : PySem.W.Frag) (H : Hp) (a : Addr) (xs : List V) : Prop :=
  (∃ o, H a = some (.frz o (.lst xs))) ∨
    ∃ (o : Obj) (its : Array Value) (n : Nat), K.lookup a = some o ∧ o.cls = .type "list" ∧ o.dict = none ∧ o.data = .seq its n ∧ its.size ≤ sizeLine ∧ Vals xs its.toList
theorem FzL.sq {K : PySem.W.Frag} {H : Hp} {a : Addr} {xs : List V} (h : FzL K H a xs) : SqL K H a xs := by
  rcases h with ⟨o, h⟩ | h
  · exact .inl (.inr ⟨o, h⟩)
  · exact .inr h
section
variable (K : PySem.W.Frag) (ρ : List Addr) (H : Hp)
mutual
inductive RV : Cd.Val → V → Prop
  | non : RV .non .non
  | bl (b : Bool) : RV (.bl b) (.bl b)
  | int (i : Int) : RV (.int i) (.int i)
  | str (s : List Nat) : RV (.str s) (.str (toS s))
  | tup {a : Addr} {ds : List Cd.Val} {vs : List V} (h : SqT K H a vs) (r : RVs ds vs) : RV (.tup ds) (.ref a)
  | fl {a : Addr} {ds : List Cd.Val} {vs : List V} (h : FzL K H a vs) (r : RVs ds vs) : RV (.fl ds) (.ref a)
  | ref {n : Nat} {a : Addr} (h : ρ[n]? = some a) : RV (.ref n) (.ref a)
  | exo (a : Addr) : RV (.exo a) (.ref a)
inductive RVs : List Cd.Val → List V → Prop
  | nil : RVs [] []
  | cons {d : Cd.Val} {v : V} {ds : List Cd.Val} {vs : List V} (h : RV d v) (t : RVs ds vs) : RVs (d :: ds) (v :: vs)
end
def keyOf : Cd.Val → Option Key
  | .int i => some (.inl i)
  | .str s => some (.inr (toS s))
  | _ => none
/-- the entries of a dict -/
inductive RD : List (Cd.Val × Cd.Val) → List (Key × V) → Prop
  | nil : RD [] []
  | cons {k d : Cd.Val} {κ : Key} {v : V} {l : List (Cd.Val × Cd.Val)} {kvs : List (Key × V)} (e : keyOf k = some κ) (r : RV K ρ H d v) (t : RD l kvs) : RD ((k, d) :: l) ((κ, v) :: kvs)
/-- what stands at a place -/
def RO : Cd.Obj → Addr → Prop
  | .lst l, a => ∃ vs, H a = some (.lst vs) ∧ RVs K ρ H l vs
  | .dct l, a => ∃ kvs, H a = some (.dK kvs) ∧ RD K ρ H l kvs
  | .ins _ _, _ => False
end
structure Sim (K : PySem.W.Frag) (ρ : List Addr) (h : Cd.Hep) (H : Hp) : Prop where
  len : ρ.length = h.length
  nd : ρ.Nodup
  obj : ∀ (n : Nat) (o : Cd.Obj) (a : Addr), h[n]? = some o → ρ[n]? = some a → RO K ρ H o a
structure Step (ρ : List Addr) (H : Hp) (ρ' : List Addr) (H' : Hp) : Prop where
  pre : ρ <+: ρ'
  fr : ∀ a o, a ∉ ρ → H a = some o → H' a = some o
  new : ∀ a, a ∈ ρ' → a ∉ ρ → H a = none
theorem Step.refl (ρ : List Addr) (H : Hp) : Step ρ H ρ H := ⟨List.prefix_rfl, fun _ _ _ h => h, fun _ h n => absurd h n⟩
theorem Step.trans {ρ ρ1 ρ2 : List Addr} {H H1 H2 : Hp} (a : Step ρ H ρ1 H1) (b : Step ρ1 H1 ρ2 H2) : Step ρ H ρ2 H2 := by
  have f : ∀ x o, x ∉ ρ → H x = some o → x ∉ ρ1 ∧ H1 x = some o := by
    intro x o n e
    refine ⟨fun m => ?_, a.fr x o n e⟩
    have q := a.new x m n
    rw [q] at e
    cases e
  refine ⟨a.pre.trans b.pre, fun x o n e => b.fr x o (f x o n e).1 (f x o n e).2, fun x m n => ?_⟩
  by_cases h1 : x ∈ ρ1
  · exact a.new x h1 n
  · cases q : H x with
    | none => rfl
    | some o =>
      have := b.new x m h1
      rw [(f x o n q).2] at this; cases this
section
variable {K : PySem.W.Frag} {ρ ρ' : List Addr} {H H' : Hp} {h h' : Cd.Hep}
/-- what stands at a place is no tuple, nothing locked -/
theorem Sim.kind (S : Sim K ρ h H) {a : Addr} (m : a ∈ ρ) : ∃ o, H a = some o ∧ (∀ xs, o ≠ .tup xs) ∧ ∀ ob u, o ≠ .frz ob u := by
  obtain ⟨n, hn⟩ := List.mem_iff_getElem?.mp m
  have hl : n < h.length := by rw [← S.len]; exact (List.getElem?_eq_some_iff.mp hn).1
  have q := S.obj n h[n] a (List.getElem?_eq_getElem hl) hn
  cases e : h[n] with
  | lst l =>
    rw [e] at q
    obtain ⟨vs, e1, _⟩ := q
    exact ⟨_, e1, (fun xs z => by cases z), (fun o u z => by cases z)⟩
  | dct l =>
    rw [e] at q
    obtain ⟨vs, e1, _⟩ := q
    exact ⟨_, e1, (fun xs z => by cases z), (fun o u z => by cases z)⟩
  | ins c fs => rw [e] at q; exact q.elim
theorem Sim.some_of (S : Sim K ρ h H) {a : Addr} (m : a ∈ ρ) : H a ≠ none := fun z => by
  obtain ⟨o, e, _⟩ := S.kind m
  rw [z] at e; cases e
theorem Step.sqT (st : Step ρ H ρ' H') (S : Sim K ρ h H) {a : Addr} {vs : List V} (q : SqT K H a vs) : SqT K H' a vs := by
  rcases q with (q | ⟨o, q⟩) | q
  · refine .inl (.inl (st.fr a _ (fun m => ?_) q))
    obtain ⟨o, e, n1, _⟩ := S.kind m
    rw [q] at e; cases e
    exact n1 _ rfl
  · refine .inl (.inr ⟨o, st.fr a _ (fun m => ?_) q⟩)
    obtain ⟨o', e, _, n2⟩ := S.kind m
    rw [q] at e; cases e
    exact n2 _ _ rfl
  · exact .inr q
theorem Step.fzL (st : Step ρ H ρ' H') (S : Sim K ρ h H) {a : Addr} {vs : List V} (q : FzL K H a vs) : FzL K H' a vs := by
  rcases q with ⟨o, q⟩ | q
  · refine .inl ⟨o, st.fr a _ (fun m => ?_) q⟩
    obtain ⟨o', e, _, n2⟩ := S.kind m
    rw [q] at e; cases e
    exact n2 _ _ rfl
  · exact .inr q
theorem Step.ix (st : Step ρ H ρ' H') {n : Nat} {a : Addr} (e : ρ[n]? = some a) : ρ'[n]? = some a := by
  obtain ⟨t, rfl⟩ := st.pre
  rw [List.getElem?_append_left (List.getElem?_eq_some_iff.mp e).1]
  exact e
mutual
theorem RV.mono (st : Step ρ H ρ' H') (S : Sim K ρ h H) : ∀ {d : Cd.Val} {v : V}, RV K ρ H d v → RV K ρ' H' d v
  | _, _, .non => .non
  | _, _, .bl b => .bl b
  | _, _, .int i => .int i
  | _, _, .str s => .str s
  | _, _, .tup h r => .tup (st.sqT S h) (RVs.mono st S r)
  | _, _, .fl h r => .fl (st.fzL S h) (RVs.mono st S r)
  | _, _, .ref h => .ref (st.ix h)
  | _, _, .exo a => .exo a
theorem RVs.mono (st : Step ρ H ρ' H') (S : Sim K ρ h H) : ∀ {ds : List Cd.Val} {vs : List V}, RVs K ρ H ds vs → RVs K ρ' H' ds vs
  | _, _, .nil => .nil
  | _, _, .cons h t => .cons (RV.mono st S h) (RVs.mono st S t)
end
theorem RVs.length : ∀ {ds : List Cd.Val} {vs : List V}, RVs K ρ H ds vs → ds.length = vs.length
  | _, _, .nil => rfl
  | _, _, .cons _ t => by rw [List.length_cons, List.length_cons, RVs.length t]
theorem RVs.get : ∀ {ds : List Cd.Val} {vs : List V} {i : Nat} {d : Cd.Val}, RVs K ρ H ds vs → ds[i]? = some d → ∃ v, vs[i]? = some v ∧ RV K ρ H d v
  | _, _, _, _, .nil, e => by simp at e
  | _, _, 0, d, .cons h t, e => by simp at e; subst e; exact ⟨_, rfl, h⟩
  | _, _, i + 1, d, .cons h t, e => by
    obtain ⟨v, h1, h2⟩ := RVs.get (i := i) (d := d) t (by simpa using e)
    exact ⟨v, by simpa using h1, h2⟩
theorem RVs.append : ∀ {ds es : List Cd.Val} {vs ws : List V}, RVs K ρ H ds vs → RVs K ρ H es ws → RVs K ρ H (ds ++ es) (vs ++ ws)
  | _, _, _, _, .nil, s => s
  | _, _, _, _, .cons h t, s => .cons h (RVs.append t s)
theorem RVs.set {d : Cd.Val} {v : V} (r : RV K ρ H d v) : ∀ {ds : List Cd.Val} {vs : List V} (i : Nat), RVs K ρ H ds vs → RVs K ρ H (ds.set i d) (vs.set i v)
  | _, _, _, .nil => .nil
  | _, _, 0, .cons _ t => .cons r t
  | _, _, i + 1, .cons q t => .cons q (RVs.set r i t)
theorem RVs.take : ∀ {ds : List Cd.Val} {vs : List V} (n : Nat), RVs K ρ H ds vs → RVs K ρ H (ds.take n) (vs.take n)
  | _, _, 0, _ => .nil
  | _, _, _ + 1, .nil => .nil
  | _, _, n + 1, .cons h t => .cons h (RVs.take n t)
theorem RVs.drop : ∀ {ds : List Cd.Val} {vs : List V} (n : Nat), RVs K ρ H ds vs → RVs K ρ H (ds.drop n) (vs.drop n)
  | _, _, 0, r => r
  | _, _, _ + 1, .nil => .nil
  | _, _, n + 1, .cons _ t => RVs.drop n t
theorem RVs.reverse : ∀ {ds : List Cd.Val} {vs : List V}, RVs K ρ H ds vs → RVs K ρ H ds.reverse vs.reverse
  | _, _, .nil => .nil
  | _, _, .cons h t => by
    rw [List.reverse_cons, List.reverse_cons]
    exact RVs.append (RVs.reverse t) (.cons h .nil)
theorem RD.mono (st : Step ρ H ρ' H') (S : Sim K ρ h H) {l : List (Cd.Val × Cd.Val)} {kvs : List (Key × V)} (r : RD K ρ H l kvs) : RD K ρ' H' l kvs := by
  induction r with
  | nil => exact .nil
  | cons e r t ih => exact .cons e (r.mono st S) ih
theorem RO.mono (st : Step ρ H ρ' H') (S : Sim K ρ h H) {o : Cd.Obj} {a : Addr} (e : H' a = H a) (r : RO K ρ H o a) : RO K ρ' H' o a := by
  cases o with
  | lst l =>
    obtain ⟨vs, e1, q⟩ := r
    exact ⟨vs, by rw [e]; exact e1, q.mono st S⟩
  | dct l =>
    obtain ⟨vs, e1, q⟩ := r
    exact ⟨vs, by rw [e]; exact e1, q.mono st S⟩
  | ins c fs => exact r.elim
/-- a new thing that is no place: a tuple -/
theorem Step.out (p : Addr) (o : HO) (n : H p = none) : Step ρ H ρ (upd H p o) :=
  ⟨List.prefix_rfl, fun a u _ e => by rw [upd_ne (ne_of_none e n)]; exact e, fun _ m z => absurd m z⟩
theorem Sim.out (S : Sim K ρ h H) {p : Addr} {o : HO} (n : H p = none) : Sim K ρ h (upd H p o) := by
  refine ⟨S.len, S.nd, fun i u a hi ha => ?_⟩
  have q := S.obj i u a hi ha
  have ne : a ≠ p := fun z => S.some_of (List.mem_iff_getElem?.mpr ⟨i, ha⟩) (z ▸ n)
  exact q.mono (Step.out p o n) S (upd_ne ne)
/-- a new place -/
theorem Step.lay (p : Addr) (o : HO) (n : H p = none) : Step ρ H (ρ ++ [p]) (upd H p o) :=
  ⟨⟨[p], rfl⟩, fun a u _ e => by rw [upd_ne (ne_of_none e n)]; exact e, fun a m z => by
    rcases List.mem_append.mp m with m | m
    · exact absurd m z
    · rw [List.mem_singleton.mp m]; exact n⟩
theorem Sim.lay (S : Sim K ρ h H) {p : Addr} {o : HO} {u : Cd.Obj} (n : H p = none) (r : RO K (ρ ++ [p]) (upd H p o) u p) : Sim K (ρ ++ [p]) (h ++ [u]) (upd H p o) := by
  have np : p ∉ ρ := fun m => S.some_of m n
  refine ⟨by rw [List.length_append, List.length_append, S.len]; rfl, List.nodup_append.mpr ⟨S.nd, by simp, fun a ha b hb => by
    rw [List.mem_singleton.mp hb]
    rintro rfl
    exact np ha⟩, fun i w a hi ha => ?_⟩
  by_cases hl : i < h.length
  · rw [List.getElem?_append_left hl] at hi
    rw [List.getElem?_append_left (by rw [S.len]; exact hl)] at ha
    have q := S.obj i w a hi ha
    have ne : a ≠ p := fun z => np (z ▸ List.mem_iff_getElem?.mpr ⟨i, ha⟩)
    exact q.mono (Step.lay p o n) S (upd_ne ne)
  · have e : i = h.length := by
      have := (List.getElem?_eq_some_iff.mp hi).1
      rw [List.length_append] at this
      simp at this
      omega
    subst e
    rw [List.getElem?_append_right (Nat.le_refl _), Nat.sub_self] at hi
    rw [List.getElem?_append_right (by rw [S.len]; exact Nat.le_refl _), S.len, Nat.sub_self] at ha
    cases hi
    cases ha
    exact r
/-- a place is written -/
theorem Step.put {i : Nat} {a : Addr} {o : HO} (ha : ρ[i]? = some a) : Step ρ H ρ (upd H a o) :=
  ⟨List.prefix_rfl, fun b u n e => by
    have q : b ≠ a := by
      rintro rfl
      exact n (List.mem_iff_getElem?.mpr ⟨i, ha⟩)
    rw [upd_ne q]; exact e, fun _ m z => absurd m z⟩
theorem Sim.put (S : Sim K ρ h H) {i : Nat} {a : Addr} {o : HO} {u : Cd.Obj} (ha : ρ[i]? = some a) (r : RO K ρ (upd H a o) u a) : Sim K ρ (h.set i u) (upd H a o) := by
  refine ⟨by rw [List.length_set, S.len], S.nd, fun j w b hj hb => ?_⟩
  by_cases e : j = i
  · subst e
    rw [ha] at hb; cases hb
    have hl : j < h.length := by rw [← S.len]; exact (List.getElem?_eq_some_iff.mp ha).1
    rw [List.getElem?_set_self hl] at hj
    cases hj
    exact r
  · rw [List.getElem?_set_ne (Ne.symm e)] at hj
    have q := S.obj j w b hj hb
    have ne : b ≠ a := fun z => by
      obtain ⟨h1, e1⟩ := List.getElem?_eq_some_iff.mp hb
      obtain ⟨h2, e2⟩ := List.getElem?_eq_some_iff.mp ha
      exact e ((List.getElem_inj S.nd).mp (e1.trans (z.trans e2.symm)))
    exact q.mono (Step.put ha) S (upd_ne ne)
end
/-- the slots: what the reading knows of them -/
structure RE (K : PySem.W.Frag) (ρ : List Addr) (H : Hp) (η : Cd.Env) (σ : L2.St) : Prop where
  len : η.length = σ.length
  at_ : ∀ (i : Nat) (d : Cd.Val), η[i]? = some (some d) → ∃ v, σ[i]? = some (some v) ∧ RV K ρ H d v
section
variable {K : PySem.W.Frag} {ρ ρ' : List Addr} {H H' : Hp} {h h' : Cd.Hep} {η : Cd.Env} {σ : L2.St}
theorem RE.mono (st : Step ρ H ρ' H') (S : Sim K ρ h H) (r : RE K ρ H η σ) : RE K ρ' H' η σ := ⟨r.len, fun i d e => by
  obtain ⟨v, h1, h2⟩ := r.at_ i d e
  exact ⟨v, h1, h2.mono st S⟩⟩
theorem RE.set {d : Cd.Val} {v : V} (r : RE K ρ H η σ) (q : RV K ρ H d v) (i : Nat) : RE K ρ H (η.set i (some d)) (σ.set i (some v)) := by
  refine ⟨by rw [List.length_set, List.length_set, r.len], fun j e hj => ?_⟩
  by_cases z : j = i
  · subst z
    have hl : j < η.length := by
      have := (List.getElem?_eq_some_iff.mp hj).1
      rwa [List.length_set] at this
    rw [List.getElem?_set_self hl] at hj
    cases hj
    exact ⟨v, List.getElem?_set_self (by rw [← r.len]; exact hl), q⟩
  · rw [List.getElem?_set_ne (Ne.symm z)] at hj
    obtain ⟨u, h1, h2⟩ := r.at_ j e hj
    exact ⟨u, by rw [List.getElem?_set_ne (Ne.symm z)]; exact h1, h2⟩
end
end Cb

set_option Elab.async false
set_option linter.all false
set_option maxRecDepth 100000
set_option maxHeartbeats 4000000
/-! CdB2: the bridge: expressions, tests, arguments. -/
namespace Cb
open PySem PySem.Spec PyProof.Rows L2

/-- an exception as the hand layer tells it -/
def RX (K : PySem.W.Frag) (ca : String → Value) (ρ : List Addr) (H : Hp) (e : Cd.Exc) (cls : Value) (d : Option Addr) : Prop :=
  cls = ca e.cls ∧ ((e.args = [] ∧ d = none) ∨ ∃ dx fs, e.args ≠ [] ∧ d = some dx ∧ H dx = some (.xd fs) ∧ RVs K ρ H e.args (fs.map (·.2)))

section
variable (K : PySem.W.Frag) (ca : String → Value) (W : WX)
/-- what is wanted behind a reading -/
def postG {α β : Type} (R : List Addr → Hp → α → β → Prop) (ρ : List Addr) (H : Hp) (σ : L2.St) (r : Cd.Res α) (Q : β → Hp → Prop) : Prop :=
  match r with
  | .ok v h' => ∀ ρ' H' x, Step ρ H ρ' H' → Sim K ρ' h' H' → R ρ' H' v x → Q x H'
  | .exc e h' => ∀ ρ' H' cls d, Step ρ H ρ' H' → Sim K ρ' h' H' → RX K ca ρ' H' e cls d → W cls d σ H'
  | .stuck => False
def RB : List Addr → Hp → Bool → Bool → Prop := fun _ _ a b => a = b
def tE (m : Cd.EM) : TE := fun σ H Q => ∃ ρ h η, Sim K ρ h H ∧ RE K ρ H η σ ∧ postG K ca W (RV K) ρ H σ (m η h) Q
def tT (m : Cd.TM) : TT := fun σ H Q => ∃ ρ h η, Sim K ρ h H ∧ RE K ρ H η σ ∧ postG K ca W RB ρ H σ (m η h) Q
def tA (m : Cd.AM) : TA := fun σ H Q => ∃ ρ h η, Sim K ρ h H ∧ RE K ρ H η σ ∧ postG K ca W (RVs K) ρ H σ (m η h) Q
end

section
variable {K : PySem.W.Frag} {ca : String → Value} {W : WX} {α β γ δ : Type} {R : List Addr → Hp → α → β → Prop} {ρ ρ1 : List Addr} {H H1 : Hp} {σ : L2.St} {h : Cd.Hep} {η : Cd.Env}
theorem postG.mono {r : Cd.Res α} {Q : β → Hp → Prop} (st : Step ρ H ρ1 H1) (p : postG K ca W R ρ H σ r Q) : postG K ca W R ρ1 H1 σ r Q := by
  cases r with
  | ok v h' => exact fun ρ' H' x s2 S q => p ρ' H' x (st.trans s2) S q
  | exc e h' => exact fun ρ' H' cls d s2 S q => p ρ' H' cls d (st.trans s2) S q
  | stuck => exact p
theorem postG.imp {r : Cd.Res α} {Q Q' : β → Hp → Prop} (p : postG K ca W R ρ H σ r Q) (f : ∀ x H, Q x H → Q' x H) : postG K ca W R ρ H σ r Q' := by
  cases r with
  | ok v h' => exact fun ρ' H' x s2 S q => f _ _ (p ρ' H' x s2 S q)
  | exc e h' => exact p
  | stuck => exact p
/-- the first part's reading, from that of the whole -/
theorem postG.first {S' : List Addr → Hp → γ → δ → Prop} {r : Cd.Res α} {f : α → Cd.Hep → Cd.Res γ} {Q : δ → Hp → Prop} {C : β → Hp → Prop} (p : postG K ca W S' ρ H σ (r.bind f) Q)
    (c : ∀ ρ1 H1 h1 v x, Step ρ H ρ1 H1 → Sim K ρ1 h1 H1 → R ρ1 H1 v x → postG K ca W S' ρ1 H1 σ (f v h1) Q → C x H1) : postG K ca W R ρ H σ r C := by
  cases r with
  | ok v h' => exact fun ρ' H' x st S q => c ρ' H' h' v x st S q (postG.mono st p)
  | exc e h' => exact p
  | stuck => exact p.elim
theorem postG.ofO {o : Option α} {h : Cd.Hep} {Q : β → Hp → Prop} (p : postG K ca W R ρ H σ (Cd.ofO o h) Q) : ∃ v, o = some v ∧ ∀ ρ' H' x, Step ρ H ρ' H' → Sim K ρ' h H' → R ρ' H' v x → Q x H' := by
  cases o with
  | none => exact p.elim
  | some v => exact ⟨v, rfl, p⟩
end

theorem PE.wk {X : Cx} {e : Expr} {t t' : TE} (h : PE X e t) (k : ∀ σ H Q, t' σ H Q → t σ H Q) : PE X e t' := ⟨fun pins s σ H Q I hw => h.run pins s σ H Q I (k _ _ _ hw)⟩
theorem PT.wk {X : Cx} {e : Expr} {t t' : TT} (h : PT X e t) (k : ∀ σ H Q, t' σ H Q → t σ H Q) : PT X e t' := ⟨fun pins s σ H Q I hw => h.run pins s σ H Q I (k _ _ _ hw)⟩
theorem PW.wk {X : Cx} {e : Expr} {t t' : TT} (h : PW X e t) (k : ∀ σ H Q, t' σ H Q → t σ H Q) : PW X e t' := ⟨fun whole pins s σ H Q I hw => h.run whole pins s σ H Q I (k _ _ _ hw)⟩
theorem PA.wk {X : Cx} {es : List Expr} {t t' : TA} (h : PA X es t) (k : ∀ σ H Q, t' σ H Q → t σ H Q) : PA X es t' := ⟨fun pos pins s σ H Q I hw => h.run pos pins s σ H Q I (k _ _ _ hw)⟩
theorem PS.wk {X : Cx} {st : Stmt} {t t' : TS} (h : PS X st t) (k : ∀ D σ H, t' D σ H → t D σ H) : PS X st t' := ⟨fun pins s σ H D I hw => h.run pins s σ H D I (k _ _ _ hw)⟩
theorem PSs.wk {X : Cx} {st : List Stmt} {t t' : TS} (h : PSs X st t) (k : ∀ D σ H, t' D σ H → t D σ H) : PSs X st t' := ⟨fun pins s σ H D I hw => h.run pins s σ H D I (k _ _ _ hw)⟩

/-- the judgements over the functional reading -/
abbrev KE (X : Cx) (ca : String → Value) (W : WX) (e : Expr) (m : Cd.EM) : Prop := PE X e (tE X.K ca W m)
abbrev KT (X : Cx) (ca : String → Value) (W : WX) (e : Expr) (m : Cd.TM) : Prop := PT X e (tT X.K ca W m)
abbrev KW (X : Cx) (ca : String → Value) (W : WX) (e : Expr) (m : Cd.TM) : Prop := PW X e (tT X.K ca W m)
abbrev KA (X : Cx) (ca : String → Value) (W : WX) (es : List Expr) (m : Cd.AM) : Prop := PA X es (tA X.K ca W m)

section
variable {X : Cx} {ca : String → Value} {W : WX} {a b c : Expr} {ma mb : Cd.EM} {pos : Pos}

theorem k_var (i : Nat) {x : Str} {pos : Pos} (hN : X.N[i]? = some x := by rfl) (hv : Vis X.env.scope x := by first | exact Or.inl rfl | exact Or.inr (Or.inl rfl) | exact Or.inr (Or.inr rfl)) (hd : (x == ("__debug__" : Str)) = false := by decide)
    (hcd : (x == ("__classdict__" : Str)) = false := by decide) : KE X ca W (.Name x pos) (Cd.eVar i) := by
  refine PE.wk (pv i hN hv hd hcd) fun σ H Q ⟨ρ, h, η, S, r, p⟩ => ?_
  unfold Cd.eVar at p
  split at p
  · rename_i d e
    obtain ⟨v, h1, h2⟩ := r.at_ i d e
    exact ⟨v, h1, p ρ H v (Step.refl _ _) S h2⟩
  · exact p.elim
theorem k_const {e : Expr} {d : Cd.Val} {v : V} (h : PE X e (tC v)) (r : ∀ ρ H, RV X.K ρ H d v) : KE X ca W e (Cd.eC d) := by
  refine PE.wk h fun σ H Q ⟨ρ, h, η, S, _, p⟩ => ?_
  exact p ρ H v (Step.refl _ _) S (r ρ H)
theorem k_int {i : Int} {j pos} : KE X ca W (.Constant (.int i) j pos) (Cd.eC (.int i)) := k_const pe_int fun _ _ => .int i
theorem k_bl {b : Bool} {j pos} : KE X ca W (.Constant (.bool b) j pos) (Cd.eC (.bl b)) := k_const pe_bl fun _ _ => .bl b
theorem k_non {j pos} : KE X ca W (.Constant .none j pos) (Cd.eC .non) := k_const pe_non fun _ _ => .non
theorem toS_S (s : String) : toS (Cd.S s) = Str.ofString s := by
  unfold toS Cd.S Str.ofString
  rw [PySem.cpsOfBytes_string]
theorem k_str {s : String} {j pos} : KE X ca W (.Constant (.str (Str.ofString s)) j pos) (Cd.eC (.str (Cd.S s))) := k_const pe_str fun ρ H => by
  rw [← toS_S s]
  exact .str _
/-- a constant of the module -/
theorem k_glob {x : Str} {d : Cd.Val} {v : V} {u : Value} {pos : Pos} (hg : Gl X x) (hm : X.mg x = some u) (r : RelV v u) (q : ∀ ρ H, RV X.K ρ H d v) (hd : (x == ("__debug__" : Str)) = false := by decide) : KE X ca W (.Name x pos) (Cd.eC d) :=
  k_const (pe_glob hg hm r hd) q

/-- what an operator's reading must be worth -/
def BinF (K : PySem.W.Frag) (f : Cd.Hep → Cd.Val → Cd.Val → Option Cd.Val) (r : R2) : Prop := ∀ (ρ : List Addr) (h : Cd.Hep) (H : Hp) (d e u : Cd.Val) (x y : V) (Q : VK), Sim K ρ h H → RV K ρ H d x → RV K ρ H e y → f h d e = some u →
  (∀ ρ' H' w, Step ρ H ρ' H' → Sim K ρ' h H' → RV K ρ' H' u w → Q w H') → r x y H Q
def UnF (K : PySem.W.Frag) (f : Cd.Hep → Cd.Val → Option Cd.Val) (r : V → Hp → VK → Prop) : Prop := ∀ (ρ : List Addr) (h : Cd.Hep) (H : Hp) (d u : Cd.Val) (x : V) (Q : VK), Sim K ρ h H → RV K ρ H d x → f h d = some u →
  (∀ ρ' H' w, Step ρ H ρ' H' → Sim K ρ' h H' → RV K ρ' H' u w → Q w H') → r x H Q
theorem tOp_of {f : Cd.Hep → Cd.Val → Cd.Val → Option Cd.Val} {r : R2} (hf : BinF X.K f r) : ∀ σ H Q, tE X.K ca W (Cd.eBin f ma mb) σ H Q → tOp r (tE X.K ca W ma) (tE X.K ca W mb) σ H Q := by
  rintro σ H Q ⟨ρ, h, η, S, re, p⟩
  refine ⟨ρ, h, η, S, re, postG.first p fun ρ1 H1 h1 d x st1 S1 r1 p1 => ?_⟩
  refine ⟨ρ1, h1, η, S1, re.mono st1 S, postG.first p1 fun ρ2 H2 h2 e y st2 S2 r2 p2 => ?_⟩
  obtain ⟨u, hu, k⟩ := p2.ofO
  exact hf ρ2 h2 H2 d e u x y Q S2 (r1.mono st2 S1) r2 hu k
theorem k_bin {op : Operator} {f : Cd.Hep → Cd.Val → Cd.Val → Option Cd.Val} {r : R2} (ho : OpR X (binaryOp op) r) (hf : BinF X.K f r) (ha : KE X ca W a ma) (hb : KE X ca W b mb) : KE X ca W (.BinOp a op b pos) (Cd.eBin f ma mb) :=
  PE.wk (pe_op ho ha hb) (tOp_of hf)
theorem k_cmp {op : CmpOp} {f : Cd.Hep → Cd.Val → Cd.Val → Option Cd.Val} {r : R2} (ho : OpR X (compareOp op) r) (hf : BinF X.K f r) (ha : KE X ca W a ma) (hb : KE X ca W b mb) (hm : behindInMarks op b = false) : KE X ca W (.Compare a [op] [b] pos) (Cd.eBin f ma mb) :=
  PE.wk (pe_cmpR ho ha hb hm) (tOp_of hf)
theorem k_un {op : UnaryOp} {f : Cd.Hep → Cd.Val → Option Cd.Val} {r : V → Hp → VK → Prop} (ho : UnR X (unaryOp op) r) (hf : UnF X.K f r) (ha : KE X ca W a ma) : KE X ca W (.UnaryOp op a pos) (Cd.eUn f ma) := by
  refine PE.wk (pe_un ho ha) fun σ H Q ⟨ρ, h, η, S, re, p⟩ => ?_
  refine ⟨ρ, h, η, S, re, postG.first p fun ρ1 H1 h1 d x st1 S1 r1 p1 => ?_⟩
  obtain ⟨u, hu, k⟩ := p1.ofO
  exact hf ρ1 h1 H1 d u x Q S1 r1 hu k

/-! ### tests -/
theorem bl_of {ρ : List Addr} {H : Hp} {k : Bool} {x : V} (r : RV X.K ρ H (.bl k) x) : x = .bl k := by cases r; rfl
/-- an expression's truth value as a test -/
theorem tB_of : ∀ σ H Q, tT X.K ca W (Cd.tVal ma) σ H Q → tTest (tE X.K ca W ma) σ H Q := by
  rintro σ H Q ⟨ρ, h, η, S, re, p⟩
  refine ⟨ρ, h, η, S, re, postG.first p fun ρ1 H1 h1 d x st1 S1 r1 p1 => ?_⟩
  cases d with
  | bl k => exact ⟨k, bl_of r1, p1 ρ1 H1 k (Step.refl _ _) S1 rfl⟩
  | _ => exact p1.elim
theorem kt_cmp {op : CmpOp} {f : Cd.Hep → Cd.Val → Cd.Val → Option Cd.Val} {r : R2} (ho : OpR X (compareOp op) r) (hf : BinF X.K f r) (ha : KE X ca W a ma) (hb : KE X ca W b mb) (hm : behindInMarks op b = false) :
    KT X ca W (.Compare a [op] [b] pos) (Cd.tVal (Cd.eBin f ma mb)) := by
  refine PT.wk (pt_cmpR ho ha hb hm) fun σ H Q p => ?_
  obtain ⟨ρ, h, η, S, re, p⟩ := tB_of σ H Q p
  exact tOp_of hf σ H _ ⟨ρ, h, η, S, re, p⟩
theorem kt_val {e : Expr} {m : Cd.EM} (h : KE X ca W e m) (he : ∀ whole, isTrue e X.env whole = (do let v ← whole; standAt e.pos; holding [v] (truthy v)) := by intro _; rfl) : KT X ca W e (Cd.tVal m) :=
  PT.wk (pt_val h he) fun σ H Q p => tB_of σ H Q p
theorem isE_map (f : α → β) (l : List α) : (l.map f).isEmpty = l.isEmpty := by cases l <;> rfl
theorem RVs.isEmpty {K : PySem.W.Frag} {ρ : List Addr} {H : Hp} {ds : List Cd.Val} {vs : List V} (r : RVs K ρ H ds vs) : vs.isEmpty = ds.isEmpty := by cases r <;> rfl
theorem line_eq {n : Nat} : Cd.szOk n ↔ n ≤ sizeLine := by
  unfold Cd.szOk
  rw [Cd.line_is, sizeLine_eq]
theorem tru_of {K : PySem.W.Frag} {ρ : List Addr} {h : Cd.Hep} {H : Hp} {d : Cd.Val} {x : V} {k : Bool} (S : Sim K ρ h H) (r : RV K ρ H d x) (e : Cd.truth h d = some k) : TruV K x H k := by
  cases r with
  | non => simp only [Cd.truth, Option.some.injEq] at e; subst e; rfl
  | bl b => simp only [Cd.truth, Option.some.injEq] at e; subst e; rfl
  | int i => simp only [Cd.truth, Option.some.injEq] at e; subst e; rfl
  | str s =>
    simp only [Cd.truth] at e
    split at e
    · rename_i hl
      simp only [Option.some.injEq] at e
      subst e
      rw [line_eq] at hl
      refine ⟨hl, ?_⟩
      show (s.length != 0) = (((s.length : Nat) : Int) != 0)
      rw [Bool.eq_iff_iff, bne_iff_ne, bne_iff_ne]
      omega
    · cases e
  | @tup a ds vs q t =>
    simp only [Cd.truth, Option.some.injEq] at e; subst e
    exact .inr (.inl ⟨vs, q, by rw [t.isEmpty]⟩)
  | @fl a ds vs q t =>
    simp only [Cd.truth, Option.some.injEq] at e; subst e
    exact .inl ⟨vs, q.sq, by rw [t.isEmpty]⟩
  | exo a => cases e
  | @ref n a q =>
    simp only [Cd.truth] at e
    split at e
    · rename_i l hl
      simp only [Option.some.injEq] at e; subst e
      obtain ⟨vs, e1, t⟩ := S.obj n _ a hl q
      exact .inl ⟨vs, SqL.of e1, by rw [t.isEmpty]⟩
    · rename_i l hl
      simp only [Option.some.injEq] at e; subst e
      obtain ⟨kvs, e1, t⟩ := S.obj n _ a hl q
      exact .inr (.inr ⟨kvs, e1, by cases t <;> rfl⟩)
    · cases e
theorem kt_tru (ha : KE X ca W a ma) (he : ∀ whole, isTrue a X.env whole = (do let v ← whole; standAt a.pos; holding [v] (truthy v)) := by intro _; rfl) : KT X ca W a (Cd.tTru ma) := by
  refine PT.wk (pt_truth ha he) fun σ H Q ⟨ρ, h, η, S, re, p⟩ => ?_
  refine ⟨ρ, h, η, S, re, postG.first p fun ρ1 H1 h1 d x st1 S1 r1 p1 => ?_⟩
  obtain ⟨k, hk, q⟩ := p1.ofO
  exact ⟨k, tru_of S1 r1 hk, q ρ1 H1 k (Step.refl _ _) S1 rfl⟩
variable {ta tb tc : Cd.TM}
theorem kt_pw {e : Expr} {m : Cd.TM} (h : KW X ca W e m) : KT X ca W e m := h.pt
theorem kw_and1 (ha : KT X ca W a ta) : KW X ca W (.BoolOp .And [a] pos) ta := pw_and1 ha
theorem kw_or1 (ha : KT X ca W a ta) : KW X ca W (.BoolOp .Or [a] pos) ta := pw_or1 ha
variable {rest : List Expr}
theorem kw_and (ha : KT X ca W a ta) (hb : KW X ca W (.BoolOp .And (b :: rest) pos) tb) : KW X ca W (.BoolOp .And (a :: b :: rest) pos) (Cd.tAnd ta tb) := by
  refine PW.wk (pw_and ha hb) fun σ H Q ⟨ρ, h, η, S, re, p⟩ => ?_
  refine ⟨ρ, h, η, S, re, postG.first p fun ρ1 H1 h1 k x st1 S1 r1 p1 => ?_⟩
  cases (show k = x from r1)
  cases k with
  | true => exact ⟨ρ1, h1, η, S1, re.mono st1 S, p1⟩
  | false => exact p1 ρ1 H1 false (Step.refl _ _) S1 rfl
theorem kw_or (ha : KT X ca W a ta) (hb : KW X ca W (.BoolOp .Or (b :: rest) pos) tb) : KW X ca W (.BoolOp .Or (a :: b :: rest) pos) (Cd.tOr ta tb) := by
  refine PW.wk (pw_or ha hb) fun σ H Q ⟨ρ, h, η, S, re, p⟩ => ?_
  refine ⟨ρ, h, η, S, re, postG.first p fun ρ1 H1 h1 k x st1 S1 r1 p1 => ?_⟩
  cases (show k = x from r1)
  cases k with
  | true => exact p1 ρ1 H1 true (Step.refl _ _) S1 rfl
  | false => exact ⟨ρ1, h1, η, S1, re.mono st1 S, p1⟩
theorem kt_not (ha : KT X ca W a ta) : KT X ca W (.UnaryOp .Not a pos) (Cd.tNot ta) := by
  refine PT.wk (pt_not ha) fun σ H Q ⟨ρ, h, η, S, re, p⟩ => ?_
  refine ⟨ρ, h, η, S, re, postG.first p fun ρ1 H1 h1 k x st1 S1 r1 p1 => ?_⟩
  cases (show k = x from r1)
  exact p1 ρ1 H1 (!k) (Step.refl _ _) S1 rfl
theorem k_ifE (hc : KT X ca W c tc) (ha : KE X ca W a ma) (hb : KE X ca W b mb) : KE X ca W (.IfExp c a b pos) (Cd.eIf tc ma mb) := by
  refine PE.wk (pe_ifExp hc ha hb) fun σ H Q ⟨ρ, h, η, S, re, p⟩ => ?_
  refine ⟨ρ, h, η, S, re, postG.first p fun ρ1 H1 h1 k x st1 S1 r1 p1 => ?_⟩
  cases (show k = x from r1)
  cases k with
  | true => exact ⟨ρ1, h1, η, S1, re.mono st1 S, p1⟩
  | false => exact ⟨ρ1, h1, η, S1, re.mono st1 S, p1⟩
theorem k_one {op : BoolOp} {m : Cd.EM} (h : KE X ca W a m) : KE X ca W (.BoolOp op [a] pos) m := pe_one h
theorem k_and (ha : KE X ca W a ma) (hb : KE X ca W (.BoolOp .And (b :: rest) pos) mb) : KE X ca W (.BoolOp .And (a :: b :: rest) pos) (Cd.eAnd ma mb) := by
  refine PE.wk (pe_and ha hb) fun σ H Q ⟨ρ, h, η, S, re, p⟩ => ?_
  refine ⟨ρ, h, η, S, re, postG.first p fun ρ1 H1 h1 d x st1 S1 r1 p1 => ?_⟩
  cases d with
  | bl k =>
    refine ⟨k, bl_of r1, ?_⟩
    cases k with
    | true => exact ⟨ρ1, h1, η, S1, re.mono st1 S, p1⟩
    | false => exact p1 ρ1 H1 _ (Step.refl _ _) S1 (.bl false)
  | _ => exact p1.elim
theorem k_or (ha : KE X ca W a ma) (hb : KE X ca W (.BoolOp .Or (b :: rest) pos) mb) : KE X ca W (.BoolOp .Or (a :: b :: rest) pos) (Cd.eOr ma mb) := by
  refine PE.wk (pe_or ha hb) fun σ H Q ⟨ρ, h, η, S, re, p⟩ => ?_
  refine ⟨ρ, h, η, S, re, postG.first p fun ρ1 H1 h1 d x st1 S1 r1 p1 => ?_⟩
  cases d with
  | bl k =>
    refine ⟨k, bl_of r1, ?_⟩
    cases k with
    | true => exact p1 ρ1 H1 _ (Step.refl _ _) S1 (.bl true)
    | false => exact ⟨ρ1, h1, η, S1, re.mono st1 S, p1⟩
  | _ => exact p1.elim
theorem k_not (ha : KE X ca W a ma) : KE X ca W (.UnaryOp .Not a pos) (Cd.eNot ma) := by
  refine PE.wk (pe_not ha) fun σ H Q ⟨ρ, h, η, S, re, p⟩ => ?_
  refine ⟨ρ, h, η, S, re, postG.first p fun ρ1 H1 h1 d x st1 S1 r1 p1 => ?_⟩
  cases d with
  | bl k => exact ⟨k, bl_of r1, p1 ρ1 H1 _ (Step.refl _ _) S1 (.bl _)⟩
  | _ => exact p1.elim

/-! ### arguments, displays -/
theorem ka_nil : KA X ca W [] Cd.aNil := PA.wk pa_nil fun σ H Q ⟨ρ, h, η, S, re, p⟩ => p ρ H [] (Step.refl _ _) S .nil
variable {es : List Expr} {e : Expr} {me : Cd.EM} {ms : Cd.AM}
theorem ka_cons (ha : KE X ca W e me) (hr : KA X ca W es ms) (hs : starEach (e :: es) X.env = (false, eval e X.env) :: starEach es X.env := by rfl) : KA X ca W (e :: es) (Cd.aCons me ms) := by
  refine PA.wk (pa_cons ha hr hs) fun σ H Q ⟨ρ, h, η, S, re, p⟩ => ?_
  refine ⟨ρ, h, η, S, re, postG.first p fun ρ1 H1 h1 d x st1 S1 r1 p1 => ?_⟩
  refine ⟨ρ1, h1, η, S1, re.mono st1 S, postG.first p1 fun ρ2 H2 h2 ds xs st2 S2 r2 p2 => ?_⟩
  exact p2 ρ2 H2 _ (Step.refl _ _) S2 (.cons (r1.mono st2 S1) r2)
theorem k_tup {x1} (h : KA X ca W es ms) : KE X ca W (.Tuple es x1 pos) (Cd.eTup ms) := by
  refine PE.wk (pe_tup h) fun σ H Q ⟨ρ, h, η, S, re, p⟩ => ?_
  refine ⟨ρ, h, η, S, re, postG.first p fun ρ1 H1 h1 ds xs st1 S1 r1 p1 => ?_⟩
  split at p1
  · rename_i hl
    rw [line_eq, r1.length] at hl
    refine ⟨hl, fun q nq => ?_⟩
    exact p1 ρ1 _ _ (Step.out q _ nq) (S1.out nq) (.tup (SqT.of upd_same) (r1.mono (Step.out q _ nq) S1))
  · exact p1.elim
theorem k_lst (h : KA X ca W es ms) : KE X ca W (.List es pos) (Cd.eLst ms) := by
  refine PE.wk (pe_lst h) fun σ H Q ⟨ρ, h, η, S, re, p⟩ => ?_
  refine ⟨ρ, h, η, S, re, postG.first p fun ρ1 H1 h1 ds xs st1 S1 r1 p1 => ?_⟩
  split at p1
  · rename_i hl
    rw [line_eq, r1.length] at hl
    refine ⟨hl, fun q nq => ?_⟩
    have st := Step.lay (ρ := ρ1) q (.lst xs) nq
    exact p1 _ _ _ st (S1.lay nq ⟨xs, upd_same, r1.mono st S1⟩) (.ref (by rw [← S1.len, List.getElem?_append_right (Nat.le_refl _), Nat.sub_self]; rfl))
  · exact p1.elim
end
end Cb

set_option Elab.async false
set_option linter.all false
set_option maxRecDepth 100000
set_option maxHeartbeats 4000000
/-! CdB3: the bridge: operators, subscripts. -/
namespace Cb
open PySem PySem.Spec PyProof.Rows L2

theorem toS_app (s t : List Nat) : toS (s ++ t) = toS s ++ toS t := by
  show (⟨(s ++ t).toArray⟩ : Str) = ⟨s.toArray ++ t.toArray⟩
  simp
theorem toS_len (s : List Nat) : (toS s).length = s.length := rfl
theorem toS_inj {s t : List Nat} : (toS s = toS t) ↔ s = t := by
  constructor
  · intro e
    have := congrArg (fun z : Str => z.cps.toList) e
    simpa [toS] using this
  · rintro rfl; rfl

section
variable {X : Cx} {K : PySem.W.Frag}
/-- the ways of oAdd -/
theorem bf_add : BinF K Cd.oAdd (fun x y H Q => (rI0 fun i j => .int (i + j)) x y H Q ∨ (fun x y H Q => ∃ i j, x = V.str i ∧ y = V.str j ∧ i.length + j.length ≤ sizeLine ∧ Q (V.str (i ++ j)) H) x y H Q ∨ rCatT K x y H Q) := by
  intro ρ h H d e u x y Q S r1 r2 hu k
  unfold Cd.oAdd at hu
  split at hu
  · cases hu
    cases r1
    cases r2
    exact .inl ⟨_, _, rfl, rfl, k ρ H _ (Step.refl _ _) S (.int _)⟩
  · rename_i s t
    split at hu
    · rename_i hl
      cases hu
      cases r1
      cases r2
      rw [line_eq] at hl
      exact .inr (.inl ⟨_, _, rfl, rfl, hl, by rw [← toS_app]; exact k ρ H _ (Step.refl _ _) S (.str _)⟩)
    · cases hu
  · rename_i l m
    split at hu
    · cases hu
    · rename_i hn
      split at hu
      · rename_i hl
        cases hu
        cases r1 with
        | @tup a _ vs q1 t1 =>
          cases r2 with
          | @tup b _ ws q2 t2 =>
            rw [line_eq, t1.length, t2.length] at hl
            refine .inr (.inr ⟨a, b, vs, ws, rfl, rfl, q1, q2, ?_, hl, ?_, ?_⟩)
            · intro z
              subst z
              cases t1
              exact hn rfl
            · intro z
              subst z
              cases t2
              rw [List.append_nil] at k
              exact k ρ H _ (Step.refl _ _) S (.tup q1 t1)
            · intro _ p np
              have st := Step.out (ρ := ρ) p (.tup (vs ++ ws)) np
              exact k ρ _ _ st (S.out np) (.tup (SqT.of upd_same) (RVs.append (t1.mono st S) (t2.mono st S)))
      · cases hu
  · cases hu
theorem op_addA : OpR X (binaryOp .Add) (fun x y H Q => (rI0 fun i j => .int (i + j)) x y H Q ∨ (fun x y H Q => ∃ i j, x = V.str i ∧ y = V.str j ∧ i.length + j.length ≤ sizeLine ∧ Q (V.str (i ++ j)) H) x y H Q ∨ rCatT X.K x y H Q) :=
  op_add.or (op_add_str.or op_catT)
theorem bf_sub : BinF K Cd.oSub (rI0 fun i j => .int (i - j)) := by
  intro ρ h H d e u x y Q S r1 r2 hu k
  unfold Cd.oSub at hu
  split at hu
  · cases hu; cases r1; cases r2
    exact ⟨_, _, rfl, rfl, k ρ H _ (Step.refl _ _) S (.int _)⟩
  · cases hu
def CMulA (i j : Int) : Prop := CMul i j ∨ CMulW i j
theorem op_mulA : OpR X (binaryOp .Mult) (rI CMulA fun i j => .int (i * j)) := opI fun _ _ _ _ _ _ _ hc q => mul_int q (by rcases hc with hc | hc; exact hc.ok; exact hc.ok)
theorem iop_mulA : OpR X (inplaceOp .Mult) (rI CMulA fun i j => .int (i * j)) := opI fun _ _ _ _ _ _ _ hc q => imul_int q (by rcases hc with hc | hc; exact hc.ok; exact hc.ok)
theorem mulA_of {i j : Int} (h : Cd.mulOk i j) : CMulA i j := by
  rcases h with h | h | h
  · exact .inl (.inl h)
  · exact .inl (.inr h)
  · exact .inr h
theorem bf_mul : BinF K Cd.oMul (rI CMulA fun i j => .int (i * j)) := by
  intro ρ h H d e u x y Q S r1 r2 hu k
  unfold Cd.oMul at hu
  split at hu
  · split at hu
    · rename_i hm
      cases hu; cases r1; cases r2
      exact ⟨_, _, rfl, rfl, mulA_of hm, k ρ H _ (Step.refl _ _) S (.int _)⟩
    · cases hu
  · cases hu
theorem bf_div : BinF K Cd.oDiv (rI CDivW fun i j => .int (i / j)) := by
  intro ρ h H d e u x y Q S r1 r2 hu k
  unfold Cd.oDiv at hu
  split at hu
  · split at hu
    · rename_i hm
      cases hu; cases r1; cases r2
      exact ⟨_, _, rfl, rfl, hm, k ρ H _ (Step.refl _ _) S (.int _)⟩
    · cases hu
  · cases hu
theorem bf_mod : BinF K Cd.oMod (rI (fun _ j => 0 < j) fun i j => .int (i % j)) := by
  intro ρ h H d e u x y Q S r1 r2 hu k
  unfold Cd.oMod at hu
  split at hu
  · split at hu
    · rename_i hm
      cases hu; cases r1; cases r2
      exact ⟨_, _, rfl, rfl, hm, k ρ H _ (Step.refl _ _) S (.int _)⟩
    · cases hu
  · cases hu
theorem bf_pow : BinF K Cd.oPow (rI CPow fun i j => .int (i ^ j.toNat)) := by
  intro ρ h H d e u x y Q S r1 r2 hu k
  unfold Cd.oPow at hu
  split at hu
  · split at hu
    · rename_i hm
      cases hu; cases r1; cases r2
      exact ⟨_, _, rfl, rfl, hm, k ρ H _ (Step.refl _ _) S (.int _)⟩
    · cases hu
  · cases hu
theorem uf_neg : UnF K Cd.oNeg (rU fun i => .int (-i)) := by
  intro ρ h H d u x Q S r1 hu k
  unfold Cd.oNeg at hu
  split at hu
  · cases hu; cases r1
    exact ⟨_, rfl, k ρ H _ (Step.refl _ _) S (.int _)⟩
  · cases hu
/-! ### comparisons -/
abbrev rStr (p : List Nat → List Nat → Bool) : R2 := fun x y H Q => ∃ i j : Str, x = .str i ∧ y = .str j ∧ Q (.bl (p i.cps.toList j.cps.toList)) H
theorem bf_ord {f : Cd.Hep → Cd.Val → Cd.Val → Option Cd.Val} {p : Int → Int → Bool} {q : List Nat → List Nat → Bool} (hi : ∀ h i j, f h (.int i) (.int j) = some (.bl (p i j))) (hs : ∀ h i j, f h (.str i) (.str j) = some (.bl (q i j)))
    (hn : ∀ h a b u, f h a b = some u → (∃ i j, a = .int i ∧ b = .int j) ∨ ∃ i j, a = .str i ∧ b = .str j) : BinF K f (fun x y H Q => (rI0 fun i j => .bl (p i j)) x y H Q ∨ rStr q x y H Q) := by
  intro ρ h H d e u x y Q S r1 r2 hu k
  rcases hn h d e u hu with ⟨i, j, rfl, rfl⟩ | ⟨i, j, rfl, rfl⟩
  · rw [hi] at hu; cases hu; cases r1; cases r2
    exact .inl ⟨_, _, rfl, rfl, k ρ H _ (Step.refl _ _) S (.bl _)⟩
  · rw [hs] at hu; cases hu; cases r1; cases r2
    exact .inr ⟨_, _, rfl, rfl, k ρ H _ (Step.refl _ _) S (.bl _)⟩
theorem bf_lt : BinF K Cd.oLt (fun x y H Q => (rI0 fun i j => .bl (decide (i < j))) x y H Q ∨ rStr (fun i j => decide (i < j)) x y H Q) := bf_ord (fun _ _ _ => rfl) (fun _ _ _ => rfl) fun h a b u e => by
  unfold Cd.oLt at e
  split at e
  · exact .inl ⟨_, _, rfl, rfl⟩
  · exact .inr ⟨_, _, rfl, rfl⟩
  · cases e
theorem bf_le : BinF K Cd.oLe (fun x y H Q => (rI0 fun i j => .bl (decide (i ≤ j))) x y H Q ∨ rStr (fun i j => !decide (j < i)) x y H Q) := bf_ord (fun _ _ _ => rfl) (fun _ _ _ => rfl) fun h a b u e => by
  unfold Cd.oLe at e
  split at e
  · exact .inl ⟨_, _, rfl, rfl⟩
  · exact .inr ⟨_, _, rfl, rfl⟩
  · cases e
theorem bf_gt : BinF K Cd.oGt (fun x y H Q => (rI0 fun i j => .bl (decide (j < i))) x y H Q ∨ rStr (fun i j => decide (j < i)) x y H Q) := bf_ord (fun _ _ _ => rfl) (fun _ _ _ => rfl) fun h a b u e => by
  unfold Cd.oGt at e
  split at e
  · exact .inl ⟨_, _, rfl, rfl⟩
  · exact .inr ⟨_, _, rfl, rfl⟩
  · cases e
theorem bf_ge : BinF K Cd.oGe (fun x y H Q => (rI0 fun i j => .bl (decide (j ≤ i))) x y H Q ∨ rStr (fun i j => !decide (i < j)) x y H Q) := bf_ord (fun _ _ _ => rfl) (fun _ _ _ => rfl) fun h a b u e => by
  unfold Cd.oGe at e
  split at e
  · exact .inl ⟨_, _, rfl, rfl⟩
  · exact .inr ⟨_, _, rfl, rfl⟩
  · cases e
theorem op_ltA : OpR X (compareOp .Lt) (fun x y H Q => (rI0 fun i j => .bl (decide (i < j))) x y H Q ∨ rStr (fun i j => decide (i < j)) x y H Q) := op_lt.or op_lt_str
theorem op_leA : OpR X (compareOp .LtE) (fun x y H Q => (rI0 fun i j => .bl (decide (i ≤ j))) x y H Q ∨ rStr (fun i j => !decide (j < i)) x y H Q) := op_le.or op_le_str
theorem op_gtA : OpR X (compareOp .Gt) (fun x y H Q => (rI0 fun i j => .bl (decide (j < i))) x y H Q ∨ rStr (fun i j => decide (j < i)) x y H Q) := op_gt.or op_gt_str
theorem op_geA : OpR X (compareOp .GtE) (fun x y H Q => (rI0 fun i j => .bl (decide (j ≤ i))) x y H Q ∨ rStr (fun i j => !decide (i < j)) x y H Q) := op_ge.or op_ge_str
/-! ### data -/
mutual
def toP : Cd.Dat → PyData
  | .non => .none
  | .bl b => .bool b
  | .int i => .int i
  | .str s => .str (toS s)
  | .lst l => .list (toPs l)
  | .tup l => .tuple (toPs l)
def toPs : List Cd.Dat → List PyData
  | [] => []
  | d :: l => toP d :: toPs l
end
mutual
theorem toP_eqv : ∀ a b : Cd.Dat, PyData.eqv (toP a) (toP b) = a.eqv b
  | .non, b => by cases b <;> simp only [toP, PyData.eqv, Cd.Dat.eqv]
  | .bl _, b => by cases b <;> simp only [toP, PyData.eqv, Cd.Dat.eqv]
  | .int _, b => by cases b <;> simp only [toP, PyData.eqv, Cd.Dat.eqv]
  | .str s, b => by
    cases b with
    | str t =>
      simp only [toP, PyData.eqv, Cd.Dat.eqv]
      rw [Bool.eq_iff_iff, beq_iff_eq, beq_iff_eq]
      exact toS_inj
    | _ => simp only [toP, PyData.eqv, Cd.Dat.eqv]
  | .lst l, b => by
    cases b with
    | lst m => simp only [toP, PyData.eqv, Cd.Dat.eqv]; exact toPs_eqv l m
    | _ => simp only [toP, PyData.eqv, Cd.Dat.eqv]
  | .tup l, b => by
    cases b with
    | tup m => simp only [toP, PyData.eqv, Cd.Dat.eqv]; exact toPs_eqv l m
    | _ => simp only [toP, PyData.eqv, Cd.Dat.eqv]
theorem toPs_eqv : ∀ l m : List Cd.Dat, PyData.eqvAll (toPs l) (toPs m) = Cd.Dat.eqvs l m
  | [], [] => rfl
  | [], _ :: _ => rfl
  | _ :: _, [] => rfl
  | a :: l, b :: m => by simp only [toPs, PyData.eqvAll, Cd.Dat.eqvs, toP_eqv a b, toPs_eqv l m]
end
section
variable {ρ : List Addr} {h : Cd.Hep} {H : Hp}
mutual
theorem rsl_dp (S : Sim K ρ h H) : ∀ (n : Nat) (d : Cd.Val) (x : V) (t : Cd.Dat), RV K ρ H d x → Cd.rsl h n d = some t → Dp K H x (toP t) ∧ PyData.canLay0 (toP t) = true ∧ PyData.depth (toP t) ≤ n
  | n, .non, x, t, r, e => by
    cases r; simp only [Cd.rsl, Option.some.injEq] at e; subst e
    exact ⟨.non, rfl, Nat.zero_le _⟩
  | n, .bl b, x, t, r, e => by
    cases r; simp only [Cd.rsl, Option.some.injEq] at e; subst e
    exact ⟨.bl b, rfl, Nat.zero_le _⟩
  | n, .int i, x, t, r, e => by
    cases r; simp only [Cd.rsl, Option.some.injEq] at e; subst e
    exact ⟨.int i, rfl, Nat.zero_le _⟩
  | n, .str s, x, t, r, e => by
    cases r
    simp only [Cd.rsl] at e
    split at e
    · rename_i hs
      cases e
      refine ⟨.str _, ?_, Nat.zero_le _⟩
      show ((toS s).cps.all fun c => decide (c < 0x110000)) = true
      rw [toS, List.all_toArray, List.all_eq_true]
      exact fun c hc => decide_eq_true (hs c hc)
    · cases e
  | 0, .tup l, x, t, r, e => by simp only [Cd.rsl] at e; cases e
  | 0, .fl l, x, t, r, e => by simp only [Cd.rsl] at e; cases e
  | 0, .ref a, x, t, r, e => by simp only [Cd.rsl] at e; cases e
  | 0, .exo a, x, t, r, e => by simp only [Cd.rsl] at e; cases e
  | n + 1, .exo a, x, t, r, e => by simp only [Cd.rsl] at e; cases e
  | n + 1, .tup l, x, t, r, e => by
    cases r with
    | tup q rs =>
      simp only [Cd.rsl] at e
      cases el : Cd.rsls h n l with
      | none => rw [el] at e; cases e
      | some ts =>
        rw [el] at e; cases e
        obtain ⟨a, b, c⟩ := rsls_dp S n l _ ts rs el
        exact ⟨.tup q a, b, by show PyData.depthAll _ + 1 ≤ _; omega⟩
  | n + 1, .fl l, x, t, r, e => by
    cases r with
    | fl q rs =>
      simp only [Cd.rsl] at e
      cases el : Cd.rsls h n l with
      | none => rw [el] at e; cases e
      | some ts =>
        rw [el] at e; cases e
        obtain ⟨a, b, c⟩ := rsls_dp S n l _ ts rs el
        exact ⟨.lst q.sq a, b, by show PyData.depthAll _ + 1 ≤ _; omega⟩
  | n + 1, .ref i, x, t, r, e => by
    cases r with
    | @ref _ a q =>
      simp only [Cd.rsl] at e
      split at e
      · rename_i l hl
        obtain ⟨vs, e1, rs⟩ := S.obj i _ a hl q
        cases el : Cd.rsls h n l with
        | none => rw [el] at e; cases e
        | some ts =>
          rw [el] at e; cases e
          obtain ⟨a, b, c⟩ := rsls_dp S n l _ ts rs el
          exact ⟨.lst (SqL.of e1) a, b, by show PyData.depthAll _ + 1 ≤ _; omega⟩
      · cases e
theorem rsls_dp (S : Sim K ρ h H) : ∀ (n : Nat) (ds : List Cd.Val) (xs : List V) (ts : List Cd.Dat), RVs K ρ H ds xs → Cd.rsls h n ds = some ts → DpAll K H xs (toPs ts) ∧ PyData.canLayAll0 (toPs ts) = true ∧ PyData.depthAll (toPs ts) ≤ n
  | n, [], xs, ts, r, e => by
    cases r; simp only [Cd.rsls, Option.some.injEq] at e; subst e
    exact ⟨.nil, rfl, Nat.zero_le _⟩
  | n, d :: ds, xs, ts, r, e => by
    cases r with
    | cons r1 r2 =>
      simp only [Cd.rsls] at e
      cases e1 : Cd.rsl h n d with
      | none => rw [e1] at e; cases e
      | some t =>
        rw [e1] at e
        simp only at e
        cases e2 : Cd.rsls h n ds with
        | none => rw [e2] at e; cases e
        | some us =>
          rw [e2] at e; cases e
          obtain ⟨a, b, c⟩ := rsl_dp S n d _ t r1 e1
          obtain ⟨a', b', c'⟩ := rsls_dp S n ds _ us r2 e2
          refine ⟨.cons a a', ?_, ?_⟩
          · show (_ && _) = true
            rw [b, b']; rfl
          · show max _ _ ≤ n
            exact Nat.max_le.mpr ⟨c, c'⟩
end
end
theorem shaped_of {t : Cd.Dat} (h1 : PyData.canLay0 (toP t) = true) (h2 : PyData.depth (toP t) ≤ 40) : SeqAt.shaped (toP t) = true := by
  show (_ && decide _) = true
  rw [h1, Bool.true_and]
  exact decide_eq_true (by omega)
theorem scl_of {ρ : List Addr} {H : Hp} {d e : Cd.Val} {x y : V} {k : Bool} (r1 : RV K ρ H d x) (r2 : RV K ρ H e y) (h : Cd.scl d e = some k) : scal x y = true ∧ decide (x = y) = k := by
  cases r1 <;> cases r2 <;> simp only [Cd.scl, Option.some.injEq, reduceCtorEq] at h <;> subst h <;> refine ⟨rfl, ?_⟩ <;> try simp
  · rename_i a b
    cases a <;> cases b <;> rfl
  · rw [Bool.eq_iff_iff]; simp
  · rw [Bool.eq_iff_iff]; simp [toS_inj]
theorem bf_eq : BinF K Cd.oEq (fun x y H Q => rEq x y H Q ∨ rEqD K x y H Q) := by
  intro ρ h H d e u x y Q S r1 r2 hu k
  unfold Cd.oEq Cd.vEq at hu
  cases es : Cd.scl d e with
  | some b =>
    rw [es] at hu; cases hu
    obtain ⟨h1, h2⟩ := scl_of r1 r2 es
    exact .inl ⟨h1, by rw [h2]; exact k ρ H _ (Step.refl _ _) S (.bl _)⟩
  | none =>
    rw [es] at hu
    simp only at hu
    split at hu
    · rename_i t1 t2 e1 e2
      cases hu
      obtain ⟨a, b, c⟩ := rsl_dp S _ _ _ _ r1 e1
      obtain ⟨a', b', c'⟩ := rsl_dp S _ _ _ _ r2 e2
      refine .inr ⟨_, _, a, a', shaped_of b c, shaped_of b' c', ?_⟩
      rw [toP_eqv]
      exact k ρ H _ (Step.refl _ _) S (.bl _)
    · cases hu
theorem bf_ne : BinF K Cd.oNe (fun x y H Q => rNe x y H Q ∨ rNeD K x y H Q) := by
  intro ρ h H d e u x y Q S r1 r2 hu k
  unfold Cd.oNe Cd.vEq at hu
  cases es : Cd.scl d e with
  | some b =>
    rw [es] at hu; cases hu
    obtain ⟨h1, h2⟩ := scl_of r1 r2 es
    exact .inl ⟨h1, by rw [h2]; exact k ρ H _ (Step.refl _ _) S (.bl _)⟩
  | none =>
    rw [es] at hu
    simp only at hu
    split at hu
    · rename_i t1 t2 e1 e2
      cases hu
      obtain ⟨a, b, c⟩ := rsl_dp S _ _ _ _ r1 e1
      obtain ⟨a', b', c'⟩ := rsl_dp S _ _ _ _ r2 e2
      refine .inr ⟨_, _, a, a', shaped_of b c, shaped_of b' c', ?_⟩
      rw [toP_eqv]
      exact k ρ H _ (Step.refl _ _) S (.bl _)
    · cases hu
theorem op_eqA (hu : X.A.units + 64 < cLine) : OpR X (compareOp .Eq) (fun x y H Q => rEq x y H Q ∨ rEqD X.K x y H Q) := op_eq.or (op_eqD hu)
theorem op_neA (hu : X.A.units + 64 < cLine) : OpR X (compareOp .NotEq) (fun x y H Q => rNe x y H Q ∨ rNeD X.K x y H Q) := op_ne.or (op_neD hu)
theorem isNon_of {ρ : List Addr} {H : Hp} {d : Cd.Val} {x : V} (r : RV K ρ H d x) : decide (x = .non) = Cd.isNon d := by cases r <;> rfl
theorem bf_isN : BinF K Cd.oIsN (fun x y H Q => y = .non ∧ Q (.bl (decide (x = .non))) H) := by
  intro ρ h H d e u x y Q S r1 r2 hu k
  unfold Cd.oIsN at hu
  split at hu
  · cases hu; cases r2
    exact ⟨rfl, by rw [isNon_of r1]; exact k ρ H _ (Step.refl _ _) S (.bl _)⟩
  · cases hu
theorem bf_notN : BinF K Cd.oNotN (fun x y H Q => y = .non ∧ Q (.bl (!decide (x = .non))) H) := by
  intro ρ h H d e u x y Q S r1 r2 hu k
  unfold Cd.oNotN at hu
  split at hu
  · cases hu; cases r2
    exact ⟨rfl, by rw [isNon_of r1]; exact k ρ H _ (Step.refl _ _) S (.bl _)⟩
  · cases hu
/-! ### subscripts -/
theorem atI_eq {α : Type} (xs : List α) (i : Int) : L2.atI xs i = Cd.atI xs i := rfl
theorem atI_rv {ρ : List Addr} {H : Hp} {ds : List Cd.Val} {vs : List V} {i : Int} {d : Cd.Val} (r : RVs K ρ H ds vs) (e : Cd.atI ds i = some d) : ∃ v, L2.atI vs i = some v ∧ RV K ρ H d v := by
  unfold Cd.atI at e
  unfold L2.atI
  rw [show L2.ixN vs.length i = Cd.ixN ds.length i from by rw [r.length]; rfl]
  cases q : Cd.ixN ds.length i with
  | none => rw [q] at e; cases e
  | some j =>
    rw [q] at e
    exact r.get e
theorem bf_idx : BinF K Cd.oIdx (rIx K) := by
  intro ρ h H d e u x y Q S r1 r2 hu k
  unfold Cd.oIdx at hu
  split at hu
  · cases r1 with
    | tup q rs =>
      cases r2
      obtain ⟨v, e1, r⟩ := atI_rv rs hu
      exact .inr (.inl ⟨_, _, _, v, rfl, rfl, q, e1, k ρ H _ (Step.refl _ _) S r⟩)
  · cases r1 with
    | fl q rs =>
      cases r2
      obtain ⟨v, e1, r⟩ := atI_rv rs hu
      exact .inl ⟨_, _, _, v, rfl, rfl, q.sq, e1, k ρ H _ (Step.refl _ _) S r⟩
  · rename_i s i
    split at hu
    · rename_i hl
      cases ec : Cd.atI s i with
      | none => rw [ec] at hu; cases hu
      | some c =>
        rw [ec] at hu; cases hu
        cases r1; cases r2
        rw [line_eq] at hl
        exact .inr (.inr ⟨_, _, c, rfl, rfl, hl, ec, k ρ H _ (Step.refl _ _) S (.str [c])⟩)
    · cases hu
  · split at hu
    · rename_i l hl
      cases r1 with
      | ref q =>
        cases r2
        obtain ⟨vs, e1, rs⟩ := S.obj _ _ _ hl q
        obtain ⟨v, e2, r⟩ := atI_rv rs hu
        exact .inl ⟨_, _, _, v, rfl, rfl, SqL.of e1, e2, k ρ H _ (Step.refl _ _) S r⟩
    · cases hu
  · cases hu
theorem k_idx {ca : String → Value} {W : WX} {a b : Expr} {ma mb : Cd.EM} {pos : Pos} (ha : KE X ca W a ma) (hb : KE X ca W b mb) (hs : PlainIx b := by exact fun _ _ => rfl) : KE X ca W (.Subscript a b pos) (Cd.eBin Cd.oIdx ma mb) :=
  PE.wk (pe_ix ix_seq ha hb hs) (tOp_of bf_idx)
end
end Cb

set_option Elab.async false
set_option linter.all false
set_option maxRecDepth 100000
set_option maxHeartbeats 4000000
/-! CdB4: the bridge: statements, loops, defs. -/
namespace Cb
open PySem PySem.Spec PyProof.Rows L2

section
variable (K : PySem.W.Frag) (ca : String → Value) (W : WX)
/-- what is wanted behind a statement's reading -/
def postS (ρ : List Addr) (H : Hp) (r : Cd.SR) (D : Ends) : Prop :=
  match r with
  | .nx η' h' => ∀ ρ' H' σ', Step ρ H ρ' H' → Sim K ρ' h' H' → RE K ρ' H' η' σ' → D.nx σ' H'
  | .brk η' h' => ∀ ρ' H' σ', Step ρ H ρ' H' → Sim K ρ' h' H' → RE K ρ' H' η' σ' → D.bk σ' H'
  | .cont η' h' => ∀ ρ' H' σ', Step ρ H ρ' H' → Sim K ρ' h' H' → RE K ρ' H' η' σ' → D.ct σ' H'
  | .ret v h' => ∀ ρ' H' x, Step ρ H ρ' H' → Sim K ρ' h' H' → RV K ρ' H' v x → D.rt x H'
  | .exc e η' h' => ∀ ρ' H' cls d σ', Step ρ H ρ' H' → Sim K ρ' h' H' → RE K ρ' H' η' σ' → RX K ca ρ' H' e cls d → W cls d σ' H'
  | .stuck => False
def tS (m : Cd.SM) : TS := fun D σ H => ∃ ρ h η, Sim K ρ h H ∧ RE K ρ H η σ ∧ postS K ca W ρ H (m η h) D
def tG (g : Cd.GM) : TG := fun x σ H Q => ∃ ρ h η d η', Sim K ρ h H ∧ RE K ρ H η σ ∧ RV K ρ H d x ∧ g d η = some η' ∧ ∀ σ', RE K ρ H η' σ' → Q σ' H
def tGs (g : Cd.GMs) : TGs := fun xs σ H Q => ∃ ρ h η ds η', Sim K ρ h H ∧ RE K ρ H η σ ∧ RVs K ρ H ds xs ∧ g ds η = some η' ∧ ∀ σ', RE K ρ H η' σ' → Q σ' H
end
abbrev KS (X : Cx) (ca : String → Value) (W : WX) (st : Stmt) (m : Cd.SM) : Prop := PS X st (tS X.K ca W m)
abbrev KSs (X : Cx) (ca : String → Value) (W : WX) (st : List Stmt) (m : Cd.SM) : Prop := PSs X st (tS X.K ca W m)
abbrev KG (X : Cx) (tg : Expr) (g : Cd.GM) : Prop := PG X tg (tG X.K g)
abbrev KGs (X : Cx) (ts : List Expr) (g : Cd.GMs) : Prop := PGs X ts (tGs X.K g)

section
variable {K : PySem.W.Frag} {ca : String → Value} {W : WX} {ρ ρ1 : List Addr} {H H1 : Hp} {σ : L2.St} {h : Cd.Hep} {η : Cd.Env}
theorem postS.mono {r : Cd.SR} {D : Ends} (st : Step ρ H ρ1 H1) (p : postS K ca W ρ H r D) : postS K ca W ρ1 H1 r D := by
  cases r with
  | nx η' h' => exact fun ρ' H' σ' s2 S q => p ρ' H' σ' (st.trans s2) S q
  | brk η' h' => exact fun ρ' H' σ' s2 S q => p ρ' H' σ' (st.trans s2) S q
  | cont η' h' => exact fun ρ' H' σ' s2 S q => p ρ' H' σ' (st.trans s2) S q
  | ret v h' => exact fun ρ' H' x s2 S q => p ρ' H' x (st.trans s2) S q
  | exc e η' h' => exact fun ρ' H' cls d σ' s2 S q => p ρ' H' cls d σ' (st.trans s2) S q
  | stuck => exact p
/-- an expression within a statement -/
theorem postS.first {α β : Type} {R : List Addr → Hp → α → β → Prop} {r : Cd.Res α} {f : α → Cd.Hep → Cd.SR} {D : Ends} {C : β → Hp → Prop} (S0 : Sim K ρ h H) (re : RE K ρ H η σ) (p : postS K ca W ρ H (r.thn η f) D)
    (c : ∀ ρ1 H1 h1 v x, Step ρ H ρ1 H1 → Sim K ρ1 h1 H1 → R ρ1 H1 v x → RE K ρ1 H1 η σ → postS K ca W ρ1 H1 (f v h1) D → C x H1) : postG K ca W R ρ H σ r C := by
  cases r with
  | ok v h' => exact fun ρ' H' x st S q => c ρ' H' h' v x st S q (re.mono st S0) (postS.mono st p)
  | exc e h' => exact fun ρ' H' cls d st S q => p ρ' H' cls d σ st S (re.mono st S0) q
  | stuck => exact p.elim
/-- a statement ahead of another -/
theorem postS.seq {r : Cd.SR} {f : Cd.Env → Cd.Hep → Cd.SR} {D : Ends} {C : L2.St → Hp → Prop} (p : postS K ca W ρ H (r.bind f) D)
    (c : ∀ ρ1 H1 h1 η1 σ1, Step ρ H ρ1 H1 → Sim K ρ1 h1 H1 → RE K ρ1 H1 η1 σ1 → postS K ca W ρ1 H1 (f η1 h1) D → C σ1 H1) : postS K ca W ρ H r { D with nx := C } := by
  cases r with
  | nx η' h' => exact fun ρ' H' σ' st S q => c ρ' H' h' η' σ' st S q (postS.mono st p)
  | brk η' h' => exact p
  | cont η' h' => exact p
  | ret v h' => exact p
  | exc e η' h' => exact p
  | stuck => exact p
end

section
variable {X : Cx} {ca : String → Value} {W : WX} {a b c e : Expr} {ma mb me : Cd.EM} {pos : Pos} {st : Stmt} {rest : List Stmt} {ms mt : Cd.SM}
theorem ks_wk_nx {t : TS} (h : PS X st t) (k : ∀ D σ H, D.nx σ H → t D σ H) : KS X ca W st Cd.sNop := PS.wk h fun D σ H ⟨ρ, h, η, S, re, p⟩ => k D σ H (p ρ H σ (Step.refl _ _) S re)
theorem ks_pass : KS X ca W (.Pass pos) Cd.sNop := ks_wk_nx ps_pass fun _ _ _ h => h
theorem ks_doc {x j pos pos'} : KS X ca W (.Expr (.Constant (.str x) j pos) pos') Cd.sNop := ks_wk_nx ps_doc fun _ _ _ h => h
theorem ks_break : KS X ca W (.Break pos) Cd.sBrk := PS.wk ps_break fun D σ H ⟨ρ, h, η, S, re, p⟩ => p ρ H σ (Step.refl _ _) S re
theorem ks_continue : KS X ca W (.Continue pos) Cd.sCont := PS.wk ps_continue fun D σ H ⟨ρ, h, η, S, re, p⟩ => p ρ H σ (Step.refl _ _) S re
theorem kss_nil : KSs X ca W [] Cd.sNop := PSs.wk pss_nil fun D σ H ⟨ρ, h, η, S, re, p⟩ => p ρ H σ (Step.refl _ _) S re
theorem kss_one (h : KS X ca W st ms) : KSs X ca W [st] ms := pss_one h
theorem kss_cons (h1 : KS X ca W st ms) (h2 : KSs X ca W rest mt) : KSs X ca W (st :: rest) (Cd.sSeq ms mt) := by
  refine PSs.wk (pss_cons h1 h2) fun D σ H ⟨ρ, h, η, S, re, p⟩ => ?_
  exact ⟨ρ, h, η, S, re, postS.seq p fun ρ1 H1 h1 η1 σ1 st1 S1 re1 p1 => ⟨ρ1, h1, η1, S1, re1, p1⟩⟩
theorem ks_expr (he : KE X ca W e me) (hs : swapsWith e none pos.line X.env = pure false := by rfl) : KS X ca W (.Expr e pos) (Cd.sExpr me) := by
  refine PS.wk (ps_expr he hs) fun D σ H ⟨ρ, h, η, S, re, p⟩ => ?_
  exact ⟨ρ, h, η, S, re, postS.first S re p fun ρ1 H1 h1 v x st1 S1 r1 re1 p1 => p1 ρ1 H1 σ (Step.refl _ _) S1 re1⟩
theorem ks_ret (he : KE X ca W e me) : KS X ca W (.Return (some e) pos) (Cd.sRet me) := by
  refine PS.wk (ps_ret he) fun D σ H ⟨ρ, h, η, S, re, p⟩ => ?_
  exact ⟨ρ, h, η, S, re, postS.first S re p fun ρ1 H1 h1 v x st1 S1 r1 re1 p1 => p1 ρ1 H1 x (Step.refl _ _) S1 r1⟩
theorem ks_retN : KS X ca W (.Return none pos) Cd.sRetN := PS.wk ps_retN fun D σ H ⟨ρ, h, η, S, re, p⟩ => p ρ H .non (Step.refl _ _) S .non
theorem ks_if {tc : Cd.TM} {sa sb : List Stmt} (hc : KT X ca W c tc) (ha : KSs X ca W sa ms) (hb : KSs X ca W sb mt) : KS X ca W (.If c sa sb pos) (Cd.sIf tc ms mt) := by
  refine PS.wk (ps_if hc ha hb) fun D σ H ⟨ρ, h, η, S, re, p⟩ => ?_
  refine ⟨ρ, h, η, S, re, postS.first S re p fun ρ1 H1 h1 k x st1 S1 r1 re1 p1 => ?_⟩
  cases (show k = x from r1)
  cases k with
  | true => exact ⟨ρ1, h1, η, S1, re1, p1⟩
  | false => exact ⟨ρ1, h1, η, S1, re1, p1⟩
theorem ks_set (i : Nat) {x : Str} {pos' : Pos} (hN : X.N.Nodup) (he : KE X ca W e me) (hi : X.N[i]? = some x := by rfl) (hx : Loc X.env.scope x := by first | exact Or.inl rfl | exact Or.inr rfl) (hs : swapsWith e (some (.Name x pos')) pos.line X.env = pure false := by rfl)
    (hf : X.fn x = true ∨ X.env.scope.names.lookup x = some .local := by first | exact .inl rfl | exact .inr rfl | assumption) : KS X ca W (.Assign [.Name x pos'] e pos) (Cd.sSet i me) := by
  refine PS.wk (ps_set hN hi hx he hs hf) fun D σ H ⟨ρ, h, η, S, re, p⟩ => ?_
  refine ⟨ρ, h, η, S, re, postS.first S re p fun ρ1 H1 h1 v x st1 S1 r1 re1 p1 => ?_⟩
  exact p1 ρ1 H1 _ (Step.refl _ _) S1 (re1.set r1 i)
/-! ### targets -/
theorem PG.wk {tg : Expr} {t t' : TG} (h : PG X tg t) (k : ∀ v σ H Q, t' v σ H Q → t v σ H Q) : PG X tg t' := ⟨fun pins s σ H v u Q I r hw => h.run pins s σ H v u Q I r (k _ _ _ _ hw)⟩
theorem PGs.wk {ts : List Expr} {t t' : TGs} (h : PGs X ts t) (k : ∀ v σ H Q, t' v σ H Q → t v σ H Q) : PGs X ts t' := ⟨fun pins s σ H v u Q I r hw => h.run pins s σ H v u Q I r (k _ _ _ _ hw)⟩
theorem kg_name (i : Nat) {x : Str} (hN : X.N.Nodup) (hi : X.N[i]? = some x := by rfl) (hx : Loc X.env.scope x := by first | exact Or.inl rfl | exact Or.inr rfl) (hf : X.fn x = true ∨ X.env.scope.names.lookup x = some .local := by first | exact .inl rfl | exact .inr rfl | assumption) :
    KG X (.Name x pos) (Cd.gNam i) := by
  refine PG.wk (pg_name hN hi hx hf) fun v σ H Q ⟨ρ, h, η, d, η', S, re, r, e, k⟩ => ?_
  cases e
  exact k _ (re.set r i)
theorem kgs_nil : KGs X [] Cd.gsNil := by
  refine PGs.wk pgs_nil fun vs σ H Q ⟨ρ, h, η, ds, η', S, re, r, e, k⟩ => ?_
  cases r with
  | nil => cases e; exact ⟨rfl, k _ re⟩
  | cons _ _ => cases e
theorem kgs_cons {t : Expr} {ts : List Expr} {g : Cd.GM} {gs : Cd.GMs} (h1 : KG X t g) (h2 : KGs X ts gs) (hs : (assignEach (t :: ts) X.env).map (·.2) = assign t X.env :: (assignEach ts X.env).map (·.2) := by rfl) : KGs X (t :: ts) (Cd.gsCons g gs) := by
  refine PGs.wk (pgs_cons h1 h2 hs) fun vs σ H Q ⟨ρ, h, η, ds, η', S, re, r, e, k⟩ => ?_
  cases r with
  | nil => cases e
  | @cons d v ds vs r1 r2 =>
    simp only [Cd.gsCons] at e
    cases eg : g d η with
    | none => rw [eg] at e; cases e
    | some η1 =>
      rw [eg] at e
      exact ⟨v, vs, rfl, ρ, h, η, d, η1, S, re, r1, eg, fun σ1 re1 => ⟨ρ, h, η1, ds, η', S, re1, r2, e, k⟩⟩
theorem gs_len : ∀ {ts : List Expr} {gs : Cd.GMs}, (∀ ds η η', gs ds η = some η' → ds.length = ts.length) → True := fun _ => trivial
theorem kg_tup {ts : List Expr} {kk : Nat} {gs : Cd.GMs} {n : Nat} (hc : X.calm = true) (h : KGs X ts gs) (hl : ∀ ds η η', gs ds η = some η' → ds.length = n)
    (hn : (assignEach ts X.env).length = n := by rfl) (hst : (assignEach ts X.env).findIdx? (·.1) = none := by rfl) : KG X (.Tuple ts kk pos) (Cd.gTpl gs) := by
  refine PG.wk (pg_tup hc h hn hst) fun v σ H Q ⟨ρ, h, η, d, η', S, re, r, e, k⟩ => ?_
  cases r with
  | tup q rs =>
    refine ⟨_, _, rfl, q, by rw [← rs.length]; exact hl _ _ _ e, ρ, h, η, _, η', S, re, rs, e, k⟩
  | _ => cases e
theorem gl_nil : ∀ ds η η', Cd.gsNil ds η = some η' → ds.length = 0 := fun ds η η' e => by
  cases ds with
  | nil => rfl
  | cons => cases e
theorem gl_cons {g : Cd.GM} {gs : Cd.GMs} {n : Nat} (h : ∀ ds η η', gs ds η = some η' → ds.length = n) : ∀ ds η η', Cd.gsCons g gs ds η = some η' → ds.length = n + 1 := fun ds η η' e => by
  cases ds with
  | nil => cases e
  | cons d ds =>
    simp only [Cd.gsCons] at e
    cases eg : g d η with
    | none => rw [eg] at e; cases e
    | some η1 => rw [eg] at e; rw [List.length_cons, h _ _ _ e]
theorem ks_asg {tg : Expr} {g : Cd.GM} (he : KE X ca W e me) (hg : KG X tg g) (hs : swapsWithSole [tg] e pos.line X.env = pure false := by rfl) (hw : swappedStores [tg] e X.env = pure none := by rfl) (h1 : (assignEach [tg] X.env).map (·.2) = [assign tg X.env] := by rfl) : KS X ca W (.Assign [tg] e pos) (Cd.sAsg g me) := by
  refine PS.wk (ps_asg he hg hs hw h1) fun D σ H ⟨ρ, h, η, S, re, p⟩ => ?_
  refine ⟨ρ, h, η, S, re, postS.first S re p fun ρ1 H1 h1 v x st1 S1 r1 re1 p1 => ?_⟩
  cases eg : g v η with
  | none => rw [eg] at p1; exact p1.elim
  | some η1 =>
    rw [eg] at p1
    exact ⟨ρ1, h1, η, v, η1, S1, re1, r1, eg, fun σ' re' => p1 ρ1 H1 σ' (Step.refl _ _) S1 re'⟩
/-! ### x op= e -/
theorem ks_aug (i : Nat) {x : Str} {op : Operator} {f : Cd.Hep → Cd.Val → Cd.Val → Option Cd.Val} {r : R2} {pos' : Pos} (ho : OpR X (inplaceOp op) r) (hf : BinF X.K f r) (hN : X.N.Nodup) (he : KE X ca W e me) (hi : X.N[i]? = some x := by rfl) (hx : Loc X.env.scope x := by first | exact Or.inl rfl | exact Or.inr rfl)
    (hff : X.fn x = true ∨ X.env.scope.names.lookup x = some .local := by first | exact .inl rfl | exact .inr rfl | assumption) : KS X ca W (.AugAssign (.Name x pos') op e pos) (Cd.sAug i f me) := by
  refine PS.wk (ps_aug (ti := r) hN hi hx he ho hff) fun D σ H ⟨ρ, h, η, S, re, p⟩ => ?_
  unfold Cd.sAug at p
  split at p
  · rename_i d ed
    obtain ⟨v, e1, r1⟩ := re.at_ i d ed
    refine ⟨v, e1, ρ, h, η, S, re, postS.first S re p fun ρ1 H1 h1 d2 y st1 S1 r2 re1 p1 => ?_⟩
    cases ef : f h1 d d2 with
    | none => rw [ef] at p1; exact p1.elim
    | some z =>
      rw [ef] at p1
      exact hf ρ1 h1 H1 d d2 z v y _ S1 (r1.mono st1 S) r2 ef fun ρ2 H2 w st2 S2 rw2 => p1 ρ2 H2 _ st2 S2 ((re1.mono st2 S1).set rw2 i)
  · exact p.elim
/-! ### while -/
theorem ks_while {tc : Cd.TM} {body : List Stmt} (hp : PassesOwn (model X.prog X.w) X.A X.env X.xe) (hc : KT X ca W c tc) (hb : KSs X ca W body ms) : KS X ca W (.While c body [] pos) (Cd.sWhile tc ms) := by
  refine PS.wk (ps_while hp hc hb) fun D σ H ⟨ρ, h, η, S, re, p⟩ => ?_
  by_cases q : ∃ n, Cd.whileN tc ms n η h ≠ .stuck
  · obtain ⟨n, q⟩ := q
    rw [Cd.sWhile_of q] at p
    refine ⟨fun m σ H => ∃ ρ h η, Sim X.K ρ h H ∧ RE X.K ρ H η σ ∧ postS X.K ca W ρ H (Cd.whileN tc ms m η h) D, ⟨n, ρ, h, η, S, re, p⟩, ?_⟩
    rintro m σ H ⟨ρ, h, η, S, re, p⟩
    cases m with
    | zero => exact p.elim
    | succ m =>
      rw [Cd.whileN] at p
      refine ⟨ρ, h, η, S, re, postS.first S re p fun ρ1 H1 h1 k x st1 S1 r1 re1 p1 => ?_⟩
      cases (show k = x from r1)
      cases k with
      | false => exact p1 ρ1 H1 σ (Step.refl _ _) S1 re1
      | true =>
        refine ⟨fun σ' H' => ∃ ρ h η, Sim X.K ρ h H' ∧ RE X.K ρ H' η σ' ∧ postS X.K ca W ρ H' (Cd.whileN tc ms m η h) D, fun σ' H' w => ⟨m, Nat.lt_succ_self _, w⟩, ρ1, h1, η, S1, re1, ?_⟩
        simp only [if_true] at p1
        cases eb : ms η h1 with
        | nx η' h' => rw [eb] at p1; exact fun ρ2 H2 σ2 st2 S2 re2 => ⟨ρ2, h', η', S2, re2, postS.mono st2 p1⟩
        | cont η' h' => rw [eb] at p1; exact fun ρ2 H2 σ2 st2 S2 re2 => ⟨ρ2, h', η', S2, re2, postS.mono st2 p1⟩
        | brk η' h' => rw [eb] at p1; exact p1
        | ret v h' => rw [eb] at p1; exact p1
        | exc e η' h' => rw [eb] at p1; exact p1
        | stuck => rw [eb] at p1; exact p1
  · rw [Cd.sWhile_stuck q] at p
    exact p.elim
/-! ### for -/
/-- an iterator that yields the items while chk holds -/
structure ItF (K : PySem.W.Frag) (J : It) (ds : List Cd.Val) (chk : Cd.Hep → Bool) (ρ0 : List Addr) (H0 : Hp) : Prop where
  go : ∀ ρ H h i, Step ρ0 H0 ρ H → Sim K ρ h H → chk h = true → i < ds.length → J.go i H
  stop : ∀ ρ H h i, Step ρ0 H0 ρ H → Sim K ρ h H → chk h = true → i = ds.length → J.stop i H
  yld : ∀ ρ H h i d x H', Step ρ0 H0 ρ H → Sim K ρ h H → chk h = true → ds[i]? = some d → J.yld i H x H' → Step ρ H ρ H' ∧ Sim K ρ h H' ∧ RV K ρ H' d x
def tI (K : PySem.W.Frag) (ca : String → Value) (W : WX) (m : Cd.IM) : TI := fun σ H R => ∃ ρ h η, Sim K ρ h H ∧ RE K ρ H η σ ∧
  match m η h with
  | .ok p h' => ∀ ρ' H' J, Step ρ H ρ' H' → Sim K ρ' h' H' → ItF K J p.1 p.2 ρ' H' → R J H'
  | .exc e h' => ∀ ρ' H' cls d, Step ρ H ρ' H' → Sim K ρ' h' H' → RX K ca ρ' H' e cls d → W cls d σ H'
  | .stuck => False
abbrev KI (X : Cx) (ca : String → Value) (W : WX) (tg iter : Expr) (m : Cd.IM) : Prop := PI X tg iter (tI X.K ca W m)
theorem forL_post {K : PySem.W.Frag} {g : Cd.GM} {gt : TG} {tb : TS} (hg : ∀ v σ H Q, tG K g v σ H Q → gt v σ H Q) (hb : ∀ D σ H, tS K ca W ms D σ H → tb D σ H) {J : It} {ds : List Cd.Val} {chk : Cd.Hep → Bool} {ρ0 : List Addr} {H0 : Hp} {h0 : Cd.Hep} {η0 : Cd.Env} {σ0 : L2.St} {D : Ends}
    (F : ItF K J ds chk ρ0 H0) (S : Sim K ρ0 h0 H0) (re : RE K ρ0 H0 η0 σ0) (p : postS K ca W ρ0 H0 (Cd.forL g chk ms ds η0 h0) D) :
    ∃ Wv : Nat → Nat → L2.St → Hp → Prop, (∃ m, Wv 0 m σ0 H0) ∧ ∀ i m σ H, Wv i m σ H →
      (J.stop i H ∧ D.nx σ H) ∨ (J.go i H ∧ ∃ N : L2.St → Hp → Prop, (∀ σ' H', N σ' H' → ∃ m', m' < m ∧ Wv (i + 1) m' σ' H') ∧ ∀ x H', J.yld i H x H' → gt x σ H' fun σ2 H2 => tb { D with nx := N, ct := N, bk := D.nx } σ2 H2) := by
  refine ⟨fun i m σ H => (m + i = ds.length + 1 ∧ i ≤ ds.length) ∧ ∃ ρ h η, Step ρ0 H0 ρ H ∧ Sim K ρ h H ∧ RE K ρ H η σ ∧ postS K ca W ρ H (Cd.forL g chk ms (ds.drop i) η h) D, ⟨ds.length + 1, ⟨rfl, Nat.zero_le _⟩, ρ0, h0, η0, Step.refl _ _, S, re, p⟩, ?_⟩
  rintro i m σ H ⟨⟨em, eil⟩, ρ, h, η, st, S, re, p⟩
  by_cases hi : i < ds.length
  · rw [List.drop_eq_getElem_cons hi, Cd.forL] at p
    split at p
    · rename_i hc
      refine .inr ⟨F.go ρ H h i st S hc hi, fun σ' H' => ∃ ρ h η, Step ρ0 H0 ρ H' ∧ Sim K ρ h H' ∧ RE K ρ H' η σ' ∧ postS K ca W ρ H' (Cd.forL g chk ms (ds.drop (i + 1)) η h) D, fun σ' H' w => ⟨m - 1, by omega, ⟨by omega, by omega⟩, w⟩, fun x H' y => ?_⟩
      obtain ⟨st1, S1, r1⟩ := F.yld ρ H h i ds[i] x H' st S hc (List.getElem?_eq_getElem hi) y
      cases eg : g ds[i] η with
      | none => rw [eg] at p; exact p.elim
      | some η1 =>
        rw [eg] at p
        simp only at p
        refine hg _ _ _ _ ⟨ρ, h, η, ds[i], η1, S1, re.mono st1 S, r1, eg, fun σ2 re2 => hb _ _ _ ⟨ρ, h, η1, S1, re2, ?_⟩⟩
        have p := postS.mono st1 p
        cases eb : ms η1 h with
        | nx η' h' => rw [eb] at p; exact fun ρ2 H2 σ3 st2 S2 re3 => ⟨ρ2, h', η', st.trans (st1.trans st2), S2, re3, postS.mono st2 p⟩
        | cont η' h' => rw [eb] at p; exact fun ρ2 H2 σ3 st2 S2 re3 => ⟨ρ2, h', η', st.trans (st1.trans st2), S2, re3, postS.mono st2 p⟩
        | brk η' h' => rw [eb] at p; exact p
        | ret v h' => rw [eb] at p; exact p
        | exc e η' h' => rw [eb] at p; exact p
        | stuck => rw [eb] at p; exact p
    · exact p.elim
  · rw [List.drop_eq_nil_of_le (by omega), Cd.forL] at p
    split at p
    · rename_i hc
      exact .inl ⟨F.stop ρ H h i st S hc (by omega), p ρ H σ (Step.refl _ _) S re⟩
    · exact p.elim
theorem ks_for {tg iter : Expr} {body : List Stmt} {mi : Cd.IM} {g : Cd.GM} (hp : PassesOwn (model X.prog X.w) X.A X.env X.xe) (hc : X.calm = true) (hi : KI X ca W tg iter mi) (hg : KG X tg g) (hb : KSs X ca W body ms)
    (hs : ∀ x, foldedSetIterable iter X.env x = pure x := by intro _; rfl) : KS X ca W (.For tg iter body [] pos) (Cd.sFor mi g ms) := by
  refine PS.wk (ps_for hp hc hi hg hb hs) fun D σ H ⟨ρ, h, η, S, re, p⟩ => ?_
  refine ⟨ρ, h, η, S, re, ?_⟩
  unfold Cd.sFor at p
  cases em : mi η h with
  | ok q h' =>
    rw [em] at p
    exact fun ρ' H' J st S' F => forL_post (fun _ _ _ _ x => x) (fun _ _ _ x => x) F S' (re.mono st S) (postS.mono st p)
  | exc e h' =>
    rw [em] at p
    exact fun ρ' H' cls d st S' q => p ρ' H' cls d σ st S' (re.mono st S) q
  | stuck => rw [em] at p; exact p.elim
theorem PI.wk {tg iter : Expr} {t t' : TI} (h : PI X tg iter t) (k : ∀ σ H R, t' σ H R → t σ H R) : PI X tg iter t' := ⟨fun pins s σ H R I hw => h.run pins s σ H R I (k _ _ _ hw)⟩
theorem PI.or {tg iter : Expr} {t t' : TI} (h : PI X tg iter t) (h' : PI X tg iter t') : PI X tg iter (fun σ H R => t σ H R ∨ t' σ H R) := ⟨fun pins s σ H R I hw => by
  rcases hw with hw | hw
  · exact h.run pins s σ H R I hw
  · exact h'.run pins s σ H R I hw⟩
theorem SqL.inj' {K : PySem.W.Frag} {H : Hp} {a : Addr} {xs ys : List V} (h : FzL K H a xs) (n : ∀ vs, H a = some (.lst vs) → False) (h' : SqL K H a ys) : True := trivial
theorem itf_tup {K : PySem.W.Frag} {ρ : List Addr} {H : Hp} {h : Cd.Hep} {a : Addr} {ds : List Cd.Val} {vs : List V} (S : Sim K ρ h H) (q : SqT K H a vs) (r : RVs K ρ H ds vs) : ItF K (Itt K a) ds (fun _ => true) ρ H where
  go := fun ρ1 H1 h1 i st S1 _ hi => ⟨vs, vs[i]'(by rw [← r.length]; exact hi), st.sqT S q, List.getElem?_eq_getElem _⟩
  stop := fun ρ1 H1 h1 i st S1 _ hi => ⟨vs, st.sqT S q, by rw [← r.length]; omega⟩
  yld := fun ρ1 H1 h1 i d x H' st S1 _ hd y => by
    obtain ⟨rfl, y⟩ := y
    obtain ⟨v, e1, e2⟩ := r.get hd
    have := y vs (st.sqT S q)
    rw [e1] at this; cases this
    exact ⟨Step.refl _ _, S1, e2.mono st S⟩
theorem itf_fl {K : PySem.W.Frag} {ρ : List Addr} {H : Hp} {h : Cd.Hep} {a : Addr} {ds : List Cd.Val} {vs : List V} (S : Sim K ρ h H) (q : FzL K H a vs) (r : RVs K ρ H ds vs) : ItF K (Itl K a) ds (fun _ => true) ρ H where
  go := fun ρ1 H1 h1 i st S1 _ hi => ⟨vs, vs[i]'(by rw [← r.length]; exact hi), (st.fzL S q).sq, List.getElem?_eq_getElem _⟩
  stop := fun ρ1 H1 h1 i st S1 _ hi => ⟨vs, (st.fzL S q).sq, by rw [← r.length]; omega⟩
  yld := fun ρ1 H1 h1 i d x H' st S1 _ hd y => by
    obtain ⟨rfl, y⟩ := y
    obtain ⟨v, e1, e2⟩ := r.get hd
    have := y vs (st.fzL S q).sq
    rw [e1] at this; cases this
    exact ⟨Step.refl _ _, S1, e2.mono st S⟩
theorem itf_lst {K : PySem.W.Frag} {ρ : List Addr} {H : Hp} {a : Addr} {n : Nat} {ds : List Cd.Val} (q : ρ[n]? = some a) (chk : Cd.Hep → Bool) (hc : ∀ h', chk h' = true → h'[n]? = some (.lst ds)) : ItF K (Itl K a) ds chk ρ H where
  go := fun ρ1 H1 h1 i st S1 c hi => by
    obtain ⟨vs, e1, r⟩ := S1.obj n _ a (hc h1 c) (st.ix q)
    exact ⟨vs, vs[i]'(by rw [← r.length]; exact hi), SqL.of e1, List.getElem?_eq_getElem _⟩
  stop := fun ρ1 H1 h1 i st S1 c hi => by
    obtain ⟨vs, e1, r⟩ := S1.obj n _ a (hc h1 c) (st.ix q)
    exact ⟨vs, SqL.of e1, by rw [← r.length]; omega⟩
  yld := fun ρ1 H1 h1 i d x H' st S1 c hd y => by
    obtain ⟨rfl, y⟩ := y
    obtain ⟨vs, e1, r⟩ := S1.obj n _ a (hc h1 c) (st.ix q)
    obtain ⟨v, e2, e3⟩ := r.get hd
    have := y vs (SqL.of e1)
    rw [e2] at this; cases this
    exact ⟨Step.refl _ _, S1, e3⟩
theorem itf_str {K : PySem.W.Frag} {ρ : List Addr} {H : Hp} (s : List Nat) : ItF K (Its (toS s)) (s.map fun c => .str [c]) (fun _ => true) ρ H where
  go := fun ρ1 H1 h1 i st S1 _ hi => by rw [List.length_map] at hi; exact hi
  stop := fun ρ1 H1 h1 i st S1 _ hi => by rw [List.length_map] at hi; exact Nat.le_of_eq hi.symm
  yld := fun ρ1 H1 h1 i d x H' st S1 _ hd y => by
    obtain ⟨rfl, c, e1, rfl⟩ := y
    have e2 : s[i]? = some c := by
      have : (toS s).cps[i]? = s[i]? := by simp [toS]
      rw [← this]; exact e1
    rw [List.getElem?_map, e2] at hd
    cases hd
    exact ⟨Step.refl _ _, S1, .str [c]⟩
theorem itf_rng {K : PySem.W.Frag} {ρ : List Addr} {H : Hp} (lo : Int) (n : Nat) : ItF K (Itr lo n) (Cd.rng lo n) (fun _ => true) ρ H where
  go := fun ρ1 H1 h1 i st S1 _ hi => by
    have : i < n := by simpa [Cd.rng] using hi
    exact this
  stop := fun ρ1 H1 h1 i st S1 _ hi => by
    have : i = n := by simpa [Cd.rng] using hi
    exact Nat.le_of_eq this.symm
  yld := fun ρ1 H1 h1 i d x H' st S1 _ hd y => by
    obtain ⟨rfl, rfl⟩ := y
    have hi : i < n := by
      have := (List.getElem?_eq_some_iff.mp hd).1
      simpa [Cd.rng] using this
    unfold Cd.rng at hd
    rw [List.getElem?_map, List.getElem?_range hi] at hd
    cases hd
    exact ⟨Step.refl _ _, S1, .int _⟩
theorem ki_val {tg : Expr} (he : KE X ca W e me) : KI X ca W tg e (Cd.iVal me) := by
  refine PI.wk (PI.or (pi_tup he) (PI.or (pi_list he) (pi_str he))) fun σ H R ⟨ρ, h, η, S, re, p⟩ => ?_
  unfold Cd.iVal at p
  cases em : me η h with
  | stuck => rw [em] at p; exact p.elim
  | exc e h' => rw [em] at p; exact .inl ⟨ρ, h, η, S, re, by rw [em]; exact p⟩
  | ok v h' =>
    rw [em] at p
    simp only [Cd.Res.bind_ok] at p
    cases ei : Cd.items h' v with
    | none => rw [ei] at p; exact p.elim
    | some q =>
      rw [ei] at p
      simp only [Cd.ofO_some] at p
      unfold Cd.items at ei
      split at ei
      · cases ei
        refine .inl ⟨ρ, h, η, S, re, ?_⟩
        rw [em]
        intro ρ1 H1 x st1 S1 r1
        cases r1 with
        | tup q1 rs => exact ⟨_, rfl, ⟨_, q1⟩, p ρ1 H1 _ st1 S1 (itf_tup S1 q1 rs)⟩
      · cases ei
        refine .inr (.inl ⟨ρ, h, η, S, re, ?_⟩)
        rw [em]
        intro ρ1 H1 x st1 S1 r1
        cases r1 with
        | fl q1 rs => exact ⟨_, rfl, ⟨_, q1.sq⟩, p ρ1 H1 _ st1 S1 (itf_fl S1 q1 rs)⟩
      · cases ei
        refine .inr (.inr ⟨ρ, h, η, S, re, ?_⟩)
        rw [em]
        intro ρ1 H1 x st1 S1 r1
        cases r1
        exact ⟨_, rfl, p ρ1 H1 _ st1 S1 (itf_str _)⟩
      · split at ei
        · rename_i l hl
          cases ei
          refine .inr (.inl ⟨ρ, h, η, S, re, ?_⟩)
          rw [em]
          intro ρ1 H1 x st1 S1 r1
          cases r1 with
          | ref q1 =>
            obtain ⟨vs, e1, rs⟩ := S1.obj _ _ _ hl q1
            exact ⟨_, rfl, ⟨vs, SqL.of e1⟩, p ρ1 H1 _ st1 S1 (itf_lst q1 _ fun h' c => @of_decide_eq_true _ (Classical.propDecidable _) c)⟩
        · cases ei
      · cases ei
theorem tI_args {f : Cd.Hep → List Cd.Val → Option (List Cd.Val × (Cd.Hep → Bool))} {mas : Cd.AM} {σ : L2.St} {H : Hp} {R : It → Hp → Prop} {C : List V → Hp → Prop} (p : tI X.K ca W (Cd.iArgs f mas) σ H R)
    (c : ∀ ρ1 H1 h1 ds xs q, Sim X.K ρ1 h1 H1 → RVs X.K ρ1 H1 ds xs → f h1 ds = some q → (∀ ρ' H' J, Step ρ1 H1 ρ' H' → Sim X.K ρ' h1 H' → ItF X.K J q.1 q.2 ρ' H' → R J H') → C xs H1) : tA X.K ca W mas σ H C := by
  obtain ⟨ρ, h, η, S, re, p⟩ := p
  refine ⟨ρ, h, η, S, re, ?_⟩
  unfold Cd.iArgs at p
  cases em : mas η h with
  | stuck => rw [em] at p; exact p.elim
  | exc e h' => rw [em] at p; exact p
  | ok v h' =>
    rw [em] at p
    simp only [Cd.Res.bind_ok] at p
    intro ρ1 H1 xs st1 S1 r1
    cases ef : f h' v with
    | none => rw [ef] at p; exact p.elim
    | some q =>
      rw [ef] at p
      exact c ρ1 H1 h' v xs q S1 r1 ef fun ρ' H' J st' S' F => p ρ' H' J (st1.trans st') S' F
theorem ki_rng1 {tg : Expr} {p : Pos} {mas : Cd.AM} (hm : X.mg "range" = none) (ha : KA X ca W [a] mas) (hg : Gl X "range" := by rfl) (hs : starEach [a] X.env = [(false, eval a X.env)] := by rfl) : KI X ca W tg (.Call (.Name "range" p) [a] [] pos) (Cd.iArgs Cd.fRng1 mas) := by
  refine PI.wk (pi_range1 hg hm ha hs) fun σ H R p => tI_args p fun ρ1 H1 h1 ds xs q S1 r1 ef k => ?_
  unfold Cd.fRng1 at ef
  split at ef
  · rename_i j
    split at ef
    · rename_i hj
      cases ef
      cases r1 with
      | cons r2 r3 =>
        cases r2; cases r3
        exact ⟨j, rfl, hj.1, hj.2, k ρ1 H1 _ (Step.refl _ _) S1 (itf_rng 0 _)⟩
    · cases ef
  · cases ef
theorem ki_rng2 {tg : Expr} {p : Pos} {mas : Cd.AM} (hm : X.mg "range" = none) (ha : KA X ca W [a, b] mas) (hg : Gl X "range" := by rfl) (hs : starEach [a, b] X.env = [(false, eval a X.env), (false, eval b X.env)] := by rfl) (hs2 : starEach [b] X.env = [(false, eval b X.env)] := by rfl) :
    KI X ca W tg (.Call (.Name "range" p) [a, b] [] pos) (Cd.iArgs Cd.fRng2 mas) := by
  refine PI.wk (pi_range2 hg hm ha hs hs2) fun σ H R p => tI_args p fun ρ1 H1 h1 ds xs q S1 r1 ef k => ?_
  unfold Cd.fRng2 at ef
  split at ef
  · rename_i i j
    split at ef
    · rename_i hj
      cases ef
      cases r1 with
      | cons r2 r3 =>
        cases r2
        cases r3 with
        | cons r4 r5 =>
          cases r4; cases r5
          exact ⟨i, j, rfl, ⟨hj.1.1, hj.1.2, hj.2.1, hj.2.2⟩, k ρ1 H1 _ (Step.refl _ _) S1 (itf_rng i _)⟩
    · cases ef
  · cases ef

/-! ### calls -/
/-- the promise of a def whose reading is F, of n parameters -/
def spF (K : PySem.W.Frag) (ca : String → Value) (n : Nat) (F : Cd.Fn) : Sp := fun vs H Q E => vs.length = n ∧ ∃ ρ h ds, Sim K ρ h H ∧ RVs K ρ H ds vs ∧
  match F ds h with
  | .ok v h' => ∀ ρ' H' x, Step ρ H ρ' H' → Sim K ρ' h' H' → RV K ρ' H' v x → Q x H'
  | .exc e h' => ∀ ρ' H' cls d, Step ρ H ρ' H' → Sim K ρ' h' H' → RX K ca ρ' H' e cls d → E cls d H'
  | .stuck => False
theorem k_call {k n : Nat} {f : Addr} {fd : FuncData} {ps : List Str} {F : Cd.Fn} {x : Str} {p : Pos} {es : List Expr} {mas : Cd.AM} (G : FnOk X.prog X.w X.K X.mg X.base (L2.CX X.prog X.w) k f fd ps (spF X.K ca n F)) (tk : Takes X W) (hr : Room k X.A) (hg : Gl X x) (hm : X.mg x = some (.ref f))
    (hk : PySem.W.keepIn X.K (.ref f) = true) (hb : Binds X.K fd ps []) (hn : n = (e :: es).length) (ha : KA X ca W (e :: es) mas) (hal : ∀ η h vs h', mas η h = .ok vs h' → vs.length = (e :: es).length) (hdb : (x == ("__debug__" : Str)) = false := by decide)
    (he : starEach (e :: es) X.env = (false, eval e X.env) :: starEach es X.env := by rfl) (hpl : (backTo pos (starEach es X.env)).any (·.1) = false := by rfl) : KE X ca W (.Call (.Name x p) (e :: es) [] pos) (Cd.eCall F mas) := by
  refine PE.wk (pe_callS G hr hg hm hk hb (fun σ => passAt tk σ) ha hdb he hpl) fun σ H Q ⟨ρ, h, η, S, re, p⟩ => ?_
  refine ⟨ρ, h, η, S, re, ?_⟩
  unfold Cd.eCall at p
  cases em : mas η h with
  | stuck => rw [em] at p; exact p.elim
  | exc e h' => rw [em] at p; exact p
  | ok ds h1 =>
    rw [em] at p
    simp only [Cd.Res.bind_ok] at p
    intro ρ1 H1 xs st1 S1 r1
    refine ⟨by rw [← r1.length, hal _ _ _ _ em, hn], ρ1, h1, ds, S1, r1, ?_⟩
    cases eF : F ds h1 with
    | stuck => rw [eF] at p; exact p.elim
    | ok v h2 => rw [eF] at p; exact fun ρ2 H2 x st2 S2 r2 => p ρ2 H2 x (st1.trans st2) S2 r2
    | exc ex h2 => rw [eF] at p; exact fun ρ2 H2 cls d st2 S2 r2 => p ρ2 H2 cls d (st1.trans st2) S2 r2
theorem al_nil : ∀ η h vs h', Cd.aNil η h = .ok vs h' → vs.length = 0 := fun η h vs h' e => by cases e; rfl
theorem al_cons {m : Cd.EM} {r : Cd.AM} {n : Nat} (hr : ∀ η h vs h', r η h = .ok vs h' → vs.length = n) : ∀ η h vs h', Cd.aCons m r η h = .ok vs h' → vs.length = n + 1 := fun η h vs h' e => by
  unfold Cd.aCons at e
  cases em : m η h with
  | stuck => rw [em] at e; cases e
  | exc _ _ => rw [em] at e; cases e
  | ok v h1 =>
    rw [em] at e
    simp only [Cd.Res.bind_ok] at e
    cases er : r η h1 with
    | stuck => rw [er] at e; cases e
    | exc _ _ => rw [er] at e; cases e
    | ok vs1 h2 =>
      rw [er] at e
      cases e
      rw [List.length_cons, hr _ _ _ _ er]
/-- a built-in function -/
def BFnF (K : PySem.W.Frag) (F : Cd.BFn) (r : List V → Hp → VK → Prop) : Prop := ∀ (ρ : List Addr) (h h' : Cd.Hep) (H : Hp) (ds : List Cd.Val) (u : Cd.Val) (xs : List V) (Q : VK), Sim K ρ h H → RVs K ρ H ds xs → F ds h = some (u, h') →
  (∀ ρ' H' w, Step ρ H ρ' H' → Sim K ρ' h' H' → RV K ρ' H' u w → Q w H') → r xs H Q
theorem tCB_of {F : Cd.BFn} {r : List V → Hp → VK → Prop} {mas : Cd.AM} (hf : BFnF X.K F r) : ∀ σ H Q, tE X.K ca W (Cd.eCallB F mas) σ H Q → tCB r (tA X.K ca W mas) σ H Q := by
  rintro σ H Q ⟨ρ, h, η, S, re, p⟩
  refine ⟨ρ, h, η, S, re, postG.first p fun ρ1 H1 h1 ds xs st1 S1 r1 p1 => ?_⟩
  cases e : F ds h1 with
  | none => rw [e] at p1; exact p1.elim
  | some q =>
    obtain ⟨u, h2⟩ := q
    rw [e] at p1
    exact hf ρ1 h1 h2 H1 ds u xs Q S1 r1 e p1
theorem k_callB {id : String} {F : Cd.BFn} {r : List V → Hp → VK → Prop} {x : Str} {p : Pos} {es : List Expr} {mas : Cd.AM} (hc : CallR X (.builtin id) r) (hf : BFnF X.K F r) (hm : X.mg x = none) (ha : KA X ca W (e :: es) mas) (hg : Gl X x := by rfl) (hv : bootBuiltins x = some (.builtin id) := by decide +kernel) (hn : x ≠ "__name__" := by decide) (hdb : (x == ("__debug__" : Str)) = false := by decide)
    (he : starEach (e :: es) X.env = (false, eval e X.env) :: starEach es X.env := by rfl) (hpl : (backTo pos (starEach es X.env)).any (·.1) = false := by rfl) : KE X ca W (.Call (.Name x p) (e :: es) [] pos) (Cd.eCallB F mas) :=
  PE.wk (pe_callB hc hg hm hv ha hn hdb he hpl) (tCB_of hf)
theorem k_callTy {T : String} {F : Cd.BFn} {r : List V → Hp → VK → Prop} {x : Str} {p : Pos} {es : List Expr} {mas : Cd.AM} (hc : CallR X (.type T) r) (hf : BFnF X.K F r) (hm : X.mg x = none) (ha : KA X ca W (e :: es) mas) (hg : Gl X x := by rfl) (hv : bootBuiltins x = some (.type T) := by decide +kernel) (hn : x ≠ "__name__" := by decide) (hdb : (x == ("__debug__" : Str)) = false := by decide)
    (he : starEach (e :: es) X.env = (false, eval e X.env) :: starEach es X.env := by rfl) (hpl : (backTo pos (starEach es X.env)).any (·.1) = false := by rfl) : KE X ca W (.Call (.Name x p) (e :: es) [] pos) (Cd.eCallB F mas) :=
  PE.wk (pe_callTy hc hg hm hv ha hn hdb he hpl) (tCB_of hf)
end

/-! ### a def -/
section
variable {P : Program} {w : World} {K : PySem.W.Frag} {mg : Str → Option Value} {base : Heap} {ca : String → Value}
/-- the wish of a def's body: what is raised goes out -/
abbrev WD (E : XK) : WX := fun cls d _ H => E cls d H
theorem re_start {ρ : List Addr} {H : Hp} {ds : List Cd.Val} {vs : List V} {N : List Str} (r : RVs K ρ H ds vs) : RE K ρ H (ds.map some ++ List.replicate (N.length - ds.length) none) (L2.start N vs) := by
  refine ⟨?_, fun i d e => ?_⟩
  · unfold L2.start
    simp only [List.length_append, List.length_map, List.length_replicate, r.length]
  · unfold L2.start
    by_cases hi : i < ds.length
    · rw [List.getElem?_append_left (by simpa using hi), List.getElem?_map] at e
      cases ed : ds[i]? with
      | none => rw [ed] at e; cases e
      | some d' =>
        rw [ed] at e
        cases e
        obtain ⟨v, e1, e2⟩ := r.get ed
        refine ⟨v, ?_, e2⟩
        rw [List.getElem?_append_left (by rw [List.length_map, ← r.length]; exact hi), List.getElem?_map, e1]
        rfl
    · rw [List.getElem?_append_right (by simpa using hi)] at e
      have := List.mem_of_getElem? e
      rw [List.mem_replicate] at this
      cases this.2
theorem k_def {x qual : Str} {st : Stmt} {f : Addr} {fd : FuncData} {N ps : List Str} {k : Nat} {body : Cd.SM} (F : Fun K x qual st f fd) (S : FnScope N ps (defScope st))
    (hb : ∀ (cdv : Value) (A : Around) (outer : List Env) (s : Shared) (H : Hp) (E : XK), Room k (A.deeper (envOfC qual (defScope st) s.heap.objs.size f cdv)) →
      Takes (cxOf (L2.CX P w) P w K mg base N qual (defScope st) f cdv A outer s H E) (WD E) →
      PassesOwn (model P w) (cxOf (L2.CX P w) P w K mg base N qual (defScope st) f cdv A outer s H E).A (cxOf (L2.CX P w) P w K mg base N qual (defScope st) f cdv A outer s H E).env (cxOf (L2.CX P w) P w K mg base N qual (defScope st) f cdv A outer s H E).xe →
      KSs (cxOf (L2.CX P w) P w K mg base N qual (defScope st) f cdv A outer s H E) ca (WD E) (defBody st) body) :
    FnOk P w K mg base (L2.CX P w) (k + 1) f fd ps (spF K ca ps.length (Cd.fn ps.length N.length body)) := by
  refine F.okX S (fun vs H Q E h => h.1) (fun cdv A outer s H vs Q E hr h => ?_)
  obtain ⟨hl, ρ, h0, ds, Si, r, p⟩ := h
  have tk : Takes (cxOf (L2.CX P w) P w K mg base N qual (defScope st) f cdv A outer s H E) (WD E) := takes_of rfl rfl rfl rfl
  refine ⟨_, hb cdv A outer s H E hr tk (passes_of rfl), ρ, h0, _, Si, re_start (N := N) r, ?_⟩
  unfold Cd.fn at p
  rw [if_pos (by rw [r.length, hl])] at p
  have el : ds.length = ps.length := by rw [r.length, hl]
  rw [← el] at p
  cases eb : body (ds.map some ++ List.replicate (N.length - ds.length) none) h0 with
  | nx η' h' => rw [eb] at p; exact fun ρ' H' σ' st S' _ => p ρ' H' .non st S' .non
  | ret v h' => rw [eb] at p; exact p
  | exc e η' h' => rw [eb] at p; exact fun ρ' H' cls d σ' st S' _ q => p ρ' H' cls d st S' q
  | brk _ _ => rw [eb] at p; exact p.elim
  | cont _ _ => rw [eb] at p; exact p.elim
  | stuck => rw [eb] at p; exact p.elim
end
end Cb

set_option Elab.async false
set_option linter.all false
set_option maxRecDepth 100000
set_option maxHeartbeats 4000000
/-! CdB5: the bridge: built-in functions. -/
namespace Cb
open PySem PySem.Spec PyProof.Rows L2
section
variable {X : Cx} {K : PySem.W.Frag} {ca : String → Value} {W : WX}
theorem one_rv {ρ : List Addr} {H : Hp} {d : Cd.Val} {xs : List V} (r : RVs K ρ H [d] xs) : ∃ x, xs = [x] ∧ RV K ρ H d x := by
  cases r with
  | cons a b => cases b; exact ⟨_, rfl, a⟩
theorem two_rv {ρ : List Addr} {H : Hp} {d e : Cd.Val} {xs : List V} (r : RVs K ρ H [d, e] xs) : ∃ x y, xs = [x, y] ∧ RV K ρ H d x ∧ RV K ρ H e y := by
  cases r with
  | cons a b => obtain ⟨y, rfl, q⟩ := one_rv b; exact ⟨_, y, rfl, a, q⟩
/-- a list or tuple by its reading -/
theorem seq_of {ρ : List Addr} {h : Cd.Hep} {H : Hp} {d : Cd.Val} {x : V} {l : List Cd.Val} (S : Sim K ρ h H) (r : RV K ρ H d x) (e : Cd.itsL h d = some l) : ∃ a vs, x = .ref a ∧ SqL K H a vs ∧ RVs K ρ H l vs := by
  cases r with
  | fl q rs => cases e; exact ⟨_, _, rfl, q.sq, rs⟩
  | ref q =>
    simp only [Cd.itsL] at e
    split at e
    · rename_i m hl
      cases e
      obtain ⟨vs, e1, rs⟩ := S.obj _ _ _ hl q
      exact ⟨_, vs, rfl, SqL.of e1, rs⟩
    · cases e
  | _ => cases e
theorem bf_len : BFnF K Cd.bLen (fun xs H Q => ∃ x n, xs = [x] ∧ LenV K x H n ∧ Q (.int n) H) := by
  intro ρ h h' H ds u xs Q S r e k
  unfold Cd.bLen at e
  split at e
  · split at e
    · rename_i s hl
      cases e
      obtain ⟨x, rfl, r0⟩ := one_rv r
      cases r0
      rw [line_eq] at hl
      exact ⟨_, s.length, rfl, (⟨hl, rfl⟩ : _ ∧ _), k ρ H _ (Step.refl _ _) S (.int _)⟩
    · cases e
  · cases e
    obtain ⟨x, rfl, r0⟩ := one_rv r
    cases r0 with
    | tup q rs => exact ⟨_, _, rfl, .inr ⟨_, q, rfl⟩, k ρ H _ (Step.refl _ _) S (by rw [rs.length]; exact .int _)⟩
  · cases e
    obtain ⟨x, rfl, r0⟩ := one_rv r
    cases r0 with
    | fl q rs => exact ⟨_, _, rfl, .inl ⟨_, q.sq, rfl⟩, k ρ H _ (Step.refl _ _) S (by rw [rs.length]; exact .int _)⟩
  · split at e
    · rename_i l hl
      cases e
      obtain ⟨x, rfl, r0⟩ := one_rv r
      cases r0 with
      | ref q =>
        obtain ⟨vs, e1, rs⟩ := S.obj _ _ _ hl q
        exact ⟨_, _, rfl, .inl ⟨_, SqL.of e1, rfl⟩, k ρ H _ (Step.refl _ _) S (by rw [rs.length]; exact .int _)⟩
    · cases e
  · cases e
theorem bf_abs : BFnF K Cd.bAbs (fun xs H Q => ∃ i, xs = [.int i] ∧ Q (.int (if i < 0 then -i else i)) H) := by
  intro ρ h h' H ds u xs Q S r e k
  unfold Cd.bAbs at e
  split at e
  · cases e
    obtain ⟨x, rfl, r0⟩ := one_rv r
    cases r0
    exact ⟨_, rfl, k ρ H _ (Step.refl _ _) S (.int _)⟩
  · cases e
theorem bf_max2 : BFnF K Cd.bMax2 (fun xs H Q => ∃ i j, xs = [.int i, .int j] ∧ Q (.int (if j > i then j else i)) H) := by
  intro ρ h h' H ds u xs Q S r e k
  unfold Cd.bMax2 at e
  split at e
  · cases e
    obtain ⟨x, y, rfl, r0, r2⟩ := two_rv r
    cases r0; cases r2
    exact ⟨_, _, rfl, k ρ H _ (Step.refl _ _) S (.int _)⟩
  · cases e
theorem bf_min2 : BFnF K Cd.bMin2 (fun xs H Q => ∃ i j, xs = [.int i, .int j] ∧ Q (.int (if j < i then j else i)) H) := by
  intro ρ h h' H ds u xs Q S r e k
  unfold Cd.bMin2 at e
  split at e
  · cases e
    obtain ⟨x, y, rfl, r0, r2⟩ := two_rv r
    cases r0; cases r2
    exact ⟨_, _, rfl, k ρ H _ (Step.refl _ _) S (.int _)⟩
  · cases e
theorem bf_int : BFnF K Cd.bInt (fun xs H Q => (∃ i, xs = [.int i] ∧ Q (.int i) H) ∨ ∃ k, xs = [.bl k] ∧ Q (.int (if k then 1 else 0)) H) := by
  intro ρ h h' H ds u xs Q S r e k
  unfold Cd.bInt at e
  split at e
  · cases e
    obtain ⟨x, rfl, r0⟩ := one_rv r
    cases r0
    exact .inl ⟨_, rfl, k ρ H _ (Step.refl _ _) S (.int _)⟩
  · cases e
    obtain ⟨x, rfl, r0⟩ := one_rv r
    cases r0
    exact .inr ⟨_, rfl, k ρ H _ (Step.refl _ _) S (.int _)⟩
  · cases e
theorem lay_k {ρ : List Addr} {h : Cd.Hep} {H : Hp} {ds : List Cd.Val} {vs : List V} {Q : VK} (S : Sim K ρ h H) (rs : RVs K ρ H ds vs) (k : ∀ ρ' H' w, Step ρ H ρ' H' → Sim K ρ' (h ++ [.lst ds]) H' → RV K ρ' H' (.ref h.length) w → Q w H') :
    ∀ l, H l = none → Q (.ref l) (upd H l (.lst vs)) := fun l nl => by
  have st := Step.lay (ρ := ρ) l (.lst vs) nl
  exact k _ _ _ st (S.lay nl ⟨vs, upd_same, rs.mono st S⟩) (.ref (by rw [← S.len, List.getElem?_append_right (Nat.le_refl _), Nat.sub_self]; rfl))
theorem bf_list : BFnF K Cd.bList (fun xs H Q => ∃ p ys, xs = [.ref p] ∧ (SqL K H p ys ∨ SqT K H p ys) ∧ ∀ l, H l = none → Q (.ref l) (upd H l (.lst ys))) := by
  intro ρ h h' H ds u xs Q S r e k
  unfold Cd.bList at e
  split at e
  · cases e
    obtain ⟨x, rfl, r0⟩ := one_rv r
    cases r0 with
    | tup q rs => exact ⟨_, _, rfl, .inr q, lay_k S rs k⟩
  · cases e
    obtain ⟨x, rfl, r0⟩ := one_rv r
    cases r0 with
    | fl q rs => exact ⟨_, _, rfl, .inl q.sq, lay_k S rs k⟩
  · split at e
    · rename_i l hl
      cases e
      obtain ⟨x, rfl, r0⟩ := one_rv r
      cases r0 with
      | ref q =>
        obtain ⟨vs, e1, rs⟩ := S.obj _ _ _ hl q
        exact ⟨_, _, rfl, .inl (SqL.of e1), lay_k S rs k⟩
    · cases e
  · cases e
theorem tup_k {ρ : List Addr} {h : Cd.Hep} {H : Hp} {ds : List Cd.Val} {vs : List V} {Q : VK} (S : Sim K ρ h H) (rs : RVs K ρ H ds vs) (k : ∀ ρ' H' w, Step ρ H ρ' H' → Sim K ρ' h H' → RV K ρ' H' (.tup ds) w → Q w H') :
    ∀ l, H l = none → Q (.ref l) (upd H l (.tup vs)) := fun l nl => by
  have st := Step.out (ρ := ρ) l (.tup vs) nl
  exact k _ _ _ st (S.out nl) (.tup (SqT.of upd_same) (rs.mono st S))
theorem bf_tuple : BFnF K Cd.bTuple (fun xs H Q => ∃ p ys, xs = [.ref p] ∧ ((SqL K H p ys ∧ ∀ l, H l = none → Q (.ref l) (upd H l (.tup ys))) ∨ (SqT K H p ys ∧ Q (.ref p) H))) := by
  intro ρ h h' H ds u xs Q S r e k
  unfold Cd.bTuple at e
  split at e
  · cases e
    obtain ⟨x, rfl, r0⟩ := one_rv r
    cases r0 with
    | tup q rs => exact ⟨_, _, rfl, .inr ⟨q, k ρ H _ (Step.refl _ _) S (.tup q rs)⟩⟩
  · cases e
    obtain ⟨x, rfl, r0⟩ := one_rv r
    cases r0 with
    | fl q rs => exact ⟨_, _, rfl, .inl ⟨q.sq, tup_k S rs k⟩⟩
  · split at e
    · rename_i l hl
      cases e
      obtain ⟨x, rfl, r0⟩ := one_rv r
      cases r0 with
      | ref q =>
        obtain ⟨vs, e1, rs⟩ := S.obj _ _ _ hl q
        exact ⟨_, _, rfl, .inl ⟨SqL.of e1, tup_k S rs k⟩⟩
    · cases e
  · cases e
theorem bls_of {ρ : List Addr} {H : Hp} : ∀ {ds : List Cd.Val} {bs : List Bool} {vs : List V}, Cd.bls ds = some bs → RVs K ρ H ds vs → vs = bs.map V.bl
  | [], bs, vs, e, r => by cases e; cases r; rfl
  | .bl b :: ds, bs, vs, e, r => by
    simp only [Cd.bls] at e
    cases q : Cd.bls ds with
    | none => rw [q] at e; cases e
    | some cs =>
      rw [q] at e; cases e
      cases r with
      | cons r1 r2 =>
        cases r1
        rw [bls_of q r2]; rfl
theorem bf_all : BFnF K Cd.bAll (rAll K) := by
  intro ρ h h' H ds u xs Q S r e k
  unfold Cd.bAll at e
  split at e
  · rename_i v
    split at e
    · rename_i bs hb
      cases e
      obtain ⟨x, rfl, r0⟩ := one_rv r
      cases el : Cd.itsL h v with
      | none => rw [el] at hb; cases hb
      | some l =>
        rw [el] at hb
        obtain ⟨a, vs, rfl, q, rs⟩ := seq_of S r0 el
        exact ⟨a, bs, rfl, by rw [← bls_of hb rs]; exact q, k ρ H _ (Step.refl _ _) S (.bl _)⟩
    · cases e
  · cases e
theorem bf_any : BFnF K Cd.bAny (rAny K) := by
  intro ρ h h' H ds u xs Q S r e k
  unfold Cd.bAny at e
  split at e
  · rename_i v
    split at e
    · rename_i bs hb
      cases e
      obtain ⟨x, rfl, r0⟩ := one_rv r
      cases el : Cd.itsL h v with
      | none => rw [el] at hb; cases hb
      | some l =>
        rw [el] at hb
        obtain ⟨a, vs, rfl, q, rs⟩ := seq_of S r0 el
        exact ⟨a, bs, rfl, by rw [← bls_of hb rs]; exact q, k ρ H _ (Step.refl _ _) S (.bl _)⟩
    · cases e
  · cases e
/-! ### isinstance -/
theorem typ_of {ρ : List Addr} {h : Cd.Hep} {H : Hp} {d : Cd.Val} {x : V} {t : String} (S : Sim K ρ h H) (r : RV K ρ H d x) (e : Cd.typ h d = some t) : TyX K H x (.type t) ∧ t ∈ ["NoneType", "bool", "int", "str", "tuple", "list", "dict"] := by
  cases r with
  | non => cases e; exact ⟨.base .non, by simp⟩
  | bl b => cases e; exact ⟨.base (.bl b), by simp⟩
  | int i => cases e; exact ⟨.base (.int i), by simp⟩
  | str s => cases e; exact ⟨.base (.str _), by simp⟩
  | tup q rs =>
    cases e
    refine ⟨?_, by simp⟩
    rcases q with (q | ⟨o, q⟩) | ⟨o, its, n, q1, q2, _⟩
    · exact .base (.tup q)
    · exact .fTuple q
    · exact .kTuple q1 q2
  | fl q rs =>
    cases e
    refine ⟨?_, by simp⟩
    rcases q with ⟨o, q⟩ | ⟨o, its, n, q1, q2, _⟩
    · exact .base (.frz q)
    · exact .kList q1 q2
  | exo a => cases e
  | ref q =>
    simp only [Cd.typ] at e
    split at e
    · rename_i l hl
      cases e
      obtain ⟨vs, e1, rs⟩ := S.obj _ _ _ hl q
      exact ⟨.base (.lst e1), by simp⟩
    · rename_i l hl
      cases e
      obtain ⟨kvs, e1, rd⟩ := S.obj _ _ _ hl q
      exact ⟨.base (.dK e1), by simp⟩
    · cases e
def tyAll : Bool := ["NoneType", "bool", "int", "str", "tuple", "list", "dict"].all fun t => ["bool", "int", "str", "tuple", "list", "dict"].all fun n => kitB t n == some (Cd.isT t n)
theorem tyAll_ok : tyAll = true := by decide +kernel
theorem kit_isT {t n : String} (ht : t ∈ ["NoneType", "bool", "int", "str", "tuple", "list", "dict"]) (hn : n ∈ ["bool", "int", "str", "tuple", "list", "dict"]) : kitB t n = some (Cd.isT t n) := by
  have h := tyAll_ok
  unfold tyAll at h
  rw [List.all_eq_true] at h
  have h1 := h t ht
  rw [List.all_eq_true] at h1
  exact beq_iff_eq.mp (h1 n hn)
theorem k_isi (n : String) {a : Expr} {ma : Cd.EM} {x : Str} {p p2 pos : Pos} (hm : X.mg "isinstance" = none) (hm2 : X.mg x = none) (ha : KE X ca W a ma) (hv : bootBuiltins x = some (.type n) := by decide +kernel) (hn : n ∈ ["bool", "int", "str", "tuple", "list", "dict"] := by decide) (hg : Gl X "isinstance" := by rfl) (hg2 : Gl X x := by rfl) (hnn : x ≠ "__name__" := by decide) (hdb : (x == ("__debug__" : Str)) = false := by decide)
    (he : starEach [a, .Name x p2] X.env = (false, eval a X.env) :: starEach [.Name x p2] X.env := by rfl) (he2 : starEach [.Name x p2] X.env = (false, eval (.Name x p2) X.env) :: starEach [] X.env := by rfl) (hpl : (backTo pos (starEach [.Name x p2] X.env)).any (·.1) = false := by rfl) :
    KE X ca W (.Call (.Name "isinstance" p) [a, .Name x p2] [] pos) (Cd.eUn (Cd.oIsi n) ma) := by
  refine PE.wk (pe_callB call_isi hg hm (by decide +kernel) (pa_cons ha (pa_cons (pe_bltn (v := .ty n) hg2 hm2 hv rfl hnn hdb) pa_nil he2) he) (by decide) (by decide) he hpl) fun σ H Q ⟨ρ, h, η, S, re, p⟩ => ?_
  refine ⟨ρ, h, η, S, re, postG.first p fun ρ1 H1 h1 d x st1 S1 r1 p1 => ?_⟩
  obtain ⟨u, hu, k⟩ := p1.ofO
  unfold Cd.oIsi at hu
  cases et : Cd.typ h1 d with
  | none => rw [et] at hu; cases hu
  | some t =>
    rw [et] at hu; cases hu
    obtain ⟨q, ht⟩ := typ_of S1 r1 et
    exact ⟨x, .ty n, .type t, .type n, _, rfl, .ty n, q, kit_ty (kit_isT ht hn), k ρ1 H1 _ (Step.refl _ _) S1 (.bl _)⟩
end
theorem iop_addA {X : Cx} : OpR X (inplaceOp .Add) (rI0 fun i j => .int (i + j)) := iop_add
section
variable {K : PySem.W.Frag} {ca : String → Value}
theorem rvs_ints {ρ : List Addr} {H : Hp} : ∀ ns : List Int, RVs K ρ H (ns.map .int) (ns.map V.int)
  | [] => .nil
  | n :: ns => .cons (.int n) (rvs_ints ns)
theorem law_sp {H : Hp} {a : Addr} {ns : List Int} {M : Cd.Fn} {h : Cd.Hep} (hO : Only H) (hS : SqL K H a (ns.map V.int)) (e : M [.fl (ns.map .int)] [] = .ok (.bl true) h) : spF K ca 1 M [.ref a] H (fun v _ => v = .bl true) fun _ _ _ => False := by
  have fz : FzL K H a (ns.map V.int) := by
    rcases hS with (q | ⟨o, q⟩) | q
    · rcases hO a with z | ⟨o, xs, z⟩
      · rw [z] at q; cases q
      · rw [z] at q; cases q
    · exact .inl ⟨o, q⟩
    · exact .inr q
  refine ⟨rfl, [], [], [.fl (ns.map .int)], ⟨rfl, List.nodup_nil, fun n o a h1 => by simp at h1⟩, .cons (.fl fz (rvs_ints ns)) .nil, ?_⟩
  rw [e]
  intro ρ' H' x st S r
  cases r
  rfl
theorem cx_no {P : Program} {w : World} {H : Hp} {s : Shared} {e : Value} {s' : Shared} (h : L2.CX P w [] H s (fun _ _ _ => False) e s') : False := by
  obtain ⟨_, _, _, _, _, _, _, _, _, _, _, _, z⟩ := h
  exact z
end
end Cb

set_option Elab.async false
set_option linter.all false
set_option maxRecDepth 100000
set_option maxHeartbeats 4000000
/-! CdB6: the bridge: lists that change, slices, comprehensions. -/
namespace Cb
open PySem PySem.Spec PyProof.Rows L2
section
variable {X : Cx} {K : PySem.W.Frag} {ca : String → Value} {W : WX} {a b c e : Expr} {ma mb me mo : Cd.EM} {pos : Pos}
theorem setIx_of {ρ : List Addr} {h h' : Cd.Hep} {H : Hp} {x k v : Cd.Val} {ox ik vv : V} (S : Sim K ρ h H) (r1 : RV K ρ H x ox) (r2 : RV K ρ H k ik) (r3 : RV K ρ H v vv) (e : Cd.setIx h x k v = some h') {Q : Hp → Prop} (q : ∀ H', Step ρ H ρ H' → Sim K ρ h' H' → Q H') : rSetL ox ik vv H Q := by
  unfold Cd.setIx at e
  split at e
  · split at e
    · rename_i l hl
      split at e
      · rename_i j hj
        cases e
        cases r1 with
        | ref qa =>
          cases r2
          obtain ⟨vs, e1, rs⟩ := S.obj _ _ _ hl qa
          have st := Step.put (ρ := ρ) (H := H) (o := .lst (vs.set j vv)) qa
          exact ⟨_, vs, _, j, rfl, rfl, e1, (by rw [← rs.length]; exact hj), q _ st (S.put qa ⟨_, upd_same, (RVs.set r3 j rs).mono st S⟩)⟩
      · cases e
    · cases e
  · cases e
theorem ks_setIx (he : KE X ca W e me) (ho : KE X ca W a ma) (hi : KE X ca W b mb) {tpos : Pos} (hs : swapsWithSole [.Subscript a b tpos] e pos.line X.env = pure false := by rfl) (hw : swappedStores [.Subscript a b tpos] e X.env = pure none := by rfl) (h1 : (assignEach [.Subscript a b tpos] X.env).map (·.2) = [assign (.Subscript a b tpos) X.env] := by rfl) (hx : assign (.Subscript a b tpos) X.env = assign (.Subscript a b tpos) X.env := by rfl) (pg : PG X (.Subscript a b tpos) (gSub (tE X.K ca W ma) (tE X.K ca W mb) rSetL)) :
    KS X ca W (.Assign [.Subscript a b tpos] e pos) (Cd.sSetIx ma mb me) := by
  refine PS.wk (ps_asg he pg hs hw h1) fun D σ H ⟨ρ, h, η, S, re, p⟩ => ?_
  refine ⟨ρ, h, η, S, re, postS.first S re p fun ρ1 H1 h1 v vv st1 S1 r1 re1 p1 => ?_⟩
  refine ⟨ρ1, h1, η, S1, re1, postS.first S1 re1 p1 fun ρ2 H2 h2 x ox st2 S2 r2 re2 p2 => ?_⟩
  refine ⟨ρ2, h2, η, S2, re2, postS.first S2 re2 p2 fun ρ3 H3 h3 k ik st3 S3 r3 re3 p3 => ?_⟩
  cases es : Cd.setIx h3 x k v with
  | none => rw [es] at p3; exact p3.elim
  | some h4 =>
    rw [es] at p3
    exact setIx_of S3 (r2.mono st3 S2) r3 ((r1.mono st2 S1).mono st3 S2) es fun H' st S' => p3 ρ3 H' σ st S' (re3.mono st S3)
/-! ### methods of built-in types -/
def MthF (K : PySem.W.Frag) (F : Cd.Val → Cd.BFn) (r : V → List V → Hp → VK → Prop) : Prop := ∀ (ρ : List Addr) (h h' : Cd.Hep) (H : Hp) (x : Cd.Val) (ds : List Cd.Val) (u : Cd.Val) (ox : V) (xs : List V) (Q : VK), Sim K ρ h H → RV K ρ H x ox → RVs K ρ H ds xs → F x ds h = some (u, h') →
  (∀ ρ' H' w, Step ρ H ρ' H' → Sim K ρ' h' H' → RV K ρ' H' u w → Q w H') → r ox xs H Q
theorem tyV_of {ρ : List Addr} {h : Cd.Hep} {H : Hp} {d : Cd.Val} {x : V} {T : String} (S : Sim K ρ h H) (r : RV K ρ H d x) (e : Cd.typ h d = some T) (hT : T = "str" ∨ T = "list" ∨ T = "int") : tyV K T x H := by
  cases r with
  | non => cases e; rcases hT with z | z | z <;> exact absurd z (by decide)
  | bl b => cases e; rcases hT with z | z | z <;> exact absurd z (by decide)
  | int i => cases e; rfl
  | str s => cases e; rfl
  | tup q rs => cases e; rcases hT with z | z | z <;> exact absurd z (by decide)
  | fl q rs => cases e; exact .inl ⟨rfl, _, q.sq⟩
  | exo a => cases e
  | ref q =>
    simp only [Cd.typ] at e
    split at e
    · rename_i l hl
      cases e
      obtain ⟨vs, e1, rs⟩ := S.obj _ _ _ hl q
      exact .inl ⟨rfl, _, SqL.of e1⟩
    · rename_i l hl
      cases e
      rcases hT with z | z | z <;> exact absurd z (by decide)
    · cases e
theorem tBM_of {T : String} {F : Cd.Val → Cd.BFn} {r : V → List V → Hp → VK → Prop} {mas : Cd.AM} (hT : T = "str" ∨ T = "list" ∨ T = "int") (hf : MthF X.K F r) : ∀ σ H Q, tE X.K ca W (Cd.eMth T F mo mas) σ H Q → tBM X.K T r (tE X.K ca W mo) (tA X.K ca W mas) σ H Q := by
  rintro σ H Q ⟨ρ, h, η, S, re, p⟩
  refine ⟨ρ, h, η, S, re, postG.first p fun ρ1 H1 h1 x ox st1 S1 r1 p1 => ?_⟩
  split at p1
  · rename_i ht
    refine ⟨tyV_of S1 r1 ht hT, ρ1, h1, η, S1, re.mono st1 S, postG.first p1 fun ρ2 H2 h2 ds xs st2 S2 r2 p2 => ?_⟩
    cases e : F x ds h2 with
    | none => rw [e] at p2; exact p2.elim
    | some q =>
      obtain ⟨u, h3⟩ := q
      rw [e] at p2
      exact hf ρ2 h2 h3 H2 x ds u ox xs Q S2 (r1.mono st2 S1) r2 e p2
  · exact p1.elim
theorem k_bm {T id : String} {name : Str} {F : Cd.Val → Cd.BFn} {r : V → List V → Hp → VK → Prop} {apos : Pos} {o : Expr} {es : List Expr} {mas : Cd.AM} (pa : PlainAttrs T) (slot : Slot T name id) (hty : typeOf (.builtin id) = pure (.type "method_descriptor")) (hm : MtR X id r) (hf : MthF X.K F r) (ho : KE X ca W o mo) (ha : KA X ca W (e :: es) mas) (hT : T = "str" ∨ T = "list" ∨ T = "int" := by decide)
    (hbase : attributeBase o name X.env (eval o X.env) = eval o X.env := by rfl)
    (hfew : ((backTo pos (starEach (e :: es) X.env)).all (fun x => !x.1) && (backToKw pos (keywordEach [] X.env)).all (fun x => x.1.isSome)
      && decide ((e :: es).length + ([] : List Keyword).length + (if ([] : List Keyword).isEmpty then 0 else 1) < 30)) = true := by rfl)
    (hline : (apos.endLine == pos.line) = true := by rfl) (hs : starEach (e :: es) X.env = (false, eval e X.env) :: starEach es X.env := by rfl) (hplain : (backTo pos (starEach es X.env)).any (·.1) = false := by rfl) :
    KE X ca W (.Call (.Attribute o name apos) (e :: es) [] pos) (Cd.eMth T F mo mas) := PE.wk (pe_bm pa slot hty hm ho ha hbase hfew hline hs hplain) (tBM_of hT hf)
theorem k_bm0 {T id : String} {name : Str} {F : Cd.Val → Cd.BFn} {r : V → List V → Hp → VK → Prop} {apos : Pos} {o : Expr} (pa : PlainAttrs T) (slot : Slot T name id) (hty : typeOf (.builtin id) = pure (.type "method_descriptor")) (hm : MtR X id r) (hf : MthF X.K F r) (ho : KE X ca W o mo) (hT : T = "str" ∨ T = "list" ∨ T = "int" := by decide)
    (hbase : attributeBase o name X.env (eval o X.env) = eval o X.env := by rfl) (hline : (apos.endLine == pos.line) = true := by rfl) :
    KE X ca W (.Call (.Attribute o name apos) [] [] pos) (Cd.eMth T F mo Cd.aNil) := by
  refine PE.wk (pe_bm0 pa slot hty hm ho hbase hline) fun σ H Q p => ?_
  obtain ⟨ρ, h, η, S, re, p⟩ := tBM_of (mas := Cd.aNil) hT hf σ H Q p
  refine ⟨ρ, h, η, S, re, p.imp fun x H1 q => ⟨q.1, ?_⟩⟩
  obtain ⟨_, ρ1, h1, η1, S1, re1, p1⟩ := q
  exact p1 ρ1 H1 [] (Step.refl _ _) S1 .nil
theorem mf_append : MthF K Cd.mAppend rAppend := by
  intro ρ h h' H x ds u ox xs Q S r1 r2 e k
  unfold Cd.mAppend at e
  split at e
  · split at e
    · rename_i l hl
      split at e
      · rename_i hz
        cases e
        cases r1 with
        | ref q =>
          obtain ⟨y, rfl, ry⟩ := one_rv r2
          obtain ⟨vs, e1, rs⟩ := S.obj _ _ _ hl q
          rw [line_eq, rs.length] at hz
          have st := Step.put (ρ := ρ) (H := H) (o := .lst (vs ++ [y])) q
          exact ⟨_, vs, y, rfl, rfl, e1, hz, k ρ _ _ st (S.put q ⟨_, upd_same, (RVs.append rs (.cons ry .nil)).mono st S⟩) .non⟩
      · cases e
    · cases e
  · cases e
theorem mf_extend : MthF K Cd.mExtend rExtend := by
  intro ρ h h' H x ds u ox xs Q S r1 r2 e k
  unfold Cd.mExtend at e
  split at e
  · split at e
    · rename_i l m hl hm
      split at e
      · rename_i hz
        cases e
        cases r1 with
        | ref q =>
          obtain ⟨y, rfl, ry⟩ := one_rv r2
          cases ry with
          | ref q2 =>
            obtain ⟨vs, e1, rs⟩ := S.obj _ _ _ hl q
            obtain ⟨ws, e2, rs2⟩ := S.obj _ _ _ hm q2
            rw [line_eq, rs.length, rs2.length] at hz
            have st := Step.put (ρ := ρ) (H := H) (o := .lst (vs ++ ws)) q
            exact ⟨_, _, vs, ws, rfl, rfl, e1, e2, hz, k ρ _ _ st (S.put q ⟨_, upd_same, (RVs.append rs rs2).mono st S⟩) .non⟩
      · cases e
    · cases e
  · cases e
theorem RVs.dropLast {ρ : List Addr} {H : Hp} {ds : List Cd.Val} {vs : List V} (r : RVs K ρ H ds vs) : RVs K ρ H ds.dropLast vs.dropLast := by
  rw [List.dropLast_eq_take, List.dropLast_eq_take, r.length]
  exact RVs.take _ r
theorem mf_pop : MthF K Cd.mPop rPop := by
  intro ρ h h' H x ds u ox xs Q S r1 r2 e k
  unfold Cd.mPop at e
  split at e
  · split at e
    · rename_i l hl
      split at e
      · rename_i v hv
        cases e
        cases r2
        cases r1 with
        | ref q =>
          obtain ⟨vs, e1, rs⟩ := S.obj _ _ _ hl q
          obtain ⟨y, e2, ry⟩ := rs.get hv
          rw [rs.length] at e2
          have st := Step.put (ρ := ρ) (H := H) (o := .lst vs.dropLast) q
          exact ⟨_, vs, y, rfl, rfl, e1, e2, k ρ _ _ st (S.put q ⟨_, upd_same, rs.dropLast.mono st S⟩) (ry.mono st S)⟩
      · cases e
    · cases e
  · cases e
/-! ### slices -/
def tP (K : PySem.W.Frag) (ca : String → Value) (W : WX) (m : Cd.PM) : TO := fun σ H Q => ∃ ρ h η, Sim K ρ h H ∧ RE K ρ H η σ ∧ postG K ca W (fun _ _ a b => a = b) ρ H σ (m η h) Q
theorem PO.wk {e : Option Expr} {t t' : TO} (h : PO X e t) (k : ∀ σ H Q, t' σ H Q → t σ H Q) : PO X e t' := ⟨fun pins s σ H Q I hw => h.run pins s σ H Q I (k _ _ _ hw)⟩
theorem kp_no : PO X none (tP X.K ca W Cd.pNo) := PO.wk po_none fun σ H Q ⟨ρ, h, η, S, re, p⟩ => p ρ H none (Step.refl _ _) S rfl
theorem kp_some (he : KE X ca W e me) : PO X (some e) (tP X.K ca W (Cd.pSome me)) := by
  refine PO.wk (po_some he) fun σ H Q ⟨ρ, h, η, S, re, p⟩ => ?_
  refine ⟨ρ, h, η, S, re, postG.first p fun ρ1 H1 h1 d x st1 S1 r1 p1 => ?_⟩
  cases d with
  | int i => cases r1; exact ⟨i, rfl, p1 ρ1 H1 _ (Step.refl _ _) S1 rfl⟩
  | _ => exact p1.elim
theorem cut_rv {ρ : List Addr} {H : Hp} {ds : List Cd.Val} {vs : List V} (lo hi : Option Int) (r : RVs K ρ H ds vs) : RVs K ρ H (Cd.cut ds lo hi) (cutV vs lo hi) := by
  unfold Cd.cut cutV
  rw [show HT.sIx = Cd.sIx from rfl, ← r.length]
  exact RVs.take _ (RVs.drop _ r)
theorem cut_str (s : List Nat) (lo hi : Option Int) : cutS (toS s) lo hi = toS (Cd.cut s lo hi) := by
  unfold Cd.cut cutS toS
  have : HT.sIx = Cd.sIx := rfl
  rfl
def rSlAll (K : PySem.W.Frag) : V → Option Int → Option Int → Hp → VK → Prop := fun x lo hi H Q => rSlS x lo hi H Q ∨ rSlA K x lo hi H Q ∨ rSlL K x lo hi H Q
theorem sl_all : SlR X (rSlAll X.K) := SlR.or sl_str (SlR.or sl_tupA sl_list)
theorem sl_of {ρ : List Addr} {h h' : Cd.Hep} {H : Hp} {d u : Cd.Val} {x : V} {lo hi : Option Int} {Q : VK} (S : Sim K ρ h H) (r : RV K ρ H d x) (e : Cd.oSl h d lo hi = some (u, h')) (k : ∀ ρ' H' w, Step ρ H ρ' H' → Sim K ρ' h' H' → RV K ρ' H' u w → Q w H') : rSlAll K x lo hi H Q := by
  unfold Cd.oSl at e
  split at e
  · split at e
    · rename_i s hz
      cases e
      cases r
      rw [line_eq] at hz
      exact .inl ⟨_, rfl, hz, by rw [cut_str]; exact k ρ H _ (Step.refl _ _) S (.str _)⟩
    · cases e
  · cases e
    cases r with
    | @tup a ds0 vs q rs =>
      refine .inr (.inl ⟨_, _, rfl, q, fun hw => ?_, fun _ => tup_k S (cut_rv lo hi rs) k⟩)
      have e : ∀ l : List Cd.Val, l.length = vs.length → Cd.cut l lo hi = l := fun l hl => by
        unfold Cd.cut
        rw [show HT.sIx = Cd.sIx from rfl, ← hl] at hw
        rw [hw.1, hw.2]
        simp
      rw [e _ rs.length] at k
      exact k ρ H _ (Step.refl _ _) S (.tup q rs)
  · cases e
    cases r with
    | fl q rs => exact .inr (.inr ⟨_, _, rfl, q.sq, lay_k S (cut_rv lo hi rs) k⟩)
  · split at e
    · rename_i l hl
      cases e
      cases r with
      | ref q =>
        obtain ⟨vs, e1, rs⟩ := S.obj _ _ _ hl q
        exact .inr (.inr ⟨_, _, rfl, SqL.of e1, lay_k S (cut_rv lo hi rs) k⟩)
    · cases e
  · cases e
theorem k_slice {lo hi : Option Expr} {ml mh : Cd.PM} {p2 : Pos} (he : KE X ca W e me) (hl : PO X lo (tP X.K ca W ml)) (hh : PO X hi (tP X.K ca W mh)) : KE X ca W (.Subscript e (.Slice lo hi none p2) pos) (Cd.eSl me ml mh) := by
  refine PE.wk (pe_slice sl_all he hl hh) fun σ H Q ⟨ρ, h, η, S, re, p⟩ => ?_
  refine ⟨ρ, h, η, S, re, postG.first p fun ρ1 H1 h1 d x st1 S1 r1 p1 => ?_⟩
  refine ⟨ρ1, h1, η, S1, re.mono st1 S, postG.first p1 fun ρ2 H2 h2 l l' st2 S2 r2 p2 => ?_⟩
  cases (show l = l' from r2)
  refine ⟨ρ2, h2, η, S2, (re.mono st1 S).mono st2 S1, postG.first p2 fun ρ3 H3 h3 u u' st3 S3 r3 p3 => ?_⟩
  cases (show u = u' from r3)
  cases eo : Cd.oSl h3 d l u with
  | none => rw [eo] at p3; exact p3.elim
  | some q =>
    obtain ⟨v, h4⟩ := q
    rw [eo] at p3
    exact sl_of S3 ((r1.mono st2 S1).mono st3 S2) eo p3
end
end Cb

set_option Elab.async false
set_option linter.all false
set_option maxRecDepth 100000
set_option maxHeartbeats 4000000
/-! CdB7: the bridge: comprehensions. -/
namespace Cb
open PySem PySem.Spec PyProof.Rows L2
/-- as Step, but the list D, which is no place, may change -/
structure StepD (D : Addr) (ρ : List Addr) (H : Hp) (ρ' : List Addr) (H' : Hp) : Prop where
  pre : ρ <+: ρ'
  fr : ∀ a o, a ∉ ρ → a ≠ D → H a = some o → H' a = some o
  new : ∀ a, a ∈ ρ' → a ∉ ρ → H a = none
theorem Step.toD {D : Addr} {ρ ρ' : List Addr} {H H' : Hp} (s : Step ρ H ρ' H') : StepD D ρ H ρ' H' := ⟨s.pre, fun a o n _ e => s.fr a o n e, s.new⟩
theorem StepD.trans {D : Addr} {ρ ρ1 ρ2 : List Addr} {H H1 H2 : Hp} (a : StepD D ρ H ρ1 H1) (b : StepD D ρ1 H1 ρ2 H2) (hd : H D ≠ none) (nd : ∀ x, x ∈ ρ2 → x ≠ D) : StepD D ρ H ρ2 H2 := by
  have f : ∀ x o, x ∉ ρ → x ≠ D → H x = some o → x ∉ ρ1 ∧ H1 x = some o := by
    intro x o n nD e
    refine ⟨fun m => ?_, a.fr x o n nD e⟩
    have q := a.new x m n
    rw [q] at e
    cases e
  refine ⟨a.pre.trans b.pre, fun x o n nD e => b.fr x o (f x o n nD e).1 nD (f x o n nD e).2, fun x m n => ?_⟩
  by_cases h1 : x ∈ ρ1
  · exact a.new x h1 n
  · cases q : H x with
    | none => rfl
    | some o =>
      have := b.new x m h1
      rw [(f x o n (nd x m) q).2] at this; cases this
section
variable {K : PySem.W.Frag} {D : Addr} {acc acc' : List V} {ρ ρ' : List Addr} {H H' : Hp} {h h' : Cd.Hep}
theorem sqT_app (hD : H D = some (.lst acc)) {a : Addr} {vs : List V} (q : SqT K H a vs) : SqT K (upd H D (.lst acc')) a vs := by
  rcases q with (q | ⟨o, q⟩) | q
  · have n : a ≠ D := fun z => by rw [z, hD] at q; cases q
    exact .inl (.inl (by rw [upd_ne n]; exact q))
  · have n : a ≠ D := fun z => by rw [z, hD] at q; cases q
    exact .inl (.inr ⟨o, by rw [upd_ne n]; exact q⟩)
  · exact .inr q
theorem fzL_app (hD : H D = some (.lst acc)) {a : Addr} {vs : List V} (q : FzL K H a vs) : FzL K (upd H D (.lst acc')) a vs := by
  rcases q with ⟨o, q⟩ | q
  · have n : a ≠ D := fun z => by rw [z, hD] at q; cases q
    exact .inl ⟨o, by rw [upd_ne n]; exact q⟩
  · exact .inr q
mutual
theorem RV.app (hD : H D = some (.lst acc)) : ∀ {d : Cd.Val} {v : V}, RV K ρ H d v → RV K ρ (upd H D (.lst acc')) d v
  | _, _, .non => .non
  | _, _, .bl b => .bl b
  | _, _, .int i => .int i
  | _, _, .str s => .str s
  | _, _, .tup h r => .tup (sqT_app hD h) (RVs.app hD r)
  | _, _, .fl h r => .fl (fzL_app hD h) (RVs.app hD r)
  | _, _, .ref h => .ref h
  | _, _, .exo a => .exo a
theorem RVs.app (hD : H D = some (.lst acc)) : ∀ {ds : List Cd.Val} {vs : List V}, RVs K ρ H ds vs → RVs K ρ (upd H D (.lst acc')) ds vs
  | _, _, .nil => .nil
  | _, _, .cons h t => .cons (RV.app hD h) (RVs.app hD t)
end
theorem RD.app {l : List (Cd.Val × Cd.Val)} {kvs : List (Key × V)} (hD : H D = some (.lst acc)) (r : RD K ρ H l kvs) : RD K ρ (upd H D (.lst acc')) l kvs := by
  induction r with
  | nil => exact .nil
  | cons e r t ih => exact .cons e (RV.app hD r) ih
theorem Sim.app (S : Sim K ρ h H) (hD : H D = some (.lst acc)) (nD : D ∉ ρ) : Sim K ρ h (upd H D (.lst acc')) := by
  refine ⟨S.len, S.nd, fun i o a hi ha => ?_⟩
  have q := S.obj i o a hi ha
  have n : a ≠ D := fun z => nD (z ▸ List.mem_iff_getElem?.mpr ⟨i, ha⟩)
  cases o with
  | lst l =>
    obtain ⟨vs, e1, rs⟩ := q
    exact ⟨vs, by rw [upd_ne n]; exact e1, RVs.app hD rs⟩
  | dct l =>
    obtain ⟨vs, e1, rs⟩ := q
    exact ⟨vs, by rw [upd_ne n]; exact e1, RD.app hD rs⟩
  | ins c fs => exact q.elim
theorem RE.app {η : Cd.Env} {σ : L2.St} (r : RE K ρ H η σ) (hD : H D = some (.lst acc)) : RE K ρ (upd H D (.lst acc')) η σ := ⟨r.len, fun i d e => by
  obtain ⟨v, h1, h2⟩ := r.at_ i d e
  exact ⟨v, h1, RV.app hD h2⟩⟩
/-- the list becomes a place -/
theorem StepD.place (s : StepD D ρ H ρ' H') (hD : H D = none) (nD : D ∉ ρ') : Step ρ H (ρ' ++ [D]) H' := by
  refine ⟨s.pre.trans ⟨[D], rfl⟩, fun a o n e => s.fr a o n (fun z => by rw [z, hD] at e; cases e) e, fun a m n => ?_⟩
  rcases List.mem_append.mp m with m | m
  · exact s.new a m n
  · rw [List.mem_singleton.mp m]; exact hD
theorem Sim.place {vs : List V} {ds : List Cd.Val} (S : Sim K ρ h H) (hD : H D = some (.lst vs)) (nD : D ∉ ρ) (r : RVs K ρ H ds vs) : Sim K (ρ ++ [D]) (h ++ [.lst ds]) H := by
  have st : Step ρ H (ρ ++ [D]) H → True := fun _ => trivial
  have up : ∀ {d : Cd.Val} {v : V}, RV K ρ H d v → RV K (ρ ++ [D]) H d v := fun q => rv_more q
  have ups : ∀ {ds : List Cd.Val} {vs : List V}, RVs K ρ H ds vs → RVs K (ρ ++ [D]) H ds vs := fun q => rvs_more q
  refine ⟨by rw [List.length_append, List.length_append, S.len]; rfl, List.nodup_append.mpr ⟨S.nd, by simp, fun a ha b hb => by
    rw [List.mem_singleton.mp hb]
    rintro rfl
    exact nD ha⟩, fun i w a hi ha => ?_⟩
  by_cases hl : i < h.length
  · rw [List.getElem?_append_left hl] at hi
    rw [List.getElem?_append_left (by rw [S.len]; exact hl)] at ha
    have q := S.obj i w a hi ha
    cases w with
    | lst l => obtain ⟨vs, e1, rs⟩ := q; exact ⟨vs, e1, ups rs⟩
    | dct l =>
      obtain ⟨vs, e1, rs⟩ := q
      refine ⟨vs, e1, ?_⟩
      clear e1 hi
      induction rs with
      | nil => exact .nil
      | cons e r t ih => exact .cons e (up r) ih
    | ins c fs => exact q.elim
  · have e : i = h.length := by
      have := (List.getElem?_eq_some_iff.mp hi).1
      rw [List.length_append] at this
      simp at this
      omega
    subst e
    rw [List.getElem?_append_right (Nat.le_refl _), Nat.sub_self] at hi
    rw [List.getElem?_append_right (by rw [S.len]; exact Nat.le_refl _), S.len, Nat.sub_self] at ha
    cases hi
    cases ha
    exact ⟨vs, hD, ups r⟩
where
  rv_more {d : Cd.Val} {v : V} (q : RV K ρ H d v) : RV K (ρ ++ [D]) H d v := by
    exact RV.rec (motive_1 := fun d v _ => RV K (ρ ++ [D]) H d v) (motive_2 := fun ds vs _ => RVs K (ρ ++ [D]) H ds vs) .non (fun b => .bl b) (fun i => .int i) (fun s => .str s) (fun h _ r => .tup h r) (fun h _ r => .fl h r)
      (fun h => .ref (by rw [List.getElem?_append_left (List.getElem?_eq_some_iff.mp h).1]; exact h)) (fun a => .exo a) .nil (fun _ _ a b => .cons a b) q
  rvs_more {ds : List Cd.Val} {vs : List V} (q : RVs K ρ H ds vs) : RVs K (ρ ++ [D]) H ds vs := by
    exact RVs.rec (motive_1 := fun d v _ => RV K (ρ ++ [D]) H d v) (motive_2 := fun ds vs _ => RVs K (ρ ++ [D]) H ds vs) .non (fun b => .bl b) (fun i => .int i) (fun s => .str s) (fun h _ r => .tup h r) (fun h _ r => .fl h r)
      (fun h => .ref (by rw [List.getElem?_append_left (List.getElem?_eq_some_iff.mp h).1]; exact h)) (fun a => .exo a) .nil (fun _ _ a b => .cons a b) q
end
theorem RE.wipe {K : PySem.W.Frag} {ρ : List Addr} {H : Hp} {η : Cd.Env} {σ : L2.St} (r : RE K ρ H η σ) : ∀ vs : List Nat, RE K ρ H (Cd.wipe η vs) (L2.wipe σ vs)
  | [] => r
  | v :: vs => by
    have ih := RE.wipe r vs
    refine ⟨by show (List.set _ _ _).length = (List.set _ _ _).length; rw [List.length_set, List.length_set]; exact ih.len, fun i d e => ?_⟩
    have e : ((Cd.wipe η vs).set v none)[i]? = some (some d) := e
    have n : i ≠ v := by
      rintro rfl
      have hl : i < (Cd.wipe η vs).length := by
        have := (List.getElem?_eq_some_iff.mp e).1
        rwa [List.length_set] at this
      rw [List.getElem?_set_self hl] at e
      cases e
    rw [List.getElem?_set_ne (Ne.symm n)] at e
    obtain ⟨u, h1, h2⟩ := ih.at_ i d e
    exact ⟨u, by show ((L2.wipe σ vs).set v none)[i]? = _; rw [List.getElem?_set_ne (Ne.symm n)]; exact h1, h2⟩
abbrev W0 : WX := fun _ _ _ _ => False
section
variable {X : Cx} {ca : String → Value} {W : WX}
/-- the targets that keep to their own slots -/
def OwnG (K : PySem.W.Frag) (vs : List Nat) (g : Cd.GM) (gt : TG) : Prop := ∀ (ρ : List Addr) (h : Cd.Hep) (H : Hp) (η η' : Cd.Env) (σ : L2.St) (d : Cd.Val) (x : V) (Q : L2.St → Hp → Prop), Sim K ρ h H → RE K ρ H η σ → RV K ρ H d x → g d η = some η' →
  (∀ σ', RE K ρ H η' σ' → (L2.wipe σ vs = σ → L2.wipe σ' vs = σ) → Q σ' H) → gt x σ H Q
theorem compL_post {K : PySem.W.Frag} {g : Cd.GM} {gt : TG} {tc : Cd.TM} {tt : TT} {me : Cd.EM} {te : TE} {vs : List Nat} (hg : OwnG K vs g gt) (ht : ∀ σ H Q, tT K ca W0 tc σ H Q → tt σ H Q) (he : ∀ σ H Q, tE K ca W0 me σ H Q → te σ H Q) {J : It} {ds : List Cd.Val} {chk : Cd.Hep → Bool} {ρ0 : List Addr} {H0 : Hp} {h0 : Cd.Hep} {η : Cd.Env} {σ : L2.St} {Q : VK} {D : Addr}
    (F : ItF K J ds chk ρ0 H0) (S : Sim K ρ0 h0 H0) (re : RE K ρ0 H0 η σ) (nD : H0 D = none)
    (p : ∃ ys h', Cd.compL g chk tc me (Cd.wipe η vs) ds h0 = .ok ys h' ∧ Cd.szOk ys.length ∧ ∀ ρ' H' x, Step ρ0 H0 ρ' H' → Sim K ρ' (h' ++ [.lst ys]) H' → RV K ρ' H' (.ref h'.length) x → Q x H') (hv : L2.wipe (L2.wipe σ vs) vs = L2.wipe σ vs) :
    ∃ Wv : Nat → Nat → Hp → Prop, (∃ m, Wv 0 m (upd H0 D (.lst []))) ∧ ∀ i m H, Wv i m H →
      (J.stop i H ∧ Q (.ref D) H) ∨ (J.go i H ∧ ∃ Nx : Hp → Prop, (∀ H', Nx H' → ∃ m', m' < m ∧ Wv (i + 1) m' H') ∧ ∀ x H', J.yld i H x H' → gt x (L2.wipe σ vs) H' fun σ2 H2 => L2.wipe σ2 vs = L2.wipe σ vs ∧ tt σ2 H2 fun b H3 =>
        if b = true then te σ2 H3 fun y H4 => ∃ acc, H4 D = some (.lst acc) ∧ acc.length < sizeLine ∧ Nx (upd H4 D (.lst (acc ++ [y]))) else Nx H3) := by
  obtain ⟨ys, hE, ey, hz, k⟩ := p
  -- between two turns
  refine ⟨fun i m H => (m + i = ds.length + 1 ∧ i ≤ ds.length) ∧ ∃ ρ h accd acc rest, StepD D ρ0 (upd H0 D (.lst [])) ρ H ∧ Sim K ρ h H ∧ H D = some (.lst acc) ∧ D ∉ ρ ∧ RE K ρ H (Cd.wipe η vs) (L2.wipe σ vs) ∧ RVs K ρ H accd acc ∧ ys = accd ++ rest ∧ Cd.compL g chk tc me (Cd.wipe η vs) (ds.drop i) h = .ok rest hE,
    ⟨ds.length + 1, ⟨rfl, Nat.zero_le _⟩, ρ0, h0, [], [], ys, ⟨List.prefix_rfl, fun a o _ _ e => e, fun _ m n => absurd m n⟩, S.out nD, upd_same, fun m => S.some_of m nD, (re.wipe vs).mono (Step.out D _ nD) S, .nil, rfl, ey⟩, ?_⟩
  rintro i m H ⟨⟨em, eil⟩, ρ, h, accd, acc, rest, st, Si, hD, nDρ, rw_, racc, eys, er⟩
  have st0 : Step ρ0 H0 ρ H := by
    refine ⟨st.pre, fun a o n e => ?_, fun a m n => ?_⟩
    · have ne : a ≠ D := fun z => by rw [z, nD] at e; cases e
      exact st.fr a o n ne (by rw [upd_ne ne]; exact e)
    · have ne : a ≠ D := fun z => nDρ (z ▸ m)
      have := st.new a m n
      rwa [upd_ne ne] at this
  by_cases hi : i < ds.length
  · rw [List.drop_eq_getElem_cons hi, Cd.compL] at er
    split at er
    · rename_i hc
      refine .inr ⟨F.go ρ H h i st0 Si hc hi, fun H' => ∃ ρ h accd acc rest, StepD D ρ0 (upd H0 D (.lst [])) ρ H' ∧ Sim K ρ h H' ∧ H' D = some (.lst acc) ∧ D ∉ ρ ∧ RE K ρ H' (Cd.wipe η vs) (L2.wipe σ vs) ∧ RVs K ρ H' accd acc ∧ ys = accd ++ rest ∧ Cd.compL g chk tc me (Cd.wipe η vs) (ds.drop (i + 1)) h = .ok rest hE,
        fun H' w => ⟨m - 1, by omega, ⟨by omega, by omega⟩, w⟩, fun x H' y => ?_⟩
      obtain ⟨st1, S1, r1⟩ := F.yld ρ H h i ds[i] x H' st0 Si hc (List.getElem?_eq_getElem hi) y
      -- D stands through a step
      have keepD : ∀ {ρa ρb : List Addr} {Ha Hb : Hp} {ac : List V}, Step ρa Ha ρb Hb → D ∉ ρa → Ha D = some (.lst ac) → Hb D = some (.lst ac) ∧ D ∉ ρb := fun s n e => ⟨s.fr D _ n e, fun mm => by
        have := s.new D mm n
        rw [this] at e; cases e⟩
      have dne : (upd H0 D (.lst [])) D ≠ none := by rw [upd_same]; exact fun z => nomatch z
      have ne_of_not : ∀ {ρb : List Addr}, D ∉ ρb → ∀ z, z ∈ ρb → z ≠ D := fun n z m e => n (e ▸ m)
      obtain ⟨hD1, nD1⟩ := keepD st1 nDρ hD
      cases eg : g ds[i] (Cd.wipe η vs) with
      | none => rw [eg] at er; cases er
      | some η1 =>
        rw [eg] at er
        simp only at er
        refine hg ρ h H' (Cd.wipe η vs) η1 (L2.wipe σ vs) ds[i] x _ S1 (rw_.mono st1 Si) r1 eg fun σ2 re2 hw => ⟨hw hv, ?_⟩
        refine ht _ _ _ ⟨ρ, h, η1, S1, re2, ?_⟩
        cases ec : tc η1 h with
        | stuck => rw [ec] at er; cases er
        | exc _ _ => rw [ec] at er; cases er
        | ok kk h1 =>
          rw [ec] at er
          simp only at er
          intro ρ2 H2 b st2 S2 rb
          cases (show kk = b from rb)
          obtain ⟨hD2, nD2⟩ := keepD st2 nD1 hD1
          have sD2 : StepD D ρ0 (upd H0 D (.lst [])) ρ2 H2 := (st.trans (st1.trans st2).toD dne (ne_of_not nD2))
          cases kk with
          | false =>
            simp only [Bool.false_eq_true, if_false] at er ⊢
            exact ⟨ρ2, h1, accd, acc, rest, sD2, S2, hD2, nD2, (rw_.mono st1 Si).mono st2 S1, (racc.mono st1 Si).mono st2 S1, eys, er⟩
          | true =>
            simp only [if_true] at er ⊢
            refine he _ _ _ ⟨ρ2, h1, η1, S2, re2.mono st2 S1, ?_⟩
            cases ee : me η1 h1 with
            | stuck => rw [ee] at er; cases er
            | exc _ _ => rw [ee] at er; cases er
            | ok y1 h2 =>
              rw [ee] at er
              simp only at er
              intro ρ3 H3 yv st3 S3 ry
              obtain ⟨hD3, nD3⟩ := keepD st3 nD2 hD2
              cases el : Cd.compL g chk tc me (Cd.wipe η vs) (ds.drop (i + 1)) h2 with
              | stuck => rw [el] at er; cases er
              | exc _ _ => rw [el] at er; cases er
              | ok rest2 h3 =>
                rw [el] at er
                simp only [Cd.Res.bind_ok, Cd.Res.ok.injEq] at er
                obtain ⟨e1, e2⟩ := er
                have racc3 := ((racc.mono st1 Si).mono st2 S1).mono st3 S2
                have sD3 : StepD D ρ0 (upd H0 D (.lst [])) ρ3 H3 := st.trans ((st1.trans st2).trans st3).toD dne (ne_of_not nD3)
                refine ⟨acc, hD3, ?_, ρ3, h2, accd ++ [y1], acc ++ [yv], rest2, ?_, S3.app hD3 nD3, upd_same, nD3, (((rw_.mono st1 Si).mono st2 S1).mono st3 S2).app hD3, RVs.app hD3 (RVs.append racc3 (.cons ry .nil)), by rw [eys, ← e1, List.append_assoc]; rfl, by rw [el, e2]⟩
                · rw [line_eq, eys, ← e1, List.length_append, List.length_cons, racc.length] at hz
                  omega
                · exact ⟨sD3.pre, fun a o n ne e => by rw [upd_ne ne]; exact sD3.fr a o n ne e, sD3.new⟩
    · cases er
  · rw [List.drop_eq_nil_of_le (by omega), Cd.compL] at er
    split at er
    · rename_i hc
      cases er
      rw [List.append_nil] at eys
      subst eys
      refine .inl ⟨F.stop ρ H _ i st0 Si hc (by omega), k (ρ ++ [D]) H _ ?_ (Si.place hD nDρ racc) (.ref ?_)⟩
      · refine ⟨st0.pre.trans ⟨[D], rfl⟩, st0.fr, fun a m n => ?_⟩
        rcases List.mem_append.mp m with m | m
        · exact st0.new a m n
        · rw [List.mem_singleton.mp m]; exact nD
      · rw [← Si.len, List.getElem?_append_right (Nat.le_refl _), Nat.sub_self]; rfl
    · cases er
/-- a comprehension of one for -/
theorem tLc_of {mi : Cd.IM} {g : Cd.GM} {gt : TG} {tc : Cd.TM} {tt : TT} {me : Cd.EM} {te : TE} {vs : List Nat} (hg : OwnG X.K vs g gt) (ht : ∀ σ H Q, tT X.K ca W0 tc σ H Q → tt σ H Q) (he : ∀ σ H Q, tE X.K ca W0 me σ H Q → te σ H Q) (hv : ∀ σ : L2.St, L2.wipe (L2.wipe σ vs) vs = L2.wipe σ vs) :
    ∀ σ H Q, tE X.K ca W (Cd.eComp vs mi g tc me) σ H Q → tLc (tI X.K ca W mi) gt tt te vs σ H Q := by
  rintro σ H Q ⟨ρ, h, η, S, re, p⟩
  refine ⟨ρ, h, η, S, re, ?_⟩
  unfold Cd.eComp at p
  cases em : mi η h with
  | stuck => rw [em] at p; exact p.elim
  | exc e h' => rw [em] at p; exact p
  | ok q h1 =>
    rw [em] at p
    simp only [Cd.Res.bind_ok] at p
    intro ρ1 H1 J st1 S1 F D nD
    refine compL_post hg ht he F S1 (re.mono st1 S) nD ?_ (hv σ)
    cases el : Cd.compL g q.2 tc me (Cd.wipe η vs) q.1 h1 with
    | stuck => rw [el] at p; exact p.elim
    | exc e h2 =>
      -- a comprehension's own steps raise nothing here
      exact (compL_noexc el).elim
    | ok ys h2 =>
      rw [el] at p
      simp only [Cd.Res.bind_ok] at p
      split at p
      · rename_i hz
        exact ⟨ys, h2, rfl, hz, fun ρ' H' x st S' r => p ρ' H' x (st1.trans st) S' r⟩
      · exact p.elim
where
  compL_noexc {g : Cd.GM} {chk : Cd.Hep → Bool} {c : Cd.TM} {e : Cd.EM} {η : Cd.Env} : ∀ {xs : List Cd.Val} {h : Cd.Hep} {ex : Cd.Exc} {h2 : Cd.Hep}, Cd.compL g chk c e η xs h = .exc ex h2 → False
    | [], h, ex, h2, q => by
      rw [Cd.compL] at q
      split at q <;> cases q
    | x :: xs, h, ex, h2, q => by
      rw [Cd.compL] at q
      split at q
      · split at q
        · split at q
          · split at q
            · split at q
              · rename_i y h3 _
                cases el : Cd.compL g chk c e η xs h3 with
                | stuck => rw [el] at q; cases q
                | exc _ _ => exact compL_noexc el
                | ok _ _ => rw [el] at q; cases q
              · cases q
            · exact compL_noexc q
          · cases q
        · cases q
      · cases q
theorem own_name {K : PySem.W.Frag} (i : Nat) : OwnG K [i] (Cd.gNam i) (gName i) := by
  intro ρ h H η η' σ d x Q S re r e k
  cases e
  refine k _ (re.set r i) fun hw => ?_
  show (σ.set i (some x)).set i none = σ
  rw [List.set_set]
  exact hw
theorem own_two {K : PySem.W.Frag} (i j : Nat) (ne : i ≠ j) : OwnG K [i, j] (Cd.gTpl (Cd.gsCons (Cd.gNam i) (Cd.gsCons (Cd.gNam j) Cd.gsNil))) (gTup K 2 (gCons (gName i) (gCons (gName j) gNil))) := by
  intro ρ h H η η' σ d x Q S re r e k
  cases r with
  | tup q rs =>
    cases rs with
    | nil => cases e
    | cons r1 rs =>
      cases rs with
      | nil => cases e
      | cons r2 rs =>
        cases rs with
        | cons r3 rs => cases e
        | nil =>
          cases e
          refine ⟨_, _, rfl, q, rfl, _, _, rfl, _, _, rfl, rfl, k _ ((re.set r1 i).set r2 j) fun hw => ?_⟩
          show ((((σ.set i _).set j _).set j none).set i none) = σ
          rw [List.set_set, List.set_comm _ _ (Ne.symm ne), List.set_set]
          have hw : (σ.set j none).set i none = σ := hw
          first | exact hw | (rw [List.set_comm none none ne]; exact hw)
  | _ => cases e
theorem wipe_one (i : Nat) (σ : L2.St) : L2.wipe (L2.wipe σ [i]) [i] = L2.wipe σ [i] := by
  show (σ.set i none).set i none = σ.set i none
  rw [List.set_set]
theorem wipe_two (i j : Nat) (ne : i ≠ j) (σ : L2.St) : L2.wipe (L2.wipe σ [i, j]) [i, j] = L2.wipe σ [i, j] := by
  show ((((σ.set j none).set i none).set j none).set i none) = (σ.set j none).set i none
  rw [List.set_comm none none ne, List.set_set, List.set_set]
theorem kts_nil {X : Cx} {ca : String → Value} : PTs X [] (tT X.K ca W0 Cd.tTrue) := ⟨fun pins s σ H Q I hw => pts_nil.run pins s σ H Q I (by
  obtain ⟨ρ, h, η, S, re, p⟩ := hw
  exact p ρ H true (Step.refl _ _) S rfl)⟩
theorem kts_one {X : Cx} {ca : String → Value} {c : Expr} {tc : Cd.TM} (h : KT X ca W0 c tc) : PTs X [c] (tT X.K ca W0 tc) := pts_one h
variable {pos p2 : Pos} {elt iter : Expr} {ifs : List Expr} {scope : Scope} {mi : Cd.IM} {tc : Cd.TM} {me : Cd.EM}
/-- [elt for x in iter if ..], x in slot i -/
theorem k_lc1 (i : Nat) {x : Str} (hc : X.calm = true) (hN : X.N.Nodup) (hi : KI X ca W (.Name x p2) iter mi) (ok : blkC X.N X.env.scope scope [(x, i)] = true)
    (ht : ∀ (s : Shared) (H : Hp) (C : Addr) (cl : List (Str × Addr)) (fp : List Addr), PTs (X.blk s H scope (compEnvC scope cl C X.env) fp) ifs (tT X.K ca W0 tc))
    (he : ∀ (s : Shared) (H : Hp) (C : Addr) (cl : List (Str × Addr)) (fp : List Addr), KE (X.blk s H scope (compEnvC scope cl C X.env) fp) ca W0 elt me)
    (hg : ∀ (s : Shared) (H : Hp) (C : Addr) (cl : List (Str × Addr)) (fp : List Addr), PG (X.blk s H scope (compEnvC scope cl C X.env) fp) (.Name x p2) (gName i)) (hs : ∀ x, foldedSetIterable iter X.env x = pure x := by intro _; rfl) :
    KE X ca W (.ListComp elt [⟨.Name x p2, iter, ifs, 0⟩] scope pos) (Cd.eComp [i] mi (Cd.gNam i) tc me) :=
  PE.wk (pe_lc (te := tE X.K ca W0 me) (own := [(x, i)]) hc hN hi (blkOk_by ok) hg ht he hs) (tLc_of (own_name i) (fun _ _ _ q => q) (fun _ _ _ q => q) (wipe_one i))
/-- y = [elt for x in iter if ..] -/
theorem ks_setLc1 (k i : Nat) {x y : Str} {py spos : Pos} (hc : X.calm = true) (hN : X.N.Nodup) (hi : KI X ca W (.Name x p2) iter mi) (ok : blkC X.N X.env.scope scope [(x, i)] = true)
    (hsw : swapsWith (.ListComp elt [⟨.Name x p2, iter, ifs, 0⟩] scope pos) (some (.Name y py)) spos.line X.env = pure true)
    (ht : ∀ (s : Shared) (H : Hp) (C : Addr) (cl : List (Str × Addr)) (fp : List Addr), PTs (X.blk s H scope (compEnvC scope cl C X.env) fp) ifs (tT X.K ca W0 tc))
    (he : ∀ (s : Shared) (H : Hp) (C : Addr) (cl : List (Str × Addr)) (fp : List Addr), KE (X.blk s H scope (compEnvC scope cl C X.env) fp) ca W0 elt me)
    (hg : ∀ (s : Shared) (H : Hp) (C : Addr) (cl : List (Str × Addr)) (fp : List Addr), PG (X.blk s H scope (compEnvC scope cl C X.env) fp) (.Name x p2) (gName i))
    (hy : X.N[k]? = some y := by rfl) (hyl : X.env.scope.names.lookup y = some .local := by rfl) (hs : ∀ x, foldedSetIterable iter X.env x = pure x := by intro _; rfl) :
    KS X ca W (.Assign [.Name y py] (.ListComp elt [⟨.Name x p2, iter, ifs, 0⟩] scope pos) spos) (Cd.sSet k (Cd.eComp [i] mi (Cd.gNam i) tc me)) := by
  refine PS.wk (ps_setLc (te := tE X.K ca W0 me) (i := k) (own := [(x, i)]) hc hN hy hyl hsw hi (blkOk_by ok) hg ht he hs) fun D σ H ⟨ρ, h, η, S, re, p⟩ => ?_
  refine tLc_of (own_name i) (fun _ _ _ q => q) (fun _ _ _ q => q) (wipe_one i) σ H _ ⟨ρ, h, η, S, re, postS.first S re p fun ρ1 H1 h1 v x st1 S1 r1 re1 p1 => ?_⟩
  exact p1 ρ1 H1 _ (Step.refl _ _) S1 (re1.set r1 k)
/-- [elt for x, y in iter if ..] -/
theorem k_lc2n (i j : Nat) (ne : i ≠ j) {x y : Str} {px py : Pos} {kk : Nat} (hc : X.calm = true) (hN : X.N.Nodup) (hi : KI X ca W (.Tuple [.Name x px, .Name y py] kk p2) iter mi) (ok : blkC X.N X.env.scope scope [(x, i), (y, j)] = true)
    (ht : ∀ (s : Shared) (H : Hp) (C : Addr) (cl : List (Str × Addr)) (fp : List Addr), PTs (X.blk s H scope (compEnvC scope cl C X.env) fp) ifs (tT X.K ca W0 tc))
    (he : ∀ (s : Shared) (H : Hp) (C : Addr) (cl : List (Str × Addr)) (fp : List Addr), KE (X.blk s H scope (compEnvC scope cl C X.env) fp) ca W0 elt me)
    (hg : ∀ (s : Shared) (H : Hp) (C : Addr) (cl : List (Str × Addr)) (fp : List Addr), PG (X.blk s H scope (compEnvC scope cl C X.env) fp) (.Tuple [.Name x px, .Name y py] kk p2) (gTup X.K 2 (gCons (gName i) (gCons (gName j) gNil)))) (hs : ∀ x, foldedSetIterable iter X.env x = pure x := by intro _; rfl) :
    KE X ca W (.ListComp elt [⟨.Tuple [.Name x px, .Name y py] kk p2, iter, ifs, 0⟩] scope pos) (Cd.eComp [i, j] mi (Cd.gTpl (Cd.gsCons (Cd.gNam i) (Cd.gsCons (Cd.gNam j) Cd.gsNil))) tc me) :=
  PE.wk (pe_lc (te := tE X.K ca W0 me) (own := [(x, i), (y, j)]) hc hN hi (blkOk_by ok) hg ht he hs) (tLc_of (own_two i j ne) (fun _ _ _ q => q) (fun _ _ _ q => q) (wipe_two i j ne))
theorem ks_setLc2n (k i j : Nat) (ne : i ≠ j) {x y z : Str} {px py pz spos : Pos} {kk : Nat} (hc : X.calm = true) (hN : X.N.Nodup) (hi : KI X ca W (.Tuple [.Name x px, .Name y py] kk p2) iter mi) (ok : blkC X.N X.env.scope scope [(x, i), (y, j)] = true)
    (hsw : swapsWith (.ListComp elt [⟨.Tuple [.Name x px, .Name y py] kk p2, iter, ifs, 0⟩] scope pos) (some (.Name z pz)) spos.line X.env = pure true)
    (ht : ∀ (s : Shared) (H : Hp) (C : Addr) (cl : List (Str × Addr)) (fp : List Addr), PTs (X.blk s H scope (compEnvC scope cl C X.env) fp) ifs (tT X.K ca W0 tc))
    (he : ∀ (s : Shared) (H : Hp) (C : Addr) (cl : List (Str × Addr)) (fp : List Addr), KE (X.blk s H scope (compEnvC scope cl C X.env) fp) ca W0 elt me)
    (hg : ∀ (s : Shared) (H : Hp) (C : Addr) (cl : List (Str × Addr)) (fp : List Addr), PG (X.blk s H scope (compEnvC scope cl C X.env) fp) (.Tuple [.Name x px, .Name y py] kk p2) (gTup X.K 2 (gCons (gName i) (gCons (gName j) gNil))))
    (hy : X.N[k]? = some z := by rfl) (hyl : X.env.scope.names.lookup z = some .local := by rfl) (hs : ∀ x, foldedSetIterable iter X.env x = pure x := by intro _; rfl) :
    KS X ca W (.Assign [.Name z pz] (.ListComp elt [⟨.Tuple [.Name x px, .Name y py] kk p2, iter, ifs, 0⟩] scope pos) spos) (Cd.sSet k (Cd.eComp [i, j] mi (Cd.gTpl (Cd.gsCons (Cd.gNam i) (Cd.gsCons (Cd.gNam j) Cd.gsNil))) tc me)) := by
  refine PS.wk (ps_setLc (te := tE X.K ca W0 me) (i := k) (own := [(x, i), (y, j)]) hc hN hy hyl hsw hi (blkOk_by ok) hg ht he hs) fun D σ H ⟨ρ, h, η, S, re, p⟩ => ?_
  refine tLc_of (own_two i j ne) (fun _ _ _ q => q) (fun _ _ _ q => q) (wipe_two i j ne) σ H _ ⟨ρ, h, η, S, re, postS.first S re p fun ρ1 H1 h1 v x st1 S1 r1 re1 p1 => ?_⟩
  exact p1 ρ1 H1 _ (Step.refl _ _) S1 (re1.set r1 k)
end
end Cb

set_option Elab.async false
set_option linter.all false
set_option maxRecDepth 100000
set_option maxHeartbeats 4000000
/-! CdB8: the bridge: in, enumerate, zip, o[i] op= e. -/
namespace Cb
open PySem PySem.Spec PyProof.Rows L2
section
variable {X : Cx} {K : PySem.W.Frag} {ca : String → Value} {W : WX} {a b c e : Expr} {ma mb me : Cd.EM} {pos : Pos}
theorem flat_of {ρ : List Addr} {H : Hp} {d : Cd.Val} {x : V} (r : RV K ρ H d x) : flatV x = Cd.flat d := by cases r <;> rfl
theorem flats_of {ρ : List Addr} {H : Hp} : ∀ {ds : List Cd.Val} {vs : List V}, RVs K ρ H ds vs → vs.all flatV = ds.all Cd.flat
  | _, _, .nil => rfl
  | _, _, .cons h t => by rw [List.all_cons, List.all_cons, flat_of h, flats_of t]
theorem eqF_of {ρ : List Addr} {H : Hp} {d e : Cd.Val} {x y : V} (r1 : RV K ρ H d x) (r2 : RV K ρ H e y) : eqV x y = Cd.eqF d e := by
  cases r1 <;> cases r2 <;> try rfl
  rename_i s t
  show (toS s == toS t) = (s == t)
  rw [Bool.eq_iff_iff, beq_iff_eq, beq_iff_eq]
  exact toS_inj
theorem inV_of {ρ : List Addr} {H : Hp} {d : Cd.Val} {x : V} (r : RV K ρ H d x) : ∀ {ds : List Cd.Val} {vs : List V}, RVs K ρ H ds vs → inV x vs = ds.any fun y => Cd.eqF y d
  | _, _, .nil => rfl
  | _, _, .cons h t => by
    show (eqV _ x || inV x _) = _
    rw [eqF_of h r, inV_of r t, List.any_cons]
def rInA (K : PySem.W.Frag) (neg : Bool) : R2 := fun x y H Q => (∃ (c : Nat) (z : Str), x = .str ⟨#[c]⟩ ∧ y = .str z ∧ Q (.bl (if neg then !decide (c ∈ z.cps.toList) else decide (c ∈ z.cps.toList))) H) ∨ rIn K neg x y H Q
theorem op_inA : OpR X (compareOp .In) (rInA X.K false) := OpR.or op_in_sign op_in_seq
theorem op_ninA : OpR X (compareOp .NotIn) (rInA X.K true) := OpR.or op_notIn_sign op_notIn_seq
theorem bf_inG (neg : Bool) : BinF K (fun h a b => (Cd.isIn h a b).map fun k => .bl (if neg then !k else k)) (rInA K neg) := by
  intro ρ h H d e u x y Q S r1 r2 hu k
  have hu : Option.map (fun k => Cd.Val.bl (if neg = true then !k else k)) (Cd.isIn h d e) = some u := hu
  cases ei : Cd.isIn h d e with
  | none => rw [ei] at hu; cases hu
  | some kk =>
    rw [ei] at hu
    cases hu
    unfold Cd.isIn at ei
    split at ei
    · cases ei
      cases r1; cases r2
      exact .inl ⟨_, _, rfl, rfl, k ρ H _ (Step.refl _ _) S (.bl _)⟩
    · cases ei
    · split at ei
      · rename_i l hl
        split at ei
        · rename_i hf
          cases ei
          rw [Bool.and_eq_true] at hf
          have go : ∀ {p : Addr} {vs : List V}, (SqL K H p vs ∨ SqT K H p vs) → RVs K ρ H l vs → rIn K neg x (.ref p) H Q := fun {p vs} q rs =>
            ⟨p, vs, rfl, q, by rw [flat_of r1]; exact hf.1, by rw [flats_of rs]; exact hf.2, by rw [inV_of r1 rs]; exact k ρ H _ (Step.refl _ _) S (.bl _)⟩
          refine .inr ?_
          cases r2 with
          | tup q rs => cases hl; exact go (.inr q) rs
          | fl q rs => cases hl; exact go (.inl q.sq) rs
          | ref q =>
            simp only [Cd.seqOf] at hl
            split at hl
            · rename_i m hm
              cases hl
              obtain ⟨vs, e1, rs⟩ := S.obj _ _ _ hm q
              exact go (.inl (SqL.of e1)) rs
            · cases hl
          | _ => cases hl
        · cases ei
      · cases ei
theorem bf_in : BinF K Cd.oIn (rInA K false) := bf_inG false
theorem bf_nin : BinF K Cd.oNin (rInA K true) := bf_inG true
/-! ### o[i] op= e -/
theorem get_list : PGet X (rIxL X.K) := by
  intro pins s σ H x y v u Q I rx ry h
  obtain ⟨p, xs, i, z, rfl, rfl, hq, he, q⟩ := h
  cases rx
  obtain ⟨t, rfl⟩ := ry
  obtain ⟨its, r, pl, hz⟩ := I.list hq
  obtain ⟨j, h1, h2, h3, h4, h5⟩ := L2.atI_get he
  obtain ⟨w, ew, rw'⟩ := r.get h2
  have hl := r.length
  have hn := line63
  have fin : EP X pins σ Q w s := ⟨z, H, I, rw', q⟩
  by_cases h0 : 0 ≤ i
  · have hj : i.toNat = j := by
      rw [seqIndex_of h0 h5] at h1
      exact Option.some.inj h1
    exact wpAny_getItem_list pl.isList h0 (by omega) (by rw [hj]; simpa using ew) fin
  · have hj : (i + (its.toArray.size : Int)).toNat = j := by
      rw [seqIndex_neg (by omega) h4] at h1
      rw [List.size_toArray, ← hl]
      exact Option.some.inj h1
    exact wpAny_getItem_list_neg pl.isList (by omega) (by rw [List.size_toArray] <;> omega) (by omega) (by rw [hj]; simpa using ew) fin
theorem ks_augIx {op : Operator} {f : Cd.Hep → Cd.Val → Cd.Val → Option Cd.Val} {r : R2} {tpos : Pos} (ho : OpR X (inplaceOp op) r) (hf : BinF X.K f r) (ha : KE X ca W a ma) (hb : KE X ca W b mb) (he : KE X ca W e me)
    (hs : ∀ ov iv new, augStore b ov iv new = (do holding [new, ov, iv] (setItem ov iv new); release [new, ov, iv] []; pure .next) := by intros; rfl) : KS X ca W (.AugAssign (.Subscript a b tpos) op e pos) (Cd.sAugIx f ma mb me) := by
  refine PS.wk (ps_augS (tip := r) ha hb get_list he ho set_list hs) fun D σ H ⟨ρ, h, η, S, re, p⟩ => ?_
  refine ⟨ρ, h, η, S, re, postS.first S re p fun ρ1 H1 h1 x ox st1 S1 r1 re1 p1 => ?_⟩
  refine ⟨ρ1, h1, η, S1, re1, postS.first S1 re1 p1 fun ρ2 H2 h2 k ik st2 S2 r2 re2 p2 => ?_⟩
  have r1' := r1.mono st2 S1
  cases ei : Cd.oIdxL h2 x k with
  | none => rw [ei] at p2; exact p2.elim
  | some y =>
    rw [ei] at p2
    simp only [Cd.ofO_some, Cd.Res.thn_ok] at p2
    have lst : rIxL X.K ox ik H2 (fun old H3 => RV X.K ρ2 H2 y old ∧ H3 = H2) := by
      unfold Cd.oIdxL at ei
      split at ei
      · split at ei
        · rename_i l hl
          cases r1' with
          | ref q =>
            cases r2
            obtain ⟨vs, e1, rs⟩ := S2.obj _ _ _ hl q
            obtain ⟨v, e2, rv⟩ := atI_rv rs ei
            exact ⟨_, vs, _, v, rfl, rfl, SqL.of e1, e2, rv, rfl⟩
        · cases ei
      · cases ei
    obtain ⟨pp, xs, ii, vv, e1, e2, e3, e4, rv, _⟩ := lst
    refine ⟨pp, xs, ii, vv, e1, e2, e3, e4, ρ2, h2, η, S2, re2, postS.first S2 re2 p2 fun ρ3 H3 h3 z oz st3 S3 r3 re3 p3 => ?_⟩
    cases ef : f h3 y z with
    | none => rw [ef] at p3; exact p3.elim
    | some v =>
      rw [ef] at p3
      simp only [Cd.ofO_some, Cd.Res.thn_ok] at p3
      refine hf ρ3 h3 H3 y z v vv oz _ S3 (rv.mono st3 S2) r3 ef fun ρ4 H4 w st4 S4 r4 => ?_
      cases es : Cd.setIx h3 x k v with
      | none => rw [es] at p3; exact p3.elim
      | some h5 =>
        rw [es] at p3
        exact setIx_of S4 ((r1'.mono st3 S2).mono st4 S3) ((r2.mono st3 S2).mono st4 S3) r4 es fun H' st S' => p3 ρ4 H' σ (st4.trans st) S' ((re3.mono st4 S3).mono st S4)
/-! ### enumerate, zip -/
theorem itemsS_of {ρ : List Addr} {h : Cd.Hep} {H : Hp} {d : Cd.Val} {x : V} {p : List Cd.Val × (Cd.Hep → Bool)} (S : Sim K ρ h H) (r : RV K ρ H d x) (e : Cd.itemsS h d = some p) :
    (∃ a vs, x = .ref a ∧ SqT K H a vs ∧ Cd.isT2 d (.tup []) = true ∧ ∀ ρ1 H1 h1, Step ρ H ρ1 H1 → Sim K ρ1 h1 H1 → p.2 h1 = true → ∃ ws, SqT K H1 a ws ∧ RVs K ρ1 H1 p.1 ws) ∨
    (∃ a vs, x = .ref a ∧ SqL K H a vs ∧ Cd.isT2 d (.tup []) = false ∧ ∀ ρ1 H1 h1, Step ρ H ρ1 H1 → Sim K ρ1 h1 H1 → p.2 h1 = true → ∃ ws, SqL K H1 a ws ∧ RVs K ρ1 H1 p.1 ws) := by
  cases r with
  | tup q rs => cases e; exact .inl ⟨_, _, rfl, q, rfl, fun ρ1 H1 h1 st S1 _ => ⟨_, st.sqT S q, rs.mono st S⟩⟩
  | fl q rs => cases e; exact .inr ⟨_, _, rfl, q.sq, rfl, fun ρ1 H1 h1 st S1 _ => ⟨_, (st.fzL S q).sq, rs.mono st S⟩⟩
  | ref q =>
    simp only [Cd.itemsS] at e
    split at e
    · rename_i l hl
      cases e
      obtain ⟨vs, e1, rs⟩ := S.obj _ _ _ hl q
      refine .inr ⟨_, vs, rfl, SqL.of e1, rfl, fun ρ1 H1 h1 st S1 c => ?_⟩
      have c := @of_decide_eq_true _ (Classical.propDecidable _) c
      obtain ⟨ws, e2, rs2⟩ := S1.obj _ _ _ c (st.ix q)
      exact ⟨ws, SqL.of e2, rs2⟩
    · cases e
  | _ => cases e
theorem enumL_get {l : List Cd.Val} {i : Nat} {d : Cd.Val} (e : (Cd.enumL l)[i]? = some d) : ∃ y, l[i]? = some y ∧ d = .tup [.int (i : Nat), y] := by
  unfold Cd.enumL at e
  rw [List.getElem?_map, List.getElem?_zipIdx] at e
  cases q : l[i]? with
  | none => rw [q] at e; cases e
  | some y => rw [q] at e; cases e; exact ⟨y, rfl, by simp⟩
theorem enumL_len (l : List Cd.Val) : (Cd.enumL l).length = l.length := by simp [Cd.enumL]
theorem itf_enumL {ρ : List Addr} {H : Hp} {a : Addr} {p : List Cd.Val × (Cd.Hep → Bool)} (F : ∀ ρ1 H1 h1, Step ρ H ρ1 H1 → Sim K ρ1 h1 H1 → p.2 h1 = true → ∃ ws, SqL K H1 a ws ∧ RVs K ρ1 H1 p.1 ws) : ItF K (Ite K a) (Cd.enumL p.1) p.2 ρ H where
  go := fun ρ1 H1 h1 i st S1 c hi => by
    obtain ⟨ws, q, rs⟩ := F ρ1 H1 h1 st S1 c
    rw [enumL_len] at hi
    exact ⟨ws, ws[i]'(by rw [← rs.length]; exact hi), q, List.getElem?_eq_getElem _⟩
  stop := fun ρ1 H1 h1 i st S1 c hi => by
    obtain ⟨ws, q, rs⟩ := F ρ1 H1 h1 st S1 c
    rw [enumL_len] at hi
    exact ⟨ws, q, by rw [← rs.length]; omega⟩
  yld := fun ρ1 H1 h1 i d x H' st S1 c hd y => by
    obtain ⟨ws, q, rs⟩ := F ρ1 H1 h1 st S1 c
    obtain ⟨T, xx, rfl, nT, rfl, hx⟩ := y
    obtain ⟨y, ey, rfl⟩ := enumL_get hd
    obtain ⟨v, e1, e2⟩ := rs.get ey
    have := hx ws q
    rw [e1] at this; cases this
    have s2 := Step.out (ρ := ρ1) T (.tup [.int (i : Nat), xx]) nT
    exact ⟨s2, S1.out nT, .tup (SqT.of upd_same) (.cons (.int _) (.cons (e2.mono s2 S1) .nil))⟩
/-- the tuple at a, its items in new pairs with their places -/
def IteT (K : PySem.W.Frag) (a : Addr) : It :=
  ⟨fun i H => ∃ (xs : List V) (x : V), SqT K H a xs ∧ xs[i]? = some x, fun i H v H' => ∃ T x, v = .ref T ∧ H T = none ∧ H' = upd H T (.tup [.int (i : Nat), x]) ∧ ∀ xs, SqT K H a xs → xs[i]? = some x, fun i H => ∃ xs : List V, SqT K H a xs ∧ xs.length = i⟩
theorem itf_enumT {ρ : List Addr} {H : Hp} {a : Addr} {p : List Cd.Val × (Cd.Hep → Bool)} (F : ∀ ρ1 H1 h1, Step ρ H ρ1 H1 → Sim K ρ1 h1 H1 → p.2 h1 = true → ∃ ws, SqT K H1 a ws ∧ RVs K ρ1 H1 p.1 ws) : ItF K (IteT K a) (Cd.enumL p.1) p.2 ρ H where
  go := fun ρ1 H1 h1 i st S1 c hi => by
    obtain ⟨ws, q, rs⟩ := F ρ1 H1 h1 st S1 c
    rw [enumL_len] at hi
    exact ⟨ws, ws[i]'(by rw [← rs.length]; exact hi), q, List.getElem?_eq_getElem _⟩
  stop := fun ρ1 H1 h1 i st S1 c hi => by
    obtain ⟨ws, q, rs⟩ := F ρ1 H1 h1 st S1 c
    rw [enumL_len] at hi
    exact ⟨ws, q, by rw [← rs.length]; omega⟩
  yld := fun ρ1 H1 h1 i d x H' st S1 c hd y => by
    obtain ⟨ws, q, rs⟩ := F ρ1 H1 h1 st S1 c
    obtain ⟨T, xx, rfl, nT, rfl, hx⟩ := y
    obtain ⟨y, ey, rfl⟩ := enumL_get hd
    obtain ⟨v, e1, e2⟩ := rs.get ey
    have := hx ws q
    rw [e1] at this; cases this
    have s2 := Step.out (ρ := ρ1) T (.tup [.int (i : Nat), xx]) nT
    exact ⟨s2, S1.out nT, .tup (SqT.of upd_same) (.cons (.int _) (.cons (e2.mono s2 S1) .nil))⟩
theorem meets_enumerate_newT (v : Value) (o : Obj) (Hh : Heap → Prop) (B : Begins v o Hh) :
    Meets (Builtin.«enumerate.__new__» ⟨[.type "enumerate", v], []⟩) (fun _ R s => Hh s.heap ∧
      R (.ok (.ret (.ref (s.heap.push o).objs.size))) { s with heap := (s.heap.push o).push { cls := .type "enumerate", data := .fields #[.none, .bool false, .ref s.heap.objs.size, rawInt 0, .none, .none] } }) :=
  .of_wp fun prog w A R s h => by
    obtain ⟨hp, g, d, tk, os⟩ := s; obtain ⟨h1, h⟩ := h
    have hsub := sub_enumerate
    have q1 : ∀ {A' : Around} {E : Value → Shared → Prop} {Q : Value → Shared → Prop}, Q (.ref hp.objs.size) ⟨hp.push o, g, d, tk, os⟩ → wpAny (model prog w) A' (pyIter v) Q E ⟨hp, g, d, tk, os⟩ :=
      fun q => B.iter prog w _ _ ⟨hp, g, d, tk, os⟩ _ h1 q
    wp_walk using q1
    refine wpAny_stack_any fun st => wpAny_pure ?_
    split
    · rename_i c _ _ _ _ _
      cases (c == Value.type "enumerate")
      · wp_walk using q1
        exact ⟨_, rfl, h⟩
      · wp_walk using q1
        exact ⟨_, rfl, h⟩
    · wp_walk using q1
      exact ⟨_, rfl, h⟩
theorem call_enumerate_B {prog : Program} {w : World} {A : Around} {E : Value → Shared → Prop} {s : Shared} {v : Value} {o : Obj} {Hh : Heap → Prop} {Q : Value → Shared → Prop} (B : Begins v o Hh) (h1 : Hh s.heap)
    (h : ∀ h', IsEnum h' (s.heap.objs.size + 1) s.heap.objs.size 0 .none → h'.get? s.heap.objs.size = some o → h'.objs.size = s.heap.objs.size + 2 → (∀ b o, s.heap.get? b = some o → h'.get? b = some o) → Q (.ref (s.heap.objs.size + 1)) { s with heap := h' }) :
    wpAny (model prog w) A (call (.type "enumerate") [v]) Q E s := by
  refine callType_new F.called_enumerate (by decide) (F.typeCall_enumerate_1 _) (F.newCall_enumerate_1 _) (fun obj => F.args_object_init_2 obj _) F.entry_enumerate_new (meets_enumerate_newT v o Hh B) ⟨h1, ?_⟩
  have hz : (s.heap.push o).objs.size = s.heap.objs.size + 1 := Heap.size_push ..
  show _ ∧ _
  rw [hz]
  have he : IsEnum ((s.heap.push o).push { cls := .type "enumerate", data := .fields #[.none, .bool false, .ref s.heap.objs.size, rawInt 0, .none, .none] }) (s.heap.objs.size + 1) s.heap.objs.size 0 .none := by
    have := Heap.get?_push_size (s.heap.push o) (o := { cls := .type "enumerate", data := .fields #[.none, .bool false, .ref s.heap.objs.size, rawInt 0, .none, .none] }) rfl
    rw [hz] at this; exact this
  exact ⟨⟨_, he, rfl⟩, h _ he (Heap.get?_push_of_some _ (Heap.get?_push_size _ B.free)) (by rw [Heap.size_push, hz]) fun b o x => Heap.get?_push_of_some _ (Heap.get?_push_of_some _ x)⟩
theorem tup_ne {h : Heap} {a b i : Nat} {items : Array Value} {n : String} {o : Obj} (p : h.IsTuple a items) (ho : h.get? b = some o) (hc : o.cls = .type n) (hn : n ≠ "tuple") : a ≠ b := by
  rintro rfl
  obtain ⟨ob, e, c, _⟩ := p
  rw [ho] at e
  cases e
  rw [hc] at c
  injection c with c
  exact hn c
theorem turn_enumT {P : Program} {w : World} {K : PySem.W.Frag} {elts : List Expr} {kk : Nat} {tpos : Pos} (a e it : Addr) :
    Turn P w K (.Tuple elts kk tpos) (IteT K a) [e, it] e (fun i h => (∃ old, IsEnum h e it ((i : Nat) : Int) old) ∧ h.IsTupleIter it a i ∧ e ≠ it) where
  mem := by simp
  obj := fun i h st b hb => by
    obtain ⟨⟨old, he⟩, ⟨o, ho, hc, hd⟩, _⟩ := st
    have e' : b = e ∨ b = it := by simpa using hb
    rcases e' with z | z
    · rw [z]; exact ⟨_, he, fun v q => nomatch q⟩
    · rw [z]; exact ⟨o, ho, fun v q => by rw [hd] at q; cases q⟩
  keep := fun i h h' st k => let ⟨⟨old, he⟩, hi, hne⟩ := st; ⟨⟨old, k e (by simp) _ he⟩, hi.at fun o q => k it (by simp) o q, hne⟩
  item := by
    intro X hP hw hK hc i pins s σ H E I hf st hg
    subst hP hw hK
    obtain ⟨⟨old, he⟩, hit, hne⟩ := st
    obtain ⟨xs, x, hq, hx⟩ := hg
    obtain ⟨its, rv, p, hz⟩ := I.tuple hq
    obtain ⟨u, hu, ru⟩ := rv.get hx
    have hel : e < s.heap.objs.size := Heap.lt_size he
    have hil : it < s.heap.objs.size := by obtain ⟨_, q, _⟩ := hit; exact Heap.lt_size q
    have pt : s.heap.IsTuple a its.toArray := p
    have hai : a ≠ it := by obtain ⟨o, ho, hc', _⟩ := id hit; exact tup_ne (i := 0) pt ho hc' (by decide)
    have hae : a ≠ e := tup_ne (i := 0) pt he rfl (by decide)
    have hlt : i < its.toArray.size := by
      rw [List.size_toArray]
      exact (List.getElem?_eq_some_iff.mp hu).1
    refine wpAny_pyNext_enum_itemD (Draws.tuple (A := X.A.in1) (I.ok.hd hc) it a hai its.toArray) he ⟨hit, pt⟩ hlt hne (by simp [hne, hae.symm]) fun x' h' tk hP' ho hst' hT hsz hk => ?_
    have ex : x' = u := by
      have h1 : its.toArray[i]? = some x' := hP'
      have h2 : its.toArray[i]? = some u := by simpa using hu
      rw [h1] at h2; exact Option.some.inj h2
    subst ex
    refine ⟨_, rfl, wpAny_letOwnedTupleGo_enum (s := { s with heap := h', toks := tk + 1 }) ho fun h'' he' sb => ?_⟩
    have hT2 : h''.get? s.heap.objs.size = some { cls := .type "tuple", data := .seq #[.int i tk, x'] } := (sb.2 _ (Nat.ne_of_gt hel)).trans hT
    have new : ObjOk X.prog X.w (upd H s.heap.objs.size (.tup [.int (i : Nat), x])) h'' s.heap.objs.size (.tup [.int (i : Nat), x]) :=
      ⟨by show 2 ≤ sizeLine; decide, [.int i tk, x'], .cons ⟨_, rfl⟩ (.cons ru .nil), ⟨_, hT2, rfl, _, rfl⟩⟩
    have I1 : Inv X pins σ (upd H s.heap.objs.size (.tup [.int (i : Nat), x])) { s with heap := h'', toks := tk + 1 } :=
      I.turnedNew (ch := [e, it]) (fun b ob hb q => (sb.2 b (fun z => hb (by simp [z]))).trans (hk b ob (fun z => hb (by simp [z])) (fun z => hb (by simp [z])) q)) hf (Nat.le_refl _) new
    refine ⟨.ref s.heap.objs.size, _, I1, rfl, ⟨_, x, rfl, I.hok.fresh (Nat.le_refl _), rfl, fun ys hy => by rw [I.tuple_inj hy hq]; exact hx⟩, ⟨⟨x', ?_⟩, hst'.1.at fun o q => (sb.2 it (Ne.symm hne)).trans q, hne⟩, fun b hb => ?_⟩
    · have e1 : ((i + 1 : Nat) : Int) = (i : Int) + 1 := by omega
      rw [e1]; exact he'
    · have hb' : b < s.heap.objs.size := by
        have e' : b = e ∨ b = it := by simpa using hb
        rcases e' with z | z
        · rw [z]; exact hel
        · rw [z]; exact hil
      rw [upd_ne (Nat.ne_of_lt hb')]
      exact (hf b hb).1
  done := by
    intro X hP hw hK hc i pins s σ H E I hf st hg
    subst hP hw hK
    obtain ⟨⟨old, he⟩, hit, hne⟩ := st
    obtain ⟨xs, hq, hx⟩ := hg
    obtain ⟨its, rv, p, hz⟩ := I.tuple hq
    obtain ⟨f0, f1, f2, f3, f4, f5⟩ := hf it (by simp)
    have hl := rv.length
    have pt : s.heap.IsTuple a its.toArray := p
    have hai : a ≠ it := by obtain ⟨o, ho, hc', _⟩ := id hit; exact tup_ne (i := 0) pt ho hc' (by decide)
    have en : i = its.toArray.size := by rw [List.size_toArray]; omega
    subst en
    exact wpAny_pyNext_enum_endD (Draws.tuple (A := X.A.in1) (I.ok.hd hc) it a hai its.toArray) he ⟨hit, pt⟩ fun h' eb => ⟨rfl, I.turned (t' := s.toks) (fun b o hb q => eb b o hb q) f0 f1 f3 f4 f5⟩
  self := fun A i s Q E st h => let ⟨⟨_, he⟩, _⟩ := st; wpAny_pyIter_enum he h
def iEnumT (K : PySem.W.Frag) (ta : TA) : TI := fun σ H R => ta σ H fun vs H1 => ∃ a xs, vs = [.ref a] ∧ SqT K H1 a xs ∧ R (IteT K a) H1
theorem pi_enumT {ta : TA} {p pos tpos : Pos} {elts : List Expr} {kk : Nat} (hg : Gl X "enumerate") (hm : X.mg "enumerate" = none) (ha : PA X [e] ta) (hs : starEach [e] X.env = [(false, eval e X.env)] := by rfl) :
    PI X (.Tuple elts kk tpos) (.Call (.Name "enumerate" p) [e] [] pos) (iEnumT X.K ta) := by
  refine ⟨fun pins s σ H R I h => ?_⟩
  refine Call_ (ld_blt I hg hm boot_enumerate (PyProof.Rows.callWith_type1 (thn (ha.run pos pins s σ H _ I h) fun us s1 ⟨vs, H1, I1, r1, q1⟩ => ?_) hs rfl))
  obtain ⟨a, xs, ex, hq, q⟩ := q1
  subst ex
  cases r1 with
  | cons r rr =>
    cases rr
    cases r
    obtain ⟨its, rv, p', hz⟩ := I1.tuple hq
    refine call_enumerate_B (begins_tuple a its.toArray) (show s1.heap.IsTuple a its.toArray from p') fun h' he hit hsz hk => wpAny_pyIter_enum he ?_
    have I2 : Inv X pins σ H1 { s1 with heap := h' } := I1.kept (t' := s1.toks) hk
    refine ⟨s1.heap.objs.size + 1, [s1.heap.objs.size + 1, s1.heap.objs.size], _, _, H1, rfl, I2, turn_enumT a (s1.heap.objs.size + 1) s1.heap.objs.size, ⟨⟨.none, he⟩, ⟨_, hit, rfl, rfl⟩, Nat.succ_ne_self _⟩, fun b hb => ?_, q⟩
    have e' : b = s1.heap.objs.size + 1 ∨ b = s1.heap.objs.size := by simpa using hb
    have hle : s1.heap.objs.size ≤ b := by
      rcases e' with z | z
      · rw [z]; exact Nat.le_add_right _ _
      · rw [z]; exact Nat.le_refl _
    exact I1.fpOk hle (I1.hok.fresh hle)
theorem PI.or2 {tg iter : Expr} {ta : TA} {f g : List V → Hp → (It → Hp → Prop) → Prop} (h : PI X tg iter (fun σ H R => ta σ H fun vs H1 => f vs H1 R)) (h' : PI X tg iter (fun σ H R => ta σ H fun vs H1 => g vs H1 R)) : True := trivial
theorem ki_enum {p tpos : Pos} {elts : List Expr} {kk : Nat} {mas : Cd.AM} (hm : X.mg "enumerate" = none) (ha : KA X ca W [e] mas) (hg : Gl X "enumerate" := by rfl) (hs : starEach [e] X.env = [(false, eval e X.env)] := by rfl) :
    KI X ca W (.Tuple elts kk tpos) (.Call (.Name "enumerate" p) [e] [] pos) (Cd.iArgs Cd.fEnum mas) := by
  refine PI.wk (PI.or (pi_enum hg hm ha hs) (pi_enumT hg hm ha hs)) fun σ H R q => ?_
  -- which of the two: read off the value
  obtain ⟨ρ, h, η, S, re, pp⟩ := id q
  have side : (∃ v h1, mas η h = .ok [v] h1 ∧ Cd.isT2 v (.tup []) = true) ∨ ¬ (∃ v h1, mas η h = .ok [v] h1 ∧ Cd.isT2 v (.tup []) = true) := Classical.em _
  have go : ∀ {C : List V → Hp → Prop}, (∀ ρ1 H1 h1 d x pq, mas η h = .ok [d] h1 → Sim X.K ρ1 h1 H1 → RV X.K ρ1 H1 d x → Cd.itemsS h1 d = some pq → (∀ ρ' H' J, Step ρ1 H1 ρ' H' → Sim X.K ρ' h1 H' → ItF X.K J (Cd.enumL pq.1) pq.2 ρ' H' → R J H') → C [x] H1) → tA X.K ca W mas σ H C := by
    intro C c
    refine ⟨ρ, h, η, S, re, ?_⟩
    unfold Cd.iArgs at pp
    cases em : mas η h with
    | stuck => rw [em] at pp; exact pp.elim
    | exc _ _ => rw [em] at pp; exact pp
    | ok vs h1 =>
      rw [em] at pp
      simp only [Cd.Res.bind_ok] at pp
      intro ρ1 H1 xs st1 S1 r1
      cases ef : Cd.fEnum h1 vs with
      | none => rw [ef] at pp; exact pp.elim
      | some qq =>
        rw [ef] at pp
        unfold Cd.fEnum at ef
        split at ef
        · rename_i d
          cases ei : Cd.itemsS h1 d with
          | none => rw [ei] at ef; cases ef
          | some pq =>
            rw [ei] at ef
            cases ef
            obtain ⟨x, rfl, r2⟩ := one_rv r1
            exact c ρ1 H1 h1 d x pq em S1 r2 ei fun ρ' H' J st S' F => pp ρ' H' J (st1.trans st) S' F
        · cases ef
  rcases side with ⟨v, hh, em, ht⟩ | hn
  · refine .inr (go fun ρ1 H1 h1 d x pq em2 S1 r2 ei k => ?_)
    rw [em] at em2; cases em2
    rcases itemsS_of S1 r2 ei with ⟨a, vs, rfl, q1, _, F⟩ | ⟨a, vs, rfl, q1, ht2, F⟩
    · exact ⟨a, vs, rfl, q1, k ρ1 H1 _ (Step.refl _ _) S1 (itf_enumT F)⟩
    · rw [ht] at ht2; cases ht2
  · refine .inl (go fun ρ1 H1 h1 d x pq em2 S1 r2 ei k => ?_)
    rcases itemsS_of S1 r2 ei with ⟨a, vs, rfl, q1, ht, F⟩ | ⟨a, vs, rfl, q1, _, F⟩
    · exact (hn ⟨_, _, em2, ht⟩).elim
    · exact ⟨a, vs, rfl, q1, k ρ1 H1 _ (Step.refl _ _) S1 (itf_enumL F)⟩
end
end Cb

set_option Elab.async false
set_option linter.all false
set_option maxRecDepth 100000
set_option maxHeartbeats 4000000
/-! CdB9: the bridge: texts; constants of the module. -/
namespace Cb
open PySem PySem.Spec PyProof.Rows L2 TL
section
variable {X : Cx} {K : PySem.W.Frag} {ca : String → Value} {W : WX}
theorem bf_ord' : BFnF K Cd.bOrd (fun xs H Q => ∃ x, xs = [.str x] ∧ x.length = 1 ∧ Q (.int (x.cps.getD 0 0 : Nat)) H) := by
  intro ρ h h' H ds u xs Q S r e k
  unfold Cd.bOrd at e
  split at e
  · cases e
    obtain ⟨x, rfl, r0⟩ := one_rv r
    cases r0
    exact ⟨_, rfl, rfl, k ρ H _ (Step.refl _ _) S (.int _)⟩
  · cases e
theorem cutAt_spl (s : Nat) : ∀ (l acc : List Nat), spl [s] 0 acc l = Cd.cutAt s acc l
  | [], acc => rfl
  | c :: r, acc => by
    by_cases q : c = s
    · subst q
      rw [spl_hit (show pre [c] (c :: r) = true by simp [pre]), Cd.cutAt, if_pos rfl]
      show acc :: spl [c] 0 [] r = _
      rw [cutAt_spl c r []]
    · rw [spl_miss (show pre [s] (c :: r) = false by simp [pre, q]), Cd.cutAt, if_neg q, cutAt_spl s r _]
theorem tl_toS (s : List Nat) : tl (toS s) = s := rfl
theorem rvs_strs {ρ : List Addr} {H : Hp} : ∀ l : List (List Nat), RVs K ρ H (l.map .str) ((l.map toS).map V.str)
  | [] => .nil
  | s :: l => .cons (.str s) (rvs_strs l)
theorem mf_split : MthF K Cd.mSplit (fun x xs H Q => ∃ a b, x = .str a ∧ xs = [.str b] ∧ (b.length == 0) = false ∧ a.length + 2 ≤ sizeLine ∧ rNewStrs (Txt.split a b) H Q) := by
  intro ρ h h' H x ds u ox xs Q S r1 r2 e k
  unfold Cd.mSplit at e
  split at e
  · split at e
    · rename_i s c hz
      cases e
      cases r1
      obtain ⟨y, rfl, ry⟩ := one_rv r2
      cases ry
      obtain ⟨h1, h2⟩ := hz
      rw [Cd.line_is] at h2
      refine ⟨_, _, rfl, rfl, rfl, by rw [sizeLine_eq]; exact h2, ?_⟩
      have e : (Txt.split (toS s) (toS [c])).map tl = Cd.cutAt c [] s := by
        rw [split_spl _ _ (by show [c] ≠ []; simp) (kind_ok (by show (([c] : List Nat).toArray.all fun x => decide (x < 256)) = true; simp [h1]))]
        exact cutAt_spl c s []
      have e2 : Txt.split (toS s) (toS [c]) = (Cd.cutAt c [] s).map toS := map_tl_inj (by
        rw [e, List.map_map]
        exact (List.map_id' (Cd.cutAt c [] s)).symm)
      rw [e2]
      exact lay_k S (rvs_strs _) k
    · cases e
  · cases e
/-! ### constants of the module -/
/-- a written value as one of mine -/
def valC : Value → Cd.Val → Bool
  | .none, .non => true
  | .bool a, .bl b => a == b
  | .int i _, .int j => i == j
  | .str z _, .str s => z.cps.toList == s
  | _, _ => false
def valsC : List Value → List Cd.Val → Bool
  | [], [] => true
  | v :: vs, d :: ds => valC v d && valsC vs ds
  | _, _ => false
theorem valC_of {K : PySem.W.Frag} {ρ : List Addr} {H : Hp} {v : Value} {d : Cd.Val} (h : valC v d = true) : ∃ x, RelV x v ∧ RV K ρ H d x := by
  unfold valC at h
  split at h
  · exact ⟨.non, rfl, .non⟩
  · rename_i a b; exact ⟨.bl b, by rw [beq_iff_eq.mp h]; rfl, .bl b⟩
  · rename_i i t j; exact ⟨.int j, ⟨t, by rw [beq_iff_eq.mp h]⟩, .int j⟩
  · rename_i z t s
    have e := beq_iff_eq.mp h
    refine ⟨.str (toS s), ⟨t, ?_⟩, .str s⟩
    have : toS s = z := ext_tl (by rw [tl_toS]; exact e.symm)
    rw [this]
  · cases h
theorem valsC_of {K : PySem.W.Frag} {ρ : List Addr} {H : Hp} : ∀ {vs : List Value} {ds : List Cd.Val}, valsC vs ds = true → ∃ xs, Vals xs vs ∧ RVs K ρ H ds xs
  | [], [], _ => ⟨[], .nil, .nil⟩
  | v :: vs, d :: ds, h => by
    rw [valsC, Bool.and_eq_true] at h
    obtain ⟨x, h1, h2⟩ := valC_of (K := K) (ρ := ρ) (H := H) h.1
    obtain ⟨xs, h3, h4⟩ := valsC_of (K := K) (ρ := ρ) (H := H) h.2
    exact ⟨x :: xs, .cons h1 h3, .cons h2 h4⟩
/-- an object that is a written tuple -/
def tupC (o : Obj) (ds : List Cd.Val) : Bool := match o.cls, o.data with
  | .type n, .seq its _ => n == "tuple" && decide (its.size ≤ 1000) && valsC its.toList ds
  | _, _ => false
theorem tupC_rv {a : Addr} {o : Obj} {ds : List Cd.Val} (lk : K.lookup a = some o) (h : tupC o ds = true) (ρ : List Addr) (H : Hp) : RV K ρ H (.tup ds) (.ref a) := by
  unfold tupC at h
  split at h
  · rename_i n its m hc hd
    simp only [Bool.and_eq_true, beq_iff_eq, decide_eq_true_eq] at h
    obtain ⟨⟨h1, h2⟩, h3⟩ := h
    obtain ⟨xs, h4, h5⟩ := valsC_of (K := K) (ρ := ρ) (H := H) h3
    exact .tup (.inr ⟨o, its, m, lk, by rw [hc, h1], hd, by rw [sizeLine_eq]; omega, h4⟩) h5
  · cases h
/-- f(): no argument -/
theorem k_call0 {k n : Nat} {f : Addr} {fd : FuncData} {ps : List Str} {F : Cd.Fn} {x : Str} {p pos : Pos} (G : FnOk X.prog X.w X.K X.mg X.base (L2.CX X.prog X.w) k f fd ps (spF X.K ca n F)) (tk : Takes X W) (hr : Room k X.A) (hg : Gl X x) (hm : X.mg x = some (.ref f))
    (hk : PySem.W.keepIn X.K (.ref f) = true) (hb : Binds X.K fd ps []) (hn : n = 0) (hdb : (x == ("__debug__" : Str)) = false := by decide) : KE X ca W (.Call (.Name x p) [] [] pos) (Cd.eCall F Cd.aNil) := by
  refine ⟨fun pins s σ H Q I ⟨ρ, h, η, S, re, q⟩ => ?_⟩
  refine wpAny_Call_Name_kw (ld_glob I hg hm ?_ hdb)
  refine PySem.W.callWith_K0 I.kIn hk (run_fnS (us := []) (vs := []) (E := fun σ => WE W σ) G hr hb (passAt tk σ) I .nil ?_)
  refine ⟨hn.symm, ρ, h, [], S, .nil, ?_⟩
  have q : postG X.K ca W (RV X.K) ρ H σ (F [] h) Q := q
  cases eF : F [] h with
  | stuck => rw [eF] at q; exact q.elim
  | ok v h2 => rw [eF] at q; exact fun ρ2 H2 x st2 S2 r2 => q ρ2 H2 x st2 S2 r2
  | exc ex h2 => rw [eF] at q; exact fun ρ2 H2 cls d st2 S2 r2 => q ρ2 H2 cls d st2 S2 r2
end
end Cb

set_option Elab.async false
set_option linter.all false
set_option maxRecDepth 100000
set_option maxHeartbeats 4000000
/-! CdB10: the bridge: raise X(), try .. except X [as e], isinstance of a caught error. -/
namespace Cb
open PySem PySem.Spec PyProof.Rows L2
section
variable {X : Cx} {K : PySem.W.Frag}
theorem bf_iadd : BinF K Cd.oIAdd (fun x y H Q => (rI0 fun i j => .int (i + j)) x y H Q ∨ (fun x y H Q => ∃ i j, x = V.str i ∧ y = V.str j ∧ i.length + j.length ≤ sizeLine ∧ Q (V.str (i ++ j)) H) x y H Q) := by
  intro ρ h H d e u x y Q S r1 r2 hu k
  unfold Cd.oIAdd at hu
  split at hu
  · cases hu
    cases r1
    cases r2
    exact .inl ⟨_, _, rfl, rfl, k ρ H _ (Step.refl _ _) S (.int _)⟩
  · rename_i s t
    split at hu
    · rename_i hl
      cases hu
      cases r1
      cases r2
      rw [line_eq] at hl
      exact .inr ⟨_, _, rfl, rfl, hl, by rw [← toS_app]; exact k ρ H _ (Step.refl _ _) S (.str _)⟩
    · cases hu
  · cases hu
theorem iop_addB : OpR X (inplaceOp .Add) (fun x y H Q => (rI0 fun i j => .int (i + j)) x y H Q ∨ (fun x y H Q => ∃ i j, x = V.str i ∧ y = V.str j ∧ i.length + j.length ≤ sizeLine ∧ Q (V.str (i ++ j)) H) x y H Q) := iop_add.or iop_add_str
end
/-- an own exception class over ValueError, without own __init__ -/
structure ExR (K : PySem.W.Frag) (C : Addr) : Prop where
  x : PySem.W.excIn K C [.type "ValueError", .type "Exception", .type "BaseException", .type "object"] "ValueError.__new__" = true
  k : PySem.W.keepIn K (.ref C) = true
  b : PySem.W.subIn K (.ref C) (.type "BaseException") = some true
  t : PySem.W.typeIn K (.ref C) = some (.type "type")
section
variable {X : Cx} {ca : String → Value} {W : WX} {C : Addr} {x : Str} {p pos : Pos}
/-- X() -/
theorem pmk_own0 (E : ExR X.K C) (gC : X.mg x = some (.ref C)) (hg : Gl X x) (hdb : (x == ("__debug__" : Str)) = false := by decide) : PMk X (.Call (.Name x p) [] [] pos) (fun _ H Q => Q (.ref C) none H) := by
  intro pins s σ H Q I h
  refine wpAny_Call_Name_kw (ld_glob I hg gC ?_ hdb)
  refine PySem.W.callWith_K0 I.kIn E.k ?_
  show wpAny _ _ (call (.ref C) []) _ _ _
  obtain ⟨bm, N, nm, qn, bs, hdct, sn, sub, ab, col, dd, k0, k1, k2, k3, k5, mN, hC, hN, hni, T⟩ := exc_obj I.kIn E.x
  refine wpAny_call_exc_subT PySem.F.excBase_ValueError T hC hN hni (fun h' e hm => ?_) (Nat.zero_le _)
  exact mk_of I hm (raises_own E.b E.t) h (I.hok.gone hm.new)
theorem ks_raise0 (c : String) {pos2 : Pos} (hc : X.calm = true) (tk : Takes X W) (E : ExR X.K C) (gC : X.mg x = some (.ref C)) (hca : ca c = .ref C) (hg : Gl X x := by rfl) (hdb : (x == ("__debug__" : Str)) = false := by decide) :
    KS X ca W (.Raise (some (.Call (.Name x p) [] [] pos)) none pos2) (Cd.sRaise c) := by
  refine PS.wk (ps_raise hc tk (pmk_own0 E gC hg hdb)) fun D σ H ⟨ρ, h, η, S, re, q⟩ => ?_
  exact q ρ H (.ref C) none σ (Step.refl _ _) S re ⟨hca.symm, .inl ⟨rfl, rfl⟩⟩
/-! ### slots forgotten -/
theorem RE.forget {K : PySem.W.Frag} {ρ : List Addr} {H : Hp} {η : Cd.Env} {σ : L2.St} (r : RE K ρ H η σ) (i : Nat) (o : Option V) : RE K ρ H (η.set i none) (σ.set i o) := by
  refine ⟨by rw [List.length_set, List.length_set, r.len], fun j d hj => ?_⟩
  by_cases z : i = j
  · subst z
    rw [List.getElem?_set] at hj
    split at hj
    · split at hj <;> cases hj
    · rename_i q; exact absurd rfl q
  · rw [List.getElem?_set_ne z] at hj
    rw [List.getElem?_set_ne z]
    exact r.at_ j d hj
/-- the ends of a suite whose name goes -/
abbrev offD (D : Ends) (i : Nat) : Ends := { nx := fun σ' H' => D.nx (σ'.set i none) H', rt := D.rt, bk := fun σ' H' => D.bk (σ'.set i none) H', ct := fun σ' H' => D.ct (σ'.set i none) H' }
theorem post_forget {K : PySem.W.Frag} {ρ : List Addr} {H : Hp} {r : Cd.SR} {D : Ends} {i : Nat} (p : postS K ca W ρ H (r.forget i) D) : postS K ca W0 ρ H r (offD D i) := by
  cases r with
  | nx η' h' => exact fun ρ' H' σ' st S re => p ρ' H' _ st S (re.forget i none)
  | brk η' h' => exact fun ρ' H' σ' st S re => p ρ' H' _ st S (re.forget i none)
  | cont η' h' => exact fun ρ' H' σ' st S re => p ρ' H' _ st S (re.forget i none)
  | ret v h' => exact p
  | exc e η' h' => exact p.elim
  | stuck => exact p.elim
theorem post_quiet {K : PySem.W.Frag} {ρ : List Addr} {H : Hp} {r : Cd.SR} {D : Ends} (p : postS K ca W ρ H r.quiet D) : postS K ca W0 ρ H r D := by
  cases r with
  | nx η' h' => exact p
  | brk η' h' => exact p
  | cont η' h' => exact p
  | ret v h' => exact p
  | exc e η' h' => exact p.elim
  | stuck => exact p.elim
end
section
variable {X : Cx} {ca : String → Value} {W : WX} {C : Addr} {x n : Str} {np pos pos' : Pos} {body suite : List Stmt} {b₀ : Stmt} {mb : Cd.SM} {tbl : List (String × Bool)}
theorem ks_try (i : Nat) {hd : Cd.Exc → Nat → Cd.SM} (hN : X.N.Nodup) (tk : Takes X W) (gC : X.mg x = some (.ref C)) (ht : ∀ c b, tbl.lookup c = some b → PySem.W.exmOne X.K (ca c) (.ref C) = some b)
    (hb : ∀ (W : WX) (pn : List (Addr × Obj)) (xe : Value → Shared → Prop), Takes (X.tr pn xe) W → PassesOwn (model X.prog X.w) X.A X.env xe → KSs (X.tr pn xe) ca W body mb)
    (hsu : ∀ (a : Addr) (oe : Obj) (e : Cd.Exc) (d : Option Addr) (pn : List (Addr × Obj)), Zc (ca e.cls) d oe → (∃ vs, oe.data = .fields vs) → (e.args = [] → d = none) → KSs (X.suite a ((a, oe) :: pn)) ca W0 (b₀ :: suite) (hd e a))
    (hs : X.stack = X.env :: X.outer := by rfl) (hf : X.env.frame = some X.env.locals := by rfl) (hi : X.N[i]? = some n := by rfl) (hln : X.env.kindOf n = some .local := by rfl) (hg : Gl X x := by rfl) (hdb : (x == ("__debug__" : Str)) = false := by decide) :
    KS X ca W (.Try body [.ExceptHandler (some (.Name x np)) (some n) (b₀ :: suite) pos'] [] [] pos) (Cd.sTry tbl i mb hd) := by
  refine PS.wk (ps_try_as (tb := fun W => tS X.K ca W mb) (ts := fun a cls d D σ H => ∃ e : Cd.Exc, cls = ca e.cls ∧ (e.args = [] → d = none) ∧ tS X.K ca W0 (hd e a) D σ H) hs hf hN hi hln ⟨hg, hdb, .inl gC⟩ tk hb (fun a oe cls d pn hz hfl => ?_)) fun D σ H ⟨ρ, h, η, S, re, p⟩ => ?_
  · refine ⟨fun pins s σ H D I ⟨e, he, hd', q⟩ => ?_⟩
    subst he
    exact (hsu a oe e d pn hz hfl hd').run pins s σ H D I q
  · refine ⟨ρ, h, η, S, re, ?_⟩
    unfold Cd.sTry at p
    cases eb : mb η h with
    | nx η' h' => rw [eb] at p; exact p
    | brk η' h' => rw [eb] at p; exact p
    | cont η' h' => rw [eb] at p; exact p
    | ret v h' => rw [eb] at p; exact p
    | stuck => rw [eb] at p; exact p.elim
    | exc e η' h' =>
      rw [eb] at p
      simp only at p
      intro ρ' H' cls d σ' st S' re' rx
      obtain ⟨rx1, rx2⟩ := rx
      cases el : tbl.lookup e.cls with
      | none => rw [el] at p; exact p.elim
      | some b =>
        rw [el] at p
        refine ⟨b, by rw [rx1]; exact ht _ _ el, fun hbt a ha => ?_, fun hbf => ?_⟩
        · subst hbt
          simp only at p
          split at p
          · rename_i hall
            rw [← hall a] at p
            refine ⟨e, rx1, fun z => ?_, ρ', h', η'.set i (some (.exo a)), S', re'.set (.exo a) i, post_forget (postS.mono st p)⟩
            rcases rx2 with ⟨_, q⟩ | ⟨dx, fs, q1, q2, q3⟩
            · exact q
            · exact absurd z q1
          · exact p.elim
        · subst hbf
          exact p ρ' H' cls d σ' st S' re' ⟨rx1, rx2⟩
theorem ks_tryO {hd : Cd.SM} (tk : Takes X W) (gC : X.mg x = some (.ref C)) (ht : ∀ c b, tbl.lookup c = some b → PySem.W.exmOne X.K (ca c) (.ref C) = some b)
    (hb : ∀ (W : WX) (pn : List (Addr × Obj)) (xe : Value → Shared → Prop), Takes (X.tr pn xe) W → PassesOwn (model X.prog X.w) X.A X.env xe → KSs (X.tr pn xe) ca W body mb)
    (hsu : ∀ (a : Addr) (oe : Obj) (pn : List (Addr × Obj)), KSs (X.suite a ((a, oe) :: pn)) ca W0 (b₀ :: suite) hd)
    (hs : X.stack = X.env :: X.outer := by rfl) (hf : X.env.frame = some X.env.locals := by rfl) (hg : Gl X x := by rfl) (hdb : (x == ("__debug__" : Str)) = false := by decide) :
    KS X ca W (.Try body [.ExceptHandler (some (.Name x np)) none (b₀ :: suite) pos'] [] [] pos) (Cd.sTryO tbl mb hd) := by
  refine PS.wk (ps_try_only (tb := fun W => tS X.K ca W mb) (ts := fun a cls d D σ H => tS X.K ca W0 hd D σ H) hs hf ⟨hg, hdb, .inl gC⟩ tk hb (fun a oe cls d pn hz hfl => ?_)) fun D σ H ⟨ρ, h, η, S, re, p⟩ => ?_
  · exact hsu a oe pn
  · refine ⟨ρ, h, η, S, re, ?_⟩
    unfold Cd.sTryO at p
    cases eb : mb η h with
    | nx η' h' => rw [eb] at p; exact p
    | brk η' h' => rw [eb] at p; exact p
    | cont η' h' => rw [eb] at p; exact p
    | ret v h' => rw [eb] at p; exact p
    | stuck => rw [eb] at p; exact p.elim
    | exc e η' h' =>
      rw [eb] at p
      simp only at p
      intro ρ' H' cls d σ' st S' re' rx
      obtain ⟨rx1, rx2⟩ := rx
      cases el : tbl.lookup e.cls with
      | none => rw [el] at p; exact p.elim
      | some b =>
        rw [el] at p
        refine ⟨b, by rw [rx1]; exact ht _ _ el, fun hbt a ha => ?_, fun hbf => ?_⟩
        · subst hbt
          exact ⟨ρ', h', η', S', re', post_quiet (postS.mono st p)⟩
        · subst hbf
          exact p ρ' H' cls d σ' st S' re' ⟨rx1, rx2⟩
end
/-! ### isinstance(e, X) in the suite -/
section
variable {X : Cx} {ca : String → Value} {W : WX} {D : Addr} {x : Str} {p p2 p3 pos : Pos} {n : Str} {tbl : List (String × Bool)} {a : Addr} {oe : Obj} {pn : List (Addr × Obj)} {e : Cd.Exc} {d : Option Addr}
theorem k_isE (i : Nat) (hz : Zc (ca e.cls) d oe) (hfl : ∃ vs, oe.data = .fields vs) (hd : e.args = [] → d = none) (ht : ∀ c b, tbl.lookup c = some b → ∃ C, ca c = .ref C ∧ ExcC X.K C ∧ PySem.W.kitOne X.K (.ref C) (.ref D) = some b)
    (hm : X.mg "isinstance" = none) (gD : X.mg x = some (.ref D)) (hN : X.N[i]? = some n := by rfl) (hv : Vis X.env.scope n := by first | exact Or.inl rfl | exact Or.inr (Or.inl rfl) | exact Or.inr (Or.inr rfl)) (hdn : (n == ("__debug__" : Str)) = false := by decide)
    (hcd : (n == ("__classdict__" : Str)) = false := by decide) (hg : Gl X "isinstance" := by rfl) (hg2 : Gl X x := by rfl) (hdb : (x == ("__debug__" : Str)) = false := by decide)
    (he : starEach [.Name n p3, .Name x p2] X.env = (false, eval (.Name n p3) X.env) :: starEach [.Name x p2] X.env := by rfl) (he2 : starEach [.Name x p2] X.env = (false, eval (.Name x p2) X.env) :: starEach [] X.env := by rfl) (hpl : (backTo pos (starEach [.Name x p2] X.env)).any (·.1) = false := by rfl) :
    KE (X.suite a ((a, oe) :: pn)) ca W (.Call (.Name "isinstance" p) [.Name n p3, .Name x p2] [] pos) (Cd.eIsE tbl e a (Cd.eVar i)) := by
  refine ⟨fun pins s σ H Q I ⟨ρ, h, η, S, re, q⟩ => ?_⟩
  have known : ∃ k, tbl.lookup e.cls = some k ∧ e.args = [] ∧ η[i]? = some (some (.exo a)) ∧ ∀ ρ' H' x, Step ρ H ρ' H' → Sim X.K ρ' h H' → RV X.K ρ' H' (.bl k) x → Q x H' := by
    unfold Cd.eIsE Cd.eVar at q
    split at q
    · rename_i v hv
      simp only [Cd.Res.bind_ok] at q
      split at q
      · split at q
        · rename_i zb
          subst zb
          split at q
          · rename_i z
            split at q
            · rename_i k hk; exact ⟨k, hk, z, hv, q⟩
            · exact q.elim
          · exact q.elim
        · exact q.elim
      · exact q.elim
    · exact q.elim
  obtain ⟨k, hk, z, hη, q2⟩ := known
  obtain ⟨C, hC, EC, kit⟩ := ht _ _ hk
  have hz' : Zc (.ref C) none oe := by rw [← hC, ← hd z]; exact hz
  obtain ⟨v, hσ, rv⟩ := re.at_ i _ hη
  cases rv
  have pa : PA (X.suite a ((a, oe) :: pn)) [.Name n p3, .Name x p2] (tCons (tVar i) (tCons (tC (.ref D)) tNil)) :=
    pa_cons (pv (X := X.suite a ((a, oe) :: pn)) i hN hv hdn hcd) (pa_cons (pe_glob (X := X.suite a ((a, oe) :: pn)) (v := .ref D) hg2 gD rfl hdb) pa_nil he2) he
  refine (pe_callB (X := X.suite a ((a, oe) :: pn)) (call_isE EC hz' hfl) hg hm (by decide +kernel) pa (by decide) (by decide) he hpl).run pins s σ H Q I ?_
  refine ⟨_, hσ, _, .ref D, k, rfl, fun u hu => hu, kit, ?_⟩
  exact q2 ρ H _ (Step.refl _ _) S (.bl _)
end
theorem tab_nil {P : String → Bool → Prop} : ∀ c b, ([] : List (String × Bool)).lookup c = some b → P c b := fun c b e => by cases e
theorem tab_cons {P : String → Bool → Prop} {k : String} {v : Bool} {t : List (String × Bool)} (h : P k v) (ht : ∀ c b, t.lookup c = some b → P c b) : ∀ c b, ((k, v) :: t).lookup c = some b → P c b := fun c b e => by
  rw [List.lookup_cons] at e
  split at e
  · rename_i q
    cases e
    rw [eq_of_beq q]
    exact h
  · exact ht c b e
theorem exm_of {K : PySem.W.Frag} {C D : Addr} {b : Bool} (h1 : PySem.W.subIn K (.ref D) (.type "BaseException") = some true) (h2 : PySem.W.hasDictIn K D = true) (h3 : PySem.W.typeIn K (.ref D) = some (.type "type")) (h4 : PySem.W.subIn K (.ref C) (.ref D) = some b) : PySem.W.exmOne K (.ref C) (.ref D) = some b :=
  PySem.W.exm_ref h1 h2 h3 h4
/-! ### the law's def -/
def spO (K : PySem.W.Frag) (n : Nat) (F : Cd.Fn) : Sp := fun vs H Q E => vs.length = n ∧ ∃ ρ h ds, Sim K ρ h H ∧ RVs K ρ H ds vs ∧
  match F ds h with
  | .ok v h' => ∀ ρ' H' x, Step ρ H ρ' H' → Sim K ρ' h' H' → RV K ρ' H' v x → Q x H'
  | _ => False
theorem spO_of {K : PySem.W.Frag} {ca : String → Value} {n : Nat} {F : Cd.Fn} : ∀ vs H Q E, spO K n F vs H Q E → spF K ca n F vs H Q E := fun vs H Q E ⟨hl, ρ, h, ds, S, r, p⟩ => by
  refine ⟨hl, ρ, h, ds, S, r, ?_⟩
  cases e : F ds h with
  | ok v h' => rw [e] at p; exact p
  | exc y h' => rw [e] at p; exact p.elim
  | stuck => rw [e] at p; exact p.elim
theorem law_spO {K : PySem.W.Frag} {H : Hp} {a : Addr} {ns : List Int} {M : Cd.Fn} {h : Cd.Hep} (hO : Only H) (hS : SqL K H a (ns.map V.int)) (e : M [.fl (ns.map .int)] [] = .ok (.bl true) h) : spO K 1 M [.ref a] H (fun v _ => v = .bl true) fun _ _ _ => False := by
  have fz : FzL K H a (ns.map V.int) := by
    rcases hS with (q | ⟨o, q⟩) | q
    · rcases hO a with z | ⟨o, xs, z⟩
      · rw [z] at q; cases q
      · rw [z] at q; cases q
    · exact .inl ⟨o, q⟩
    · exact .inr q
  refine ⟨rfl, [], [], [.fl (ns.map .int)], ⟨rfl, List.nodup_nil, fun n o a h1 => by simp at h1⟩, .cons (.fl fz (rvs_ints ns)) .nil, ?_⟩
  rw [e]
  intro ρ' H' x st S r
  cases r
  rfl
end Cb

set_option Elab.async false
set_option linter.all false
set_option maxRecDepth 100000
set_option maxHeartbeats 4000000
/-! CdB11: the bridge: str, join, zfill, startswith, endswith. -/
namespace Cb
open PySem PySem.Spec PyProof.Rows L2 TL
section
variable {X : Cx} {K : PySem.W.Frag} {ca : String → Value} {W : WX}
theorem bf_str : BFnF K Cd.bStr (fun xs H Q => ∃ i, xs = [.int i] ∧ i.natAbs.log2 < 1920 ∧ Q (.str (toString i)) H) := by
  intro ρ h h' H ds u xs Q S r e k
  unfold Cd.bStr at e
  split at e
  · split at e
    · rename_i i hi
      cases e
      obtain ⟨x, rfl, r0⟩ := one_rv r
      cases r0
      refine ⟨i, rfl, hi, ?_⟩
      refine k ρ H _ (Step.refl _ _) S ?_
      have q := RV.str (K := K) (ρ := ρ) (H := H) (Cd.S (toString i))
      rw [toS_S] at q
      exact q
    · cases e
  · cases e
theorem strs_rv {ρ : List Addr} {H : Hp} : ∀ {l : List Cd.Val} {vs : List V} {ps : List (List Nat)}, Cd.strsL l = some ps → RVs K ρ H l vs → vs = (ps.map toS).map V.str
  | [], vs, ps, e, r => by cases r; cases e; rfl
  | .str s :: l, vs, ps, e, r => by
    cases r with
    | cons r1 rs =>
      cases r1
      simp only [Cd.strsL] at e
      cases el : Cd.strsL l with
      | none => rw [el] at e; cases e
      | some qs =>
        rw [el] at e; cases e
        rw [strs_rv el rs]
        rfl
  | .non :: _, _, _, e, _ => by cases e
  | .bl _ :: _, _, _, e, _ => by cases e
  | .int _ :: _, _, _, e, _ => by cases e
  | .tup _ :: _, _, _, e, _ => by cases e
  | .fl _ :: _, _, _, e, _ => by cases e
  | .ref _ :: _, _, _, e, _ => by cases e
  | .exo _ :: _, _, _, e, _ => by cases e
theorem joinL_eq (s : List Nat) : ∀ ps : List (List Nat), TL.joinL s ps = Cd.joinL s ps
  | [] => rfl
  | [p] => rfl
  | p :: q :: r => by rw [TL.joinL, Cd.joinL, joinL_eq s (q :: r)]
theorem lens_eq : ∀ ps : List (List Nat), (ps.map toS).map (·.length) = ps.map List.length
  | [] => rfl
  | p :: ps => by
    rw [List.map_cons, List.map_cons, List.map_cons, lens_eq ps]
    rfl
theorem seqOf_of {ρ : List Addr} {h : Cd.Hep} {H : Hp} {d : Cd.Val} {x : V} {l : List Cd.Val} (S : Sim K ρ h H) (r : RV K ρ H d x) (e : Cd.seqOf h d = some l) : ∃ a vs, x = .ref a ∧ (SqL K H a vs ∨ SqT K H a vs) ∧ RVs K ρ H l vs := by
  cases r with
  | fl q rs => cases e; exact ⟨_, _, rfl, .inl q.sq, rs⟩
  | tup q rs => cases e; exact ⟨_, _, rfl, .inr q, rs⟩
  | ref q =>
    simp only [Cd.seqOf] at e
    split at e
    · rename_i m hl
      cases e
      obtain ⟨vs, e1, rs⟩ := S.obj _ _ _ hl q
      exact ⟨_, vs, rfl, .inl (SqL.of e1), rs⟩
    · cases e
  | _ => cases e
theorem mf_join : MthF K Cd.mJoin (fun x xs H Q => ∃ a p, ∃ ys : List Str, x = .str a ∧ xs = [.ref p] ∧ (SqL K H p (ys.map V.str) ∨ SqT K H p (ys.map V.str)) ∧
    (ys.map (·.length)).sum + ys.length * a.length ≤ 16777216 ∧ Q (.str (Txt.join a ys)) H) := by
  intro ρ h h' H x ds u ox xs Q S r1 r2 e k
  unfold Cd.mJoin at e
  split at e
  · rename_i s v
    split at e
    · rename_i ps hp
      split at e
      · rename_i hz
        cases e
        cases r1
        obtain ⟨y, rfl, ry⟩ := one_rv r2
        cases es : Cd.seqOf h v with
        | none => rw [es] at hp; cases hp
        | some l =>
          rw [es] at hp
          obtain ⟨a, vs, rfl, sq, rs⟩ := seqOf_of S ry es
          have ev := strs_rv hp rs
          subst ev
          refine ⟨_, a, ps.map toS, rfl, rfl, sq, ?_, ?_⟩
          · have hz : (ps.map List.length).sum + ps.length * s.length ≤ Cd.line := hz
            rw [Cd.line_is] at hz
            rw [lens_eq, List.length_map]
            exact hz
          · have ej : Txt.join (toS s) (ps.map toS) = toS (Cd.joinL s ps) := by
              refine ext_tl ?_
              rw [join_eq, tl_join, tl_toS, tl_toS, List.map_map, show (tl ∘ toS) = id from rfl, List.map_id, joinL_eq]
            rw [ej]
            exact k ρ H _ (Step.refl _ _) S (.str _)
      · cases e
    · cases e
  · cases e
theorem mf_starts : MthF K Cd.mStarts (fun x xs H Q => ∃ a b, x = .str a ∧ xs = [.str b] ∧ Q (.bl (Txt.startswith a b)) H) := by
  intro ρ h h' H x ds u ox xs Q S r1 r2 e k
  unfold Cd.mStarts at e
  split at e
  · rename_i s t
    cases e
    cases r1
    obtain ⟨y, rfl, ry⟩ := one_rv r2
    cases ry
    refine ⟨_, _, rfl, rfl, ?_⟩
    have e2 : Txt.startswith (toS s) (toS t) = decide (s.take t.length = t) := by
      unfold Txt.startswith
      rw [StrLaws.subAt_eq]
      show (decide (0 + t.length ≤ s.length) && (((s.drop 0).take t.length) == t)) = _
      rw [List.drop_zero, Nat.zero_add]
      by_cases q : s.take t.length = t
      · have l : t.length ≤ s.length := by
          have := congrArg List.length q
          rw [List.length_take] at this
          omega
        simp [q, l]
      · simp [q]
    rw [e2]
    exact k ρ H _ (Step.refl _ _) S (.bl _)
  · cases e
theorem mf_ends : MthF K Cd.mEnds (fun x xs H Q => ∃ a b, x = .str a ∧ xs = [.str b] ∧ Q (.bl (Txt.endswith a b)) H) := by
  intro ρ h h' H x ds u ox xs Q S r1 r2 e k
  unfold Cd.mEnds at e
  split at e
  · rename_i s t
    cases e
    cases r1
    obtain ⟨y, rfl, ry⟩ := one_rv r2
    cases ry
    refine ⟨_, _, rfl, rfl, ?_⟩
    have e2 : Txt.endswith (toS s) (toS t) = (decide (t.length ≤ s.length) && decide (s.drop (s.length - t.length) = t)) := by
      unfold Txt.endswith
      rw [StrLaws.subAt_eq]
      show (decide (0 + t.length ≤ s.length) && (((s.drop (s.length - t.length)).take t.length) == t)) = _
      rw [Nat.zero_add]
      by_cases l : t.length ≤ s.length
      · have e3 : (s.drop (s.length - t.length)).take t.length = s.drop (s.length - t.length) := by
          rw [List.take_of_length_le]
          rw [List.length_drop]; omega
        rw [e3]
        by_cases q : s.drop (s.length - t.length) = t <;> simp [q, l]
      · simp [l]
    rw [e2]
    exact k ρ H _ (Step.refl _ _) S (.bl _)
  · cases e
theorem tl_pad (x : Str) (n : Nat) : tl (Builtin.Str.padded x n 0 48) = List.replicate n 48 ++ tl x := by
  simp [tl, Builtin.Str.padded]
theorem zfill_eq (s : List Nat) (i : Int) : Txt.zfill (toS s) i = toS (Cd.zfillL s i) := by
  refine ext_tl ?_
  unfold Txt.zfill Cd.zfillL
  by_cases q : i ≤ s.length
  · rw [if_pos q, if_pos (show i ≤ ((toS s).length : Int) from q)]
  · rw [if_neg q, if_neg (show ¬ i ≤ ((toS s).length : Int) from q)]
    show tl (zfilled (toS s) (i.toNat - s.length)) = _
    have plain : ∀ t : List Nat, tl (Builtin.Str.padded (toS t) (i.toNat - s.length) 0 48) = List.replicate (i.toNat - s.length) 48 ++ t := fun t => tl_pad (toS t) _
    have sg : ∀ (c : Nat) (r : List Nat), s = c :: r → tl (Builtin.Str.strSub (toS s) 0 1 ++ Builtin.Str.padded (Builtin.Str.strSub (toS s) 1 (toS s).length) (i.toNat - s.length) 0 48) = c :: (List.replicate (i.toNat - s.length) 48 ++ r) := by
      intro c r hs
      rw [tl_append, tl_pad, tl_strSub, tl_strSub_end, tl_toS, hs]
      simp
    unfold zfilled
    cases s with
    | nil => exact plain []
    | cons c r =>
      have h0 : (toS (c :: r)).cps[0]? = some c := by simp [toS]
      rw [h0]
      by_cases q1 : c = 43
      · subst q1
        exact sg 43 r rfl
      · by_cases q2 : c = 45
        · subst q2
          exact sg 45 r rfl
        · split
          · rename_i z; exact absurd (Option.some.inj z) q1
          · rename_i z; exact absurd (Option.some.inj z) q2
          · split
            · rename_i z; exact absurd (List.cons.inj z).1 q1
            · rename_i z; exact absurd (List.cons.inj z).1 q2
            · exact plain _
theorem mf_zfill : MthF K Cd.mZfill (fun x xs H Q => ∃ (a : Str) (i : Int), x = .str a ∧ xs = [.int i] ∧ PadOk i = true ∧ Q (.str (Txt.zfill a i)) H) := by
  intro ρ h h' H x ds u ox xs Q S r1 r2 e k
  unfold Cd.mZfill at e
  split at e
  · rename_i s i
    split at e
    · rename_i hi
      cases e
      cases r1
      obtain ⟨y, rfl, ry⟩ := one_rv r2
      cases ry
      obtain ⟨h1, h2⟩ := hi
      rw [Cd.line_is] at h1
      refine ⟨_, i, rfl, rfl, ?_, ?_⟩
      · unfold PadOk fitsSsize Builtin.Str.tooLong
        rw [sizeLine_eq]
        simp
        omega
      · have ez : Txt.zfill (toS s) i = toS (Cd.zfillL s i) := by
          exact zfill_eq s i
        rw [ez]
        exact k ρ H _ (Step.refl _ _) S (.str _)
    · cases e
  · cases e
end
end Cb

set_option Elab.async false
set_option linter.all false
set_option maxRecDepth 100000
set_option maxHeartbeats 4000000
/-! CdB12: the bridge: list + list, l[::-1], int(figures), max of a list. -/
namespace Cb
open PySem PySem.Spec PyProof.Rows L2 TL
section
variable {X : Cx} {K : PySem.W.Frag} {ca : String → Value} {W : WX} {a b : Expr} {ma mb : Cd.EM} {pos : Pos}
theorem k_cat (ha : KE X ca W a ma) (hb : KE X ca W b mb) : KE X ca W (.BinOp a .Add b pos) (Cd.eCat ma mb) := by
  refine PE.wk (pe_op op_cat ha hb) fun σ H Q ⟨ρ, h, η, S, re, p⟩ => ?_
  refine ⟨ρ, h, η, S, re, postG.first p fun ρ1 H1 h1 d x st1 S1 r1 p1 => ?_⟩
  refine ⟨ρ1, h1, η, S1, re.mono st1 S, postG.first p1 fun ρ2 H2 h2 e y st2 S2 r2 p2 => ?_⟩
  have r1 := r1.mono st2 S1
  cases eo : Cd.oCat h2 d e with
  | none => rw [eo] at p2; exact p2.elim
  | some w =>
    obtain ⟨v, h3⟩ := w
    rw [eo] at p2
    unfold Cd.oCat at eo
    split at eo
    · split at eo
      · rename_i l k hl hk
        split at eo
        · rename_i hz
          cases eo
          cases r1 with
          | ref q1 =>
            cases r2 with
            | ref q2 =>
              obtain ⟨vs, e1, rs⟩ := S2.obj _ _ _ hl q1
              obtain ⟨ws, e2, ss⟩ := S2.obj _ _ _ hk q2
              rw [line_eq, rs.length, ss.length] at hz
              exact ⟨_, _, vs, ws, rfl, rfl, e1, e2, hz, lay_k S2 (rs.append ss) p2⟩
        · cases eo
      · cases eo
    · cases eo
theorem k_rev {k : Nat} {p1 p2 p3 : Pos} (ha : KE X ca W a ma) : KE X ca W (.Subscript a (.Slice none none (some (.UnaryOp .USub (.Constant (.int 1) k p1) p2)) p3) pos) (Cd.eRev ma) := by
  refine PE.wk (pe_revL ha) fun σ H Q ⟨ρ, h, η, S, re, p⟩ => ?_
  refine ⟨ρ, h, η, S, re, postG.first p fun ρ1 H1 h1 d x st1 S1 r1 p1 => ?_⟩
  cases el : Cd.itsL h1 d with
  | none => rw [el] at p1; exact p1.elim
  | some l =>
    rw [el] at p1
    obtain ⟨a, vs, rfl, sq, rs⟩ := seq_of S1 r1 el
    exact ⟨a, vs, rfl, sq, lay_k S1 rs.reverse p1⟩
theorem bf_intS : BFnF K Cd.bIntS (fun xs H Q => ∃ a n, xs = [.str a] ∧ PySem.intText? a = some n ∧ a.length ≤ 640 ∧ Q (.int n) H) := by
  intro ρ h h' H ds u xs Q S r e k
  unfold Cd.bIntS at e
  split at e
  · split at e
    · rename_i s hs
      cases e
      obtain ⟨x, rfl, r0⟩ := one_rv r
      cases r0
      obtain ⟨h1, h2, h3⟩ := hs
      exact ⟨_, _, rfl, SX.int_S h1 h2 (by omega), h3, k ρ H _ (Step.refl _ _) S (.int _)⟩
    · cases e
  · cases e
theorem ints_rv {ρ : List Addr} {H : Hp} : ∀ {l : List Cd.Val} {vs : List V} {ns : List Int}, Cd.intsL l = some ns → RVs K ρ H l vs → vs = ns.map V.int
  | [], vs, ps, e, r => by cases r; cases e; rfl
  | .int s :: l, vs, ps, e, r => by
    cases r with
    | cons r1 rs =>
      cases r1
      simp only [Cd.intsL] at e
      cases el : Cd.intsL l with
      | none => rw [el] at e; cases e
      | some qs =>
        rw [el] at e; cases e
        rw [ints_rv el rs]
        rfl
  | .non :: _, _, _, e, _ => by cases e
  | .bl _ :: _, _, _, e, _ => by cases e
  | .str _ :: _, _, _, e, _ => by cases e
  | .tup _ :: _, _, _, e, _ => by cases e
  | .fl _ :: _, _, _, e, _ => by cases e
  | .ref _ :: _, _, _, e, _ => by cases e
  | .exo _ :: _, _, _, e, _ => by cases e
theorem maxL_le : ∀ (l : List Int) (m : Int), m ≤ Cd.maxL m l ∧ ∀ y ∈ l, y ≤ Cd.maxL m l
  | [], m => ⟨Int.le_refl _, fun y h => by cases h⟩
  | i :: l, m => by
    by_cases q : m < i
    · obtain ⟨h1, h2⟩ := maxL_le l i
      have e : Cd.maxL m (i :: l) = Cd.maxL i l := by rw [Cd.maxL, if_pos q]
      rw [e]
      refine ⟨by omega, fun y hy => ?_⟩
      rcases List.mem_cons.mp hy with rfl | hy
      · exact h1
      · exact h2 y hy
    · obtain ⟨h1, h2⟩ := maxL_le l m
      have e : Cd.maxL m (i :: l) = Cd.maxL m l := by rw [Cd.maxL, if_neg q]
      rw [e]
      refine ⟨h1, fun y hy => ?_⟩
      rcases List.mem_cons.mp hy with rfl | hy
      · omega
      · exact h2 y hy
theorem maxL_mem : ∀ (l : List Int) (m : Int), Cd.maxL m l ∈ m :: l
  | [], m => List.mem_cons_self
  | i :: l, m => by
    have h := maxL_mem l (if m < i then i else m)
    rw [Cd.maxL]
    rcases List.mem_cons.mp h with h | h
    · rw [h]; split <;> simp
    · exact List.mem_cons_of_mem _ (List.mem_cons_of_mem _ h)
theorem bf_maxL : BFnF K Cd.bMaxL (rMax K) := by
  intro ρ h h' H ds u xs Q S r e k
  unfold Cd.bMaxL at e
  split at e
  · rename_i v
    split at e
    · rename_i i l hb
      cases e
      obtain ⟨x, rfl, r0⟩ := one_rv r
      cases el : Cd.itsL h v with
      | none => rw [el] at hb; cases hb
      | some m =>
        rw [el] at hb
        obtain ⟨a, vs, rfl, sq, rs⟩ := seq_of S r0 el
        have ev := ints_rv hb rs
        subst ev
        refine ⟨a, i :: l, rfl, sq, by simp, fun m hm hle => ?_⟩
        have q1 := maxL_le l i
        have q2 := maxL_mem l i
        have em : m = Cd.maxL i l := by
          apply Int.le_antisymm
          · rcases List.mem_cons.mp hm with rfl | z
            · exact q1.1
            · exact q1.2 m z
          · exact hle _ q2
        rw [em]
        exact k ρ H _ (Step.refl _ _) S (.int _)
    · cases e
  · cases e
theorem insI_perm (i : Int) : ∀ l : List Int, (Cd.insI i l).Perm (i :: l)
  | [] => List.Perm.refl _
  | j :: l => by
    rw [Cd.insI]
    split
    · exact List.Perm.refl _
    · exact ((insI_perm i l).cons j).trans (List.Perm.swap i j l)
theorem srtI_perm : ∀ l : List Int, (Cd.srtI l).Perm l
  | [] => List.Perm.refl _
  | i :: l => (insI_perm i _).trans ((srtI_perm l).cons i)
theorem insI_pw (i : Int) : ∀ l : List Int, l.Pairwise (· ≤ ·) → (Cd.insI i l).Pairwise (· ≤ ·)
  | [], _ => by simp [Cd.insI]
  | j :: l, h => by
    rw [Cd.insI]
    have h' := List.pairwise_cons.mp h
    split
    · rename_i q
      refine List.pairwise_cons.mpr ⟨fun y hy => ?_, h⟩
      rcases List.mem_cons.mp hy with rfl | hy
      · exact q
      · exact Int.le_trans q (h'.1 y hy)
    · rename_i q
      refine List.pairwise_cons.mpr ⟨fun y hy => ?_, insI_pw i l h'.2⟩
      rcases List.mem_cons.mp ((insI_perm i l).mem_iff.mp hy) with rfl | hy
      · omega
      · exact h'.1 y hy
theorem srtI_pw : ∀ l : List Int, (Cd.srtI l).Pairwise (· ≤ ·)
  | [] => List.Pairwise.nil
  | i :: l => insI_pw i _ (srtI_pw l)
theorem rvs_ints2 {ρ : List Addr} {H : Hp} : ∀ l : List Int, RVs K ρ H (l.map .int) (l.map V.int)
  | [] => .nil
  | s :: l => .cons (.int s) (rvs_ints2 l)
theorem bf_sortI : BFnF K Cd.bSortI (rSortedI K) := by
  intro ρ h h' H ds u xs Q S r e k
  unfold Cd.bSortI at e
  split at e
  · rename_i v
    split at e
    · rename_i ns hb
      cases e
      obtain ⟨x, rfl, r0⟩ := one_rv r
      cases el : Cd.itsL h v with
      | none => rw [el] at hb; cases hb
      | some m =>
        rw [el] at hb
        obtain ⟨a, vs, rfl, sq, rs⟩ := seq_of S r0 el
        have ev := ints_rv hb rs
        subst ev
        refine ⟨a, ns, rfl, sq, fun ns' p hp hw np => ?_⟩
        have en : ns' = Cd.srtI ns := List.Perm.eq_of_pairwise (fun a b _ _ h1 h2 => Int.le_antisymm h1 h2) hw (srtI_pw ns) (hp.trans (srtI_perm ns).symm)
        subst en
        exact lay_k S (rvs_ints2 _) k p np
    · cases e
  · cases e
end
end Cb

set_option Elab.async false
set_option linter.all false
set_option maxRecDepth 100000
set_option maxHeartbeats 4000000
/-! CdB13: the bridge: text * int, range of three, a def that calls itself. -/
namespace Cb
open PySem PySem.Spec PyProof.Rows L2 TL
theorem foldl_app (a : Array Nat) : ∀ (n : Nat) (acc : Array Nat), ((List.replicate n a).foldl (· ++ ·) acc).toList = acc.toList ++ (List.replicate n a.toList).flatten
  | 0, acc => by simp
  | n + 1, acc => by
    rw [List.replicate_succ, List.foldl_cons, foldl_app a n, List.replicate_succ, List.flatten_cons, Array.toList_append, List.append_assoc]
theorem mul_eq (s : List Nat) (i : Int) : Txt.mul (toS s) i = toS (Cd.repL s i.toNat) := by
  refine ext_tl ?_
  unfold Txt.mul Cd.repL
  by_cases h1 : i < 1
  · rw [if_pos h1, show i.toNat = 0 by omega]
    rfl
  · rw [if_neg h1]
    by_cases h2 : (i == 1 || (toS s).length == 0) = true
    · rw [if_pos h2]
      rcases Bool.or_eq_true _ _ |>.mp h2 with q | q
      · have : i = 1 := by simpa using q
        subst this
        show tl (toS s) = _
        simp
      · have q : s.length = 0 := eq_of_beq q
        have : s = [] := List.eq_nil_of_length_eq_zero q
        subst this
        show tl (toS []) = _
        simp
    · rw [if_neg h2]
      show ((List.replicate i.toNat (toS s).cps).foldl (· ++ ·) #[]).toList = _
      rw [foldl_app]
      show _ = (toS _).cps.toList
      simp [toS]
theorem mulOk_of {s : List Nat} {i : Int} (h : Cd.repOk s.length i) : MulOk (toS s) i := by
  obtain ⟨h1, h2, h3⟩ := h
  rw [Cd.line_is] at h2 h3
  have sl : sizeLine = 16777216 := sizeLine_eq
  refine ⟨by simp; omega, fun h4 h5 => ?_, fun h4 h5 => ?_⟩
  · show ¬ ((s.length : Int) > (2 ^ 63 - 1) / i)
    have : (s.length : Int) ≤ (2 ^ 63 - 1) / i := by
      rw [Int.le_ediv_iff_mul_le (by omega)]
      have e : (i.toNat : Int) = i := Int.toNat_of_nonneg (by omega)
      rw [← e]
      have : ((s.length * i.toNat : Nat) : Int) ≤ (16777216 : Nat) := Int.ofNat_le.mpr h3
      rw [Int.natCast_mul] at this
      omega
    omega
  · show Builtin.Str.tooLong (s.length * i.toNat) = false
    unfold Builtin.Str.tooLong
    rw [sl]
    simp
    exact h3
section
variable {X : Cx} {K : PySem.W.Frag} {ca : String → Value} {W : WX} {a b c : Expr} {ma mb : Cd.EM} {pos : Pos}
theorem op_mul_str : OpR X (binaryOp .Mult) (fun x y H Q => ∃ a i, x = V.str a ∧ y = V.int i ∧ MulOk a i ∧ Q (V.str (Txt.mul a i)) H) := by
  intro pins s σ H x y v u Q I rx ry h
  obtain ⟨i, j, rfl, rfl, hz, q⟩ := h
  obtain ⟨t, rfl⟩ := rx
  obtain ⟨t', rfl⟩ := ry
  exact SB.mul hz (fun t' tk => ⟨.str _, H, I.tok _, ⟨_, rfl⟩, q⟩)
theorem op_mulS : OpR X (binaryOp .Mult) (fun x y H Q => (rI CMulA fun i j => .int (i * j)) x y H Q ∨ (fun x y H Q => ∃ a i, x = V.str a ∧ y = V.int i ∧ MulOk a i ∧ Q (V.str (Txt.mul a i)) H) x y H Q) := op_mulA.or op_mul_str
theorem bf_mulS : BinF K Cd.oMulS (fun x y H Q => (rI CMulA fun i j => .int (i * j)) x y H Q ∨ (fun x y H Q => ∃ a i, x = V.str a ∧ y = V.int i ∧ MulOk a i ∧ Q (V.str (Txt.mul a i)) H) x y H Q) := by
  intro ρ h H d e u x y Q S r1 r2 hu k
  unfold Cd.oMulS at hu
  split at hu
  · split at hu
    · rename_i hm
      cases hu; cases r1; cases r2
      exact .inl ⟨_, _, rfl, rfl, mulA_of hm, k ρ H _ (Step.refl _ _) S (.int _)⟩
    · cases hu
  · split at hu
    · rename_i s i hm
      cases hu; cases r1; cases r2
      exact .inr ⟨_, _, rfl, rfl, mulOk_of hm, by rw [mul_eq]; exact k ρ H _ (Step.refl _ _) S (.str _)⟩
    · cases hu
  · cases hu
theorem itf_rngC {ρ : List Addr} {H : Hp} (lo c : Int) (n : Nat) : ItF K (Itc lo c n) (Cd.rngC lo c n) (fun _ => true) ρ H where
  go := fun ρ1 H1 h1 i st S1 _ hi => by
    have : i < n := by simpa [Cd.rngC] using hi
    exact this
  stop := fun ρ1 H1 h1 i st S1 _ hi => by
    have : i = n := by simpa [Cd.rngC] using hi
    exact Nat.le_of_eq this.symm
  yld := fun ρ1 H1 h1 i d x H' st S1 _ hd y => by
    obtain ⟨rfl, rfl⟩ := y
    have hi : i < n := by
      have := (List.getElem?_eq_some_iff.mp hd).1
      simpa [Cd.rngC] using this
    unfold Cd.rngC at hd
    rw [List.getElem?_map, List.getElem?_range hi] at hd
    cases hd
    exact ⟨Step.refl _ _, S1, .int _⟩
theorem rgC_of {i j c : Int} (h1 : Cd.i40 i) (h2 : Cd.i40 j) (h3 : 0 < c) (h4 : c < 2 ^ 29) : RgC i j c (Cd.stepN i j c) := by
  obtain ⟨a1, a2⟩ := h1
  obtain ⟨b1, b2⟩ := h2
  have d0 : i < j → 0 ≤ (j - i - 1) / c := fun q => Int.ediv_nonneg (by omega) (by omega)
  have d1 : i < j → (j - i - 1) / c ≤ j - i - 1 := fun q => Int.ediv_le_self _ (by omega)
  have rs : Builtin.Range.rangeSize i j c = (Cd.stepN i j c : Int) := by
    unfold Builtin.Range.rangeSize Cd.stepN
    rw [if_pos h3]
    split
    · rename_i q
      have := d0 q
      omega
    · rfl
  have sz : (Cd.stepN i j c : Int) < 2 ^ 42 := by
    unfold Cd.stepN
    split
    · rename_i q
      have := d0 q
      have := d1 q
      omega
    · decide
  refine ⟨by omega, by omega, ?_, rs⟩
  unfold Builtin.Range.small
  rw [rs]
  simp only [Builtin.Range.rangeFitsLong, Bool.and_eq_true, Bool.or_eq_true, decide_eq_true_eq, beq_iff_eq, h3, if_true]
  omega
theorem ki_rng3 {tg : Expr} {p : Pos} {mas : Cd.AM} (hm : X.mg "range" = none) (ha : KA X ca W [a, b, c] mas) (hg : Gl X "range" := by rfl) (hs : starEach [a, b, c] X.env = (false, eval a X.env) :: starEach [b, c] X.env := by rfl) (hpl : (backTo pos (starEach [b, c] X.env)).any (·.1) = false := by rfl) :
    KI X ca W tg (.Call (.Name "range" p) [a, b, c] [] pos) (Cd.iArgs Cd.fRng3 mas) := by
  refine PI.wk (pi_range3 hg hm ha hs hpl) fun σ H R p => tI_args p fun ρ1 H1 h1 ds xs q S1 r1 ef k => ?_
  unfold Cd.fRng3 at ef
  split at ef
  · rename_i i j c
    split at ef
    · rename_i hj
      cases ef
      cases r1 with
      | cons r2 r3 =>
        cases r2
        cases r3 with
        | cons r4 r5 =>
          cases r4
          cases r5 with
          | cons r6 r7 =>
            cases r6; cases r7
            exact ⟨i, j, c, _, rfl, rgC_of hj.1 hj.2.1 hj.2.2.1 hj.2.2.2, k ρ1 H1 _ (Step.refl _ _) S1 (itf_rngC i c _)⟩
    · cases ef
  · cases ef
end
section
variable {P : Program} {w : World} {K : PySem.W.Frag} {mg : Str → Option Value} {base : Heap} {ca : String → Value}
theorem fnOk_stuck {k n : Nat} {f : Addr} {fd : FuncData} {ps : List Str} : FnOk P w K mg base (L2.CX P w) k f fd ps (spF K ca n Cd.fnStuck) := by
  have no : ∀ vs H Q E, spF K ca n Cd.fnStuck vs H Q E → False := fun vs H Q E h => by
    obtain ⟨_, ρ, h0, ds, _, _, p⟩ := h
    exact p
  exact ⟨fun vs H Q E h => (no vs H Q E h).elim, fun A outer s H args us vs Q E hr he hb hv hs => (no vs H Q E hs).elim⟩
end
end Cb

set_option Elab.async false
set_option linter.all false
set_option maxRecDepth 100000
set_option maxHeartbeats 4000000
/-! CdB14: the bridge: dicts; written dicts; upper. -/
namespace Cb
open PySem PySem.Spec PyProof.Rows L2 TL
theorem room1 {k : Nat} {A : Around} (r : Room k A) : A.units + 1 < cLine := by
  have := r.un
  omega
section
variable {K : PySem.W.Frag} {ρ : List Addr} {H : Hp}
theorem keyOf_some {k : Cd.Val} (h : Cd.isKey k = true) : ∃ κ, keyOf k = some κ := by
  cases k <;> first | exact ⟨_, rfl⟩ | cases h
theorem key_rv {k : Cd.Val} {κ : Key} {x : V} (h : keyOf k = some κ) (r : RV K ρ H k x) : x = kV κ := by
  cases r with
  | int i => cases h; rfl
  | str s => cases h; rfl
  | _ => cases h
theorem keyEq_iff {a b : Cd.Val} {κ μ : Key} (ha : keyOf a = some κ) (hb : keyOf b = some μ) : Cd.keyEq a b = decide (κ = μ) := by
  cases a with
  | int i =>
    cases ha
    cases b with
    | int j =>
      cases hb
      show (i == j) = _
      by_cases q : i = j
      · subst q; simp
      · rw [beq_false_of_ne q, decide_eq_false (fun z => q (Sum.inl.inj z))]
    | str s => cases hb; rw [decide_eq_false (fun z => by cases z)]; rfl
    | _ => cases hb
  | str s =>
    cases ha
    cases b with
    | int j => cases hb; rw [decide_eq_false (fun z => by cases z)]; rfl
    | str t =>
      cases hb
      show (s == t) = _
      by_cases q : s = t
      · subst q; simp
      · rw [beq_false_of_ne q, decide_eq_false (fun z => q (toS_inj.mp (Sum.inr.inj z)))]
    | _ => cases hb
  | _ => cases ha
theorem RD.length {l : List (Cd.Val × Cd.Val)} {kvs : List (Key × V)} (r : RD K ρ H l kvs) : l.length = kvs.length := by
  induction r with
  | nil => rfl
  | cons e r t ih => rw [List.length_cons, List.length_cons, ih]
theorem RD.get {l : List (Cd.Val × Cd.Val)} {kvs : List (Key × V)} (r : RD K ρ H l kvs) {k : Cd.Val} {κ : Key} (hk : keyOf k = some κ) :
    match Cd.dGet l k with
    | some d => ∃ v, valV kvs κ = some v ∧ RV K ρ H d v
    | none => valV kvs κ = none := by
  induction r with
  | nil => rfl
  | @cons k1 d κ1 v l kvs e r t ih =>
    rw [Cd.dGet]
    have q := keyEq_iff e hk
    by_cases z : κ1 = κ
    · subst z
      rw [decide_eq_true rfl] at q
      rw [show (if Cd.keyEq (k1, d).1 k = true then some (k1, d).2 else Cd.dGet l k) = some d from if_pos q]
      exact ⟨v, valV_pos (p := (κ1, v)) rfl, r⟩
    · rw [decide_eq_false z] at q
      rw [show (if Cd.keyEq (k1, d).1 k = true then some (k1, d).2 else Cd.dGet l k) = Cd.dGet l k from if_neg (by rw [q]; decide)]
      rw [show valV ((κ1, v) :: kvs) κ = valV kvs κ from valV_neg (p := (κ1, v)) z]
      exact ih
theorem RD.has {l : List (Cd.Val × Cd.Val)} {kvs : List (Key × V)} (r : RD K ρ H l kvs) {k : Cd.Val} {κ : Key} (hk : keyOf k = some κ) : (valV kvs κ).isSome = Cd.dHas l k := by
  have q := r.get hk
  unfold Cd.dHas
  cases e : Cd.dGet l k with
  | some d => rw [e] at q; obtain ⟨v, e2, _⟩ := q; rw [e2]; rfl
  | none => rw [e] at q; simp only at q; rw [q]; rfl
theorem RD.upd {l : List (Cd.Val × Cd.Val)} {kvs : List (Key × V)} (r : RD K ρ H l kvs) {k d : Cd.Val} {κ : Key} {v : V} (hk : keyOf k = some κ) (rv : RV K ρ H d v) : RD K ρ H (Cd.dUpd k d l) (kvs.map fun kv => if kv.1 = κ then (kv.1, v) else kv) := by
  induction r with
  | nil => exact .nil
  | @cons k1 d1 κ1 v1 l kvs e r t ih =>
    rw [Cd.dUpd, List.map_cons]
    have q := keyEq_iff e hk
    by_cases z : κ1 = κ
    · subst z
      rw [decide_eq_true rfl] at q
      rw [show (if Cd.keyEq (k1, d1).1 k = true then ((k1, d1).1, d) else (k1, d1)) = (k1, d) from if_pos q, if_pos rfl]
      exact .cons e rv ih
    · rw [decide_eq_false z] at q
      rw [show (if Cd.keyEq (k1, d1).1 k = true then ((k1, d1).1, d) else (k1, d1)) = (k1, d1) from if_neg (by rw [q]; decide), if_neg z]
      exact .cons e r ih
theorem RD.snoc {l : List (Cd.Val × Cd.Val)} {kvs : List (Key × V)} (r : RD K ρ H l kvs) {k d : Cd.Val} {κ : Key} {v : V} (hk : keyOf k = some κ) (rv : RV K ρ H d v) : RD K ρ H (l ++ [(k, d)]) (kvs ++ [(κ, v)]) := by
  induction r with
  | nil => exact .cons hk rv .nil
  | cons e r t ih => exact .cons e r ih
theorem RD.put {l : List (Cd.Val × Cd.Val)} {kvs : List (Key × V)} (r : RD K ρ H l kvs) {k d : Cd.Val} {κ : Key} {v : V} (hk : keyOf k = some κ) (rv : RV K ρ H d v) : RD K ρ H (Cd.dPut l k d) (putK kvs κ v) := by
  unfold Cd.dPut putK
  rw [valV_any, r.has hk]
  cases Cd.dHas l k with
  | true => exact r.upd hk rv
  | false => exact r.snoc hk rv
end
section
variable {X : Cx} {ca : String → Value} {W : WX} {a b c e : Expr} {ma mb me : Cd.EM} {pos : Pos}
theorem dct_at {ρ : List Addr} {h : Cd.Hep} {H : Hp} {n : Nat} {x : V} {l : List (Cd.Val × Cd.Val)} (S : Sim X.K ρ h H) (r : RV X.K ρ H (.ref n) x) (hl : h[n]? = some (.dct l)) : ∃ p kvs, x = .ref p ∧ ρ[n]? = some p ∧ H p = some (.dK kvs) ∧ RD X.K ρ H l kvs := by
  cases r with
  | ref q =>
    obtain ⟨kvs, e1, rd⟩ := S.obj _ _ _ hl q
    exact ⟨_, kvs, rfl, q, e1, rd⟩
theorem k_dnew : KE X ca W (.Dict [] [] pos) Cd.eDNew := by
  refine PE.wk pe_dnewK fun σ H Q ⟨ρ, h, η, S, re, p⟩ => ?_
  intro q hq
  exact p (ρ ++ [q]) _ (.ref q) (Step.lay q _ hq) (S.lay hq ⟨[], upd_same, .nil⟩) (.ref (by rw [← S.len, List.getElem?_append_right (Nat.le_refl _), Nat.sub_self]; rfl))
theorem k_didx (hu : X.A.units + 1 < cLine) (ha : KE X ca W a ma) (hb : KE X ca W b mb) (hs : NoSl b) : KE X ca W (.Subscript a b pos) (Cd.eBin Cd.oDIdx ma mb) := by
  refine PE.wk (pe_dget hu ha hb hs) fun σ H Q ⟨ρ, h, η, S, re, p⟩ => ?_
  refine ⟨ρ, h, η, S, re, postG.first p fun ρ1 H1 h1 d x st1 S1 r1 p1 => ?_⟩
  refine ⟨ρ1, h1, η, S1, re.mono st1 S, postG.first p1 fun ρ2 H2 h2 k y st2 S2 r2 p2 => ?_⟩
  obtain ⟨u, hu, kk⟩ := p2.ofO
  unfold Cd.oDIdx at hu
  split at hu
  · split at hu
    · rename_i l hl
      split at hu
      · rename_i hk
        obtain ⟨κ, eκ⟩ := keyOf_some hk
        obtain ⟨p, kvs, rfl, _, e1, rd⟩ := dct_at S2 (r1.mono st2 S1) hl
        have g := rd.get eκ
        rw [hu] at g
        obtain ⟨v, ev, rv⟩ := g
        have ky := key_rv eκ r2
        subst ky
        exact ⟨p, v, rfl, ev ▸ DGet.k e1, kk ρ2 H2 v (Step.refl _ _) S2 rv⟩
      · cases hu
    · cases hu
  · cases hu
theorem tDIn_of : ∀ σ H Q, tE X.K ca W (Cd.eBin Cd.oDIn ma mb) σ H Q → tDIn (tE X.K ca W ma) (tE X.K ca W mb) σ H Q := by
  rintro σ H Q ⟨ρ, h, η, S, re, p⟩
  refine ⟨ρ, h, η, S, re, postG.first p fun ρ1 H1 h1 k y st1 S1 r1 p1 => ?_⟩
  refine ⟨ρ1, h1, η, S1, re.mono st1 S, postG.first p1 fun ρ2 H2 h2 d x st2 S2 r2 p2 => ?_⟩
  obtain ⟨u, hu, kk⟩ := p2.ofO
  unfold Cd.oDIn at hu
  split at hu
  · split at hu
    · rename_i l hl
      split at hu
      · rename_i hk
        cases hu
        obtain ⟨κ, eκ⟩ := keyOf_some hk
        obtain ⟨p, kvs, rfl, _, e1, rd⟩ := dct_at S2 r2 hl
        have ky := key_rv eκ (r1.mono st2 S1)
        subst ky
        refine ⟨p, _, rfl, DGet.k e1, ?_⟩
        rw [rd.has eκ]
        exact kk ρ2 H2 _ (Step.refl _ _) S2 (.bl _)
      · cases hu
    · cases hu
  · cases hu
theorem tDNin_of : ∀ σ H Q, tE X.K ca W (Cd.eBin Cd.oDNin ma mb) σ H Q → tDNotIn (tE X.K ca W ma) (tE X.K ca W mb) σ H Q := by
  rintro σ H Q ⟨ρ, h, η, S, re, p⟩
  refine ⟨ρ, h, η, S, re, postG.first p fun ρ1 H1 h1 k y st1 S1 r1 p1 => ?_⟩
  refine ⟨ρ1, h1, η, S1, re.mono st1 S, postG.first p1 fun ρ2 H2 h2 d x st2 S2 r2 p2 => ?_⟩
  obtain ⟨u, hu, kk⟩ := p2.ofO
  unfold Cd.oDNin at hu
  split at hu
  · split at hu
    · rename_i l hl
      split at hu
      · rename_i hk
        cases hu
        obtain ⟨κ, eκ⟩ := keyOf_some hk
        obtain ⟨p, kvs, rfl, _, e1, rd⟩ := dct_at S2 r2 hl
        have ky := key_rv eκ (r1.mono st2 S1)
        subst ky
        refine ⟨p, _, rfl, DGet.k e1, ?_⟩
        rw [rd.has eκ]
        exact kk ρ2 H2 _ (Step.refl _ _) S2 (.bl _)
      · cases hu
    · cases hu
  · cases hu
theorem k_din (hu : X.A.units + 1 < cLine) (ha : KE X ca W a ma) (hb : KE X ca W b mb) (hm : behindInMarks .In b = false) : KE X ca W (.Compare a [.In] [b] pos) (Cd.eBin Cd.oDIn ma mb) := PE.wk (pe_cmp (pc_din hu ha hb) hm) tDIn_of
theorem k_dnin (hu : X.A.units + 1 < cLine) (ha : KE X ca W a ma) (hb : KE X ca W b mb) (hm : behindInMarks .NotIn b = false) : KE X ca W (.Compare a [.NotIn] [b] pos) (Cd.eBin Cd.oDNin ma mb) := PE.wk (pe_cmp (pc_dnotin hu ha hb) hm) tDNin_of
theorem kt_din (hu : X.A.units + 1 < cLine) (ha : KE X ca W a ma) (hb : KE X ca W b mb) (hm : behindInMarks .In b = false) : KT X ca W (.Compare a [.In] [b] pos) (Cd.tVal (Cd.eBin Cd.oDIn ma mb)) :=
  PT.wk (pt_cmp (pc_din hu ha hb) hm) fun σ H Q p => tDIn_of σ H _ (tB_of σ H Q p)
theorem kt_dnin (hu : X.A.units + 1 < cLine) (ha : KE X ca W a ma) (hb : KE X ca W b mb) (hm : behindInMarks .NotIn b = false) : KT X ca W (.Compare a [.NotIn] [b] pos) (Cd.tVal (Cd.eBin Cd.oDNin ma mb)) :=
  PT.wk (pt_cmp (pc_dnotin hu ha hb) hm) fun σ H Q p => tDNin_of σ H _ (tB_of σ H Q p)
theorem setDx_of {K : PySem.W.Frag} {ρ : List Addr} {h h' : Cd.Hep} {H : Hp} {o k v : Cd.Val} {oo kk vv : V} {Q : Hp → Prop} (S : Sim K ρ h H) (r1 : RV K ρ H o oo) (r2 : RV K ρ H k kk) (r3 : RV K ρ H v vv) (e : Cd.setDx h o k v = some h') (q : ∀ H', Step ρ H ρ H' → Sim K ρ h' H' → Q H') : rSetD oo kk vv H Q := by
  unfold Cd.setDx at e
  split at e
  · split at e
    · rename_i l hl
      split at e
      · rename_i hk
        split at e
        · rename_i hz
          cases e
          obtain ⟨κ, eκ⟩ := keyOf_some hk
          cases r1 with
          | @ref _ p hp =>
            obtain ⟨kvs, e1, rd⟩ := S.obj _ _ _ hl hp
            have ky := key_rv eκ r2
            subst ky
            have hz' : kvs.length < sizeLine := by
              rw [line_eq, rd.length] at hz
              omega
            have st : Step ρ H ρ (upd H p (.dK (putK kvs κ vv))) := Step.put hp
            exact ⟨p, _, rfl, DPut.k e1 hz', q _ st (S.put hp ⟨_, upd_same, (rd.put eκ r3).mono st S⟩)⟩
        · cases e
      · cases e
    · cases e
  · cases e
theorem ks_setDx (he : KE X ca W e me) (ho : KE X ca W a ma) (hi : KE X ca W b mb) {tpos : Pos} (hs : swapsWithSole [.Subscript a b tpos] e pos.line X.env = pure false := by rfl) (hw : swappedStores [.Subscript a b tpos] e X.env = pure none := by rfl) (h1 : (assignEach [.Subscript a b tpos] X.env).map (·.2) = [assign (.Subscript a b tpos) X.env] := by rfl) (hx : assign (.Subscript a b tpos) X.env = assign (.Subscript a b tpos) X.env := by rfl) (pg : PG X (.Subscript a b tpos) (gSub (tE X.K ca W ma) (tE X.K ca W mb) rSetD)) :
    KS X ca W (.Assign [.Subscript a b tpos] e pos) (Cd.sSetDx ma mb me) := by
  refine PS.wk (ps_asg he pg hs hw h1) fun D σ H ⟨ρ, h, η, S, re, p⟩ => ?_
  refine ⟨ρ, h, η, S, re, postS.first S re p fun ρ1 H1 h1 v vv st1 S1 r1 re1 p1 => ?_⟩
  refine ⟨ρ1, h1, η, S1, re1, postS.first S1 re1 p1 fun ρ2 H2 h2 x ox st2 S2 r2 re2 p2 => ?_⟩
  refine ⟨ρ2, h2, η, S2, re2, postS.first S2 re2 p2 fun ρ3 H3 h3 k ik st3 S3 r3 re3 p3 => ?_⟩
  cases es : Cd.setDx h3 x k v with
  | none => rw [es] at p3; exact p3.elim
  | some h4 =>
    rw [es] at p3
    exact setDx_of S3 (r2.mono st3 S2) r3 ((r1.mono st2 S1).mono st3 S2) es fun H' st S' => p3 ρ3 H' σ st S' (re3.mono st S3)
theorem pps_txt {k v : String} {j1 j2 : Nat} {p1 p2 : Pos} {ks : List (Option Expr)} {vs : List Expr} {l : List (String × String)} (h : PPs X pos ks vs (l.map fun p => (tC (.str (toS (Cd.S p.1))), tC (.str (toS (Cd.S p.2)))))) :
    PPs X pos (some (.Constant (.str (Str.ofString k)) j1 p1) :: ks) (.Constant (.str (Str.ofString v)) j2 p2 :: vs) (((k, v) :: l).map fun p => (tC (.str (toS (Cd.S p.1))), tC (.str (toS (Cd.S p.2))))) := by
  rw [List.map_cons]
  refine pps_cons ?_ ?_ h
  · rw [← toS_S]; exact pe_str
  · rw [← toS_S]; exact pe_str
theorem tPairs_txt {σ : L2.St} {H : Hp} {Q : List (V × V) → Hp → Prop} : ∀ (l : List (String × String)) (pre : List (V × V)), Q (pre ++ l.map fun p => (V.str (toS (Cd.S p.1)), V.str (toS (Cd.S p.2)))) H →
    tPairs (l.map fun p => (tC (.str (toS (Cd.S p.1))), tC (.str (toS (Cd.S p.2))))) σ H fun ps H2 => Q (pre ++ ps) H2
  | [], pre, q => q
  | p :: l, pre, q => by
    show tPairs (l.map _) σ H fun ps H3 => Q (pre ++ (V.str (toS (Cd.S p.1)), V.str (toS (Cd.S p.2))) :: ps) H3
    have := tPairs_txt (σ := σ) (H := H) (Q := Q) l (pre ++ [(V.str (toS (Cd.S p.1)), V.str (toS (Cd.S p.2)))]) (by rw [List.append_assoc]; exact q)
    simpa using this
theorem mergeK_new : ∀ (kvs acc : List (Key × V)), (acc ++ kvs).Pairwise (fun a b => a.1 ≠ b.1) → mergeK acc kvs = acc ++ kvs
  | [], acc, _ => by rw [List.append_nil]; rfl
  | p :: kvs, acc, h => by
    have e : putK acc p.1 p.2 = acc ++ [p] := by
      unfold putK
      rw [if_neg]
      intro z
      obtain ⟨q, hq, e⟩ := List.any_eq_true.mp z
      have := (List.pairwise_append.mp h).2.2 q hq p List.mem_cons_self
      exact this (of_decide_eq_true e)
    show mergeK (putK acc p.1 p.2) kvs = _
    rw [e, mergeK_new kvs (acc ++ [p]) (by rw [List.append_assoc]; exact h), List.append_assoc]
    rfl
theorem k_dtxt {l : List (String × String)} {keys : List (Option Expr)} {values : List Expr} (h : PPs X pos keys values (l.map fun p => (tC (.str (toS (Cd.S p.1))), tC (.str (toS (Cd.S p.2))))))
    (hall : keys.all (·.isSome) = true) (hl : keys.length = values.length) (h0 : keys ≠ []) (h15 : keys.length ≤ 15) (l15 : l.length ≤ 15) (hnd : l.Pairwise (fun a b => Cd.S a.1 ≠ Cd.S b.1)) : KE X ca W (.Dict keys values pos) (Cd.eDTxt l) := by
  refine PE.wk (pe_disp h hall hl h0 h15) fun σ H Q ⟨ρ, hh, η, S, re, p⟩ => ?_
  intro q hq
  refine tPairs_txt (Q := fun ps H2 => H2 q = some (.dK []) ∧ ∃ kvs : List (Key × V), ps = kvs.map (fun kv => (kV kv.1, kv.2)) ∧ kvs.length ≤ 15 ∧ Q (.ref q) (upd H2 q (.dK (mergeK [] kvs)))) l [] ?_
  refine ⟨upd_same, l.map fun p => (.inr (toS (Cd.S p.1)), .str (toS (Cd.S p.2))), by rw [List.map_map]; rfl, by rw [List.length_map]; exact l15, ?_⟩
  rw [upd_upd, mergeK_new _ [] (by
    rw [List.nil_append, List.pairwise_map]
    exact hnd.imp fun {a b} n z => n (toS_inj.mp (Sum.inr.inj z))), List.nil_append]
  have rd : ∀ l : List (String × String), RD X.K (ρ ++ [q]) (upd H q (.dK (l.map fun p => (.inr (toS (Cd.S p.1)), .str (toS (Cd.S p.2)))))) (l.map fun p => (.str (Cd.S p.1), .str (Cd.S p.2))) (l.map fun p => (.inr (toS (Cd.S p.1)), .str (toS (Cd.S p.2)))) := by
    intro l
    generalize upd H q _ = H'
    induction l with
    | nil => exact .nil
    | cons p l ih => exact .cons rfl (.str _) ih
  exact p (ρ ++ [q]) _ (.ref q) (Step.lay q _ hq) (S.lay hq ⟨_, upd_same, rd l⟩) (.ref (by rw [← S.len, List.getElem?_append_right (Nat.le_refl _), Nat.sub_self]; rfl))
theorem k_dget2 {o : Expr} {mo : Cd.EM} {apos cpos : Pos} (hu : X.A.units + 1 < cLine) (ho : KE X ca W o mo) (ha : KE X ca W a ma) (hb : KE X ca W b mb) (m : M2 X o "get" apos a b cpos) : KE X ca W (.Call (.Attribute o "get" apos) [a, b] [] cpos) (Cd.eDGet2 mo ma mb) := by
  refine PE.wk (pe_dget2 hu ho ha hb m) fun σ H Q ⟨ρ, h, η, S, re, p⟩ => ?_
  refine ⟨ρ, h, η, S, re, postG.first p fun ρ1 H1 h1 d x st1 S1 r1 p1 => ?_⟩
  split at p1
  · rename_i hd
    have key : ∃ n l, d = .ref n ∧ h1[n]? = some (.dct l) := by
      unfold Cd.isDct at hd
      split at hd
      · split at hd
        · rename_i n l hl; exact ⟨_, _, rfl, hl⟩
        · cases hd
      · cases hd
    obtain ⟨n, l, rfl, hl⟩ := key
    obtain ⟨p, kvs, rfl, hp, e1, rd⟩ := dct_at S1 r1 hl
    refine ⟨p, rfl, .inl ⟨kvs, Rd.of e1⟩, ρ1, h1, η, S1, re.mono st1 S, postG.first p1 fun ρ2 H2 h2 k y st2 S2 r2 p2 => ?_⟩
    refine ⟨ρ2, h2, η, S2, (re.mono st1 S).mono st2 S1, postG.first p2 fun ρ3 H3 h3 z w st3 S3 r3 p3 => ?_⟩
    obtain ⟨u, hu, kk⟩ := p3.ofO
    unfold Cd.oDGet2 at hu
    simp only at hu
    split at hu
    · rename_i l3 hl3
      split at hu
      · rename_i hk
        cases hu
        obtain ⟨κ, eκ⟩ := keyOf_some hk
        obtain ⟨p', kvs3, ep, _, e3, rd3⟩ := dct_at S3 ((r1.mono st2 S1).mono st3 S2) hl3
        cases ep
        have ky := key_rv eκ (r2.mono st3 S2)
        subst ky
        refine ⟨_, DGet.k e3, ?_⟩
        have g := rd3.get eκ
        cases eg : Cd.dGet l3 k with
        | some d => rw [eg] at g kk; obtain ⟨v, ev, rv⟩ := g; rw [ev]; exact kk ρ3 H3 v (Step.refl _ _) S3 rv
        | none => rw [eg] at g kk; simp only at g; rw [g]; exact kk ρ3 H3 w (Step.refl _ _) S3 r3
      · cases hu
    · cases hu
  · exact p1.elim
theorem tblGet_some {tbl : List (String × Option String)} {s : List Nat} {r : Option String} (h : Cd.tblGet tbl s = some r) : ∃ k, (k, r) ∈ tbl ∧ Cd.S k = s := by
  unfold Cd.tblGet at h
  cases e : tbl.find? fun p => Cd.S p.1 == s with
  | none => rw [e] at h; cases h
  | some p =>
    rw [e] at h
    cases h
    exact ⟨p.1, List.mem_of_find?_eq_some e, eq_of_beq (List.find?_some (p := fun p : String × Option String => Cd.S p.1 == s) e)⟩
/-- what a written dict holds -/
structure KTab (K : PySem.W.Frag) (w : World) (d : Addr) (tbl : List (String × Option String)) : Prop where
  kd : ∃ es n, KDict K w d es n
  at_ : ∀ k r, (k, r) ∈ tbl → match r with
    | some t => ∃ u, PySem.W.nsIn K d (Str.ofString k) = some (some u) ∧ RelV (.str (Str.ofString t)) u
    | none => PySem.W.nsIn K d (Str.ofString k) = some none
theorem KTab.look {K : PySem.W.Frag} {w : World} {d : Addr} {tbl : List (String × Option String)} (T : KTab K w d tbl) {s : List Nat} {t : String} (h : Cd.tblGet tbl s = some (some t)) :
    ∃ u, PySem.W.nsIn K d (toS s) = some (some u) ∧ RelV (.str (toS (Cd.S t))) u := by
  obtain ⟨k, m, rfl⟩ := tblGet_some h
  have q := T.at_ k _ m
  rw [toS_S, toS_S]
  exact q
theorem KTab.no {K : PySem.W.Frag} {w : World} {d : Addr} {tbl : List (String × Option String)} (T : KTab K w d tbl) {s : List Nat} (h : Cd.tblGet tbl s = some none) : PySem.W.nsIn K d (toS s) = some none := by
  obtain ⟨k, m, rfl⟩ := tblGet_some h
  have q := T.at_ k _ m
  rw [toS_S]
  exact q
theorem tKIn_of {d : Addr} {tbl : List (String × Option String)} (T : KTab X.K X.w d tbl) : ∀ σ H Q, tE X.K ca W (Cd.eUn (Cd.oKIn tbl) ma) σ H Q → tOp (fun x y H Q => ∃ (z : Str) (r : Option Value), x = .str z ∧ y = .ref d ∧ PySem.W.nsIn X.K d z = some r ∧ Q (.bl r.isSome) H) (tE X.K ca W ma) (tC (.ref d)) σ H Q := by
  rintro σ H Q ⟨ρ, h, η, S, re, p⟩
  refine ⟨ρ, h, η, S, re, postG.first p fun ρ1 H1 h1 x xx st1 S1 r1 p1 => ?_⟩
  obtain ⟨u, hu, kk⟩ := p1.ofO
  unfold Cd.oKIn at hu
  split at hu
  · rename_i s
    cases r1
    cases et : Cd.tblGet tbl s with
    | none => rw [et] at hu; cases hu
    | some r =>
      rw [et] at hu
      cases hu
      cases r with
      | none => exact ⟨_, none, rfl, rfl, T.no et, kk ρ1 H1 _ (Step.refl _ _) S1 (.bl _)⟩
      | some t => obtain ⟨u, e1, _⟩ := T.look et; exact ⟨_, some u, rfl, rfl, e1, kk ρ1 H1 _ (Step.refl _ _) S1 (.bl _)⟩
  · cases hu
theorem k_kin {d : Addr} {tbl : List (String × Option String)} {x : Str} {xp : Pos} (T : KTab X.K X.w d tbl) (hm : X.mg x = some (.ref d)) (ha : KE X ca W a ma) (hg : Gl X x := by rfl) (hd : (x == ("__debug__" : Str)) = false := by decide) (hb : behindInMarks .In (.Name x xp) = false := by rfl) :
    KE X ca W (.Compare a [.In] [.Name x xp] pos) (Cd.eUn (Cd.oKIn tbl) ma) := by
  obtain ⟨es, n, D⟩ := T.kd
  exact PE.wk (pe_cmpR (op_in_kd D) ha (pe_glob hg hm (v := .ref d) rfl hd) hb) (tKIn_of T)
theorem kt_kin {d : Addr} {tbl : List (String × Option String)} {x : Str} {xp : Pos} (T : KTab X.K X.w d tbl) (hm : X.mg x = some (.ref d)) (ha : KE X ca W a ma) (hg : Gl X x := by rfl) (hd : (x == ("__debug__" : Str)) = false := by decide) (hb : behindInMarks .In (.Name x xp) = false := by rfl) :
    KT X ca W (.Compare a [.In] [.Name x xp] pos) (Cd.tVal (Cd.eUn (Cd.oKIn tbl) ma)) := by
  obtain ⟨es, n, D⟩ := T.kd
  exact PT.wk (pt_cmpR (op_in_kd D) ha (pe_glob hg hm (v := .ref d) rfl hd) hb) fun σ H Q p => tKIn_of T σ H _ (tB_of σ H Q p)
theorem k_kget {d : Addr} {tbl : List (String × Option String)} {x : Str} {xp : Pos} (T : KTab X.K X.w d tbl) (hm : X.mg x = some (.ref d)) (ha : KE X ca W a ma) (hg : Gl X x := by rfl) (hd : (x == ("__debug__" : Str)) = false := by decide) (hs : PlainIx a := by exact fun _ _ => rfl) :
    KE X ca W (.Subscript (.Name x xp) a pos) (Cd.eUn (Cd.oKGet tbl) ma) := by
  refine PE.wk (pe_ix ix_kdict (pe_glob hg hm (v := .ref d) rfl hd) ha hs) fun σ H Q ⟨ρ, h, η, S, re, p⟩ => ?_
  refine ⟨ρ, h, η, S, re, postG.first p fun ρ1 H1 h1 y yy st1 S1 r1 p1 => ?_⟩
  obtain ⟨u, hu, kk⟩ := p1.ofO
  unfold Cd.oKGet at hu
  split at hu
  · rename_i s
    cases r1
    split at hu
    · rename_i t et
      cases hu
      obtain ⟨es, n, D⟩ := T.kd
      obtain ⟨u, e1, rl⟩ := T.look et
      exact ⟨d, _, .str (toS (Cd.S t)), rfl, rfl, ⟨es, n, u, D.at_, D.lit, e1, rl⟩, kk ρ1 H1 _ (Step.refl _ _) S1 (.str _)⟩
    · cases hu
  · cases hu
theorem mf_upper : MthF X.K Cd.mUpper (fun x xs H Q => ∃ a, x = .str a ∧ xs = [] ∧ a.length ≤ 5592405 ∧ Q (.str (Txt.upper a)) H) := by
  intro ρ h h' H x ds u ox xs Q S r1 r2 e k
  unfold Cd.mUpper at e
  split at e
  · rename_i s
    split at e
    · rename_i hz
      cases e
      cases r1
      cases r2
      refine ⟨_, rfl, rfl, Nat.le_trans (show s.length ≤ 1000000 from hz.2) (by decide), ?_⟩
      have eu : Txt.upper (toS s) = toS (s.map Cd.up1) := by
        rw [PyProof.Rows.upper_ascii (x := toS s) (fun c hc => of_decide_eq_true (List.all_eq_true.mp hz.1 c hc))]
        show (⟨Array.map PyProof.Rows.up1 s.toArray⟩ : Str) = ⟨(s.map Cd.up1).toArray⟩
        rw [List.map_toArray]
        rfl
      rw [eu]
      exact k ρ H _ (Step.refl _ _) S (.str _)
    · cases e
  · cases e
end
end Cb

set_option maxRecDepth 100000
/-! CdLib: how the combinators reckon; loops by what holds of them. -/
namespace Cd
open Classical
@[simp] theorem szOk_iff {n : Nat} : szOk n ↔ n ≤ 16777216 := by
  unfold szOk
  rw [line_is]
@[simp] theorem get_0 {α : Type} (a : α) (l : List α) : (a :: l)[0]? = some a := id rfl
@[simp] theorem get_S {α : Type} (a : α) (l : List α) (i : Nat) : (a :: l)[i + 1]? = l[i]? := id rfl
@[simp] theorem eVar_eq (i : Nat) (η : Env) (h : Hep) : eVar i η h = ofO (η[i]?).join h := by
  unfold eVar
  cases e : η[i]? with
  | none => rfl
  | some o => cases o <;> rfl
@[simp] theorem eC_eq (v : Val) (η : Env) (h : Hep) : eC v η h = .ok v h := id rfl
@[simp] theorem eBin_eq (f : Hep → Val → Val → Option Val) (a b : EM) (η : Env) (h : Hep) : eBin f a b η h = (a η h).bind fun x h1 => (b η h1).bind fun y h2 => ofO (f h2 x y) h2 := id rfl
@[simp] theorem eUn_eq (f : Hep → Val → Option Val) (a : EM) (η : Env) (h : Hep) : eUn f a η h = (a η h).bind fun x h1 => ofO (f h1 x) h1 := id rfl
@[simp] theorem aNil_eq (η : Env) (h : Hep) : aNil η h = .ok [] h := id rfl
@[simp] theorem aCons_eq (a : EM) (r : AM) (η : Env) (h : Hep) : aCons a r η h = (a η h).bind fun x h1 => (r η h1).bind fun xs h2 => .ok (x :: xs) h2 := id rfl
@[simp] theorem eTup_eq (a : AM) (η : Env) (h : Hep) : eTup a η h = (a η h).bind fun xs h1 => if szOk xs.length then .ok (.tup xs) h1 else .stuck := id rfl
@[simp] theorem eLst_eq (a : AM) (η : Env) (h : Hep) : eLst a η h = (a η h).bind fun xs h1 => if szOk xs.length then .ok (.ref h1.length) (h1 ++ [.lst xs]) else .stuck := id rfl
@[simp] theorem eCall_eq (F : Fn) (a : AM) (η : Env) (h : Hep) : eCall F a η h = (a η h).bind fun xs h1 => F xs h1 := id rfl
@[simp] theorem eIf_eq (c : TM) (a b : EM) (η : Env) (h : Hep) : eIf c a b η h = (c η h).bind fun k h1 => if k then a η h1 else b η h1 := id rfl
@[simp] theorem eAnd_eq (a b : EM) (η : Env) (h : Hep) : eAnd a b η h = (a η h).bind fun x h1 => match x with | .bl true => b η h1 | .bl false => .ok (.bl false) h1 | _ => .stuck := id rfl
@[simp] theorem eOr_eq (a b : EM) (η : Env) (h : Hep) : eOr a b η h = (a η h).bind fun x h1 => match x with | .bl true => .ok (.bl true) h1 | .bl false => b η h1 | _ => .stuck := id rfl
@[simp] theorem eNot_eq (a : EM) (η : Env) (h : Hep) : eNot a η h = (a η h).bind fun x h1 => match x with | .bl k => .ok (.bl (!k)) h1 | _ => .stuck := id rfl
@[simp] theorem tVal_eq (a : EM) (η : Env) (h : Hep) : tVal a η h = (a η h).bind fun x h1 => match x with | .bl k => .ok k h1 | _ => .stuck := id rfl
@[simp] theorem tAnd_eq (a b : TM) (η : Env) (h : Hep) : tAnd a b η h = (a η h).bind fun k h1 => if k then b η h1 else .ok false h1 := id rfl
@[simp] theorem tOr_eq (a b : TM) (η : Env) (h : Hep) : tOr a b η h = (a η h).bind fun k h1 => if k then .ok true h1 else b η h1 := id rfl
@[simp] theorem tNot_eq (a : TM) (η : Env) (h : Hep) : tNot a η h = (a η h).bind fun k h1 => .ok (!k) h1 := id rfl
@[simp] theorem tTru_eq (a : EM) (η : Env) (h : Hep) : tTru a η h = (a η h).bind fun x h1 => ofO (truth h1 x) h1 := id rfl
@[simp] theorem truth_bl (h : Hep) (k : Bool) : truth h (.bl k) = some k := id rfl
@[simp] theorem truth_non (h : Hep) : truth h .non = some false := id rfl
@[simp] theorem truth_int (h : Hep) (i : Int) : truth h (.int i) = some (i != 0) := id rfl
@[simp] theorem truth_tup (h : Hep) (l : List Val) : truth h (.tup l) = some (!l.isEmpty) := id rfl
@[simp] theorem sNop_eq (η : Env) (h : Hep) : sNop η h = .nx η h := id rfl
@[simp] theorem sBrk_eq (η : Env) (h : Hep) : sBrk η h = .brk η h := id rfl
@[simp] theorem sCont_eq (η : Env) (h : Hep) : sCont η h = .cont η h := id rfl
@[simp] theorem sSeq_eq (a b : SM) (η : Env) (h : Hep) : sSeq a b η h = (a η h).bind fun η1 h1 => b η1 h1 := id rfl
@[simp] theorem sSet_eq (i : Nat) (e : EM) (η : Env) (h : Hep) : sSet i e η h = (e η h).thn η fun v h1 => .nx (η.set i (some v)) h1 := id rfl
@[simp] theorem sExpr_eq (e : EM) (η : Env) (h : Hep) : sExpr e η h = (e η h).thn η fun _ h1 => .nx η h1 := id rfl
@[simp] theorem sRet_eq (e : EM) (η : Env) (h : Hep) : sRet e η h = (e η h).thn η fun v h1 => .ret v h1 := id rfl
@[simp] theorem sRetN_eq (η : Env) (h : Hep) : sRetN η h = .ret .non h := id rfl
@[simp] theorem sIf_eq (c : TM) (a b : SM) (η : Env) (h : Hep) : sIf c a b η h = (c η h).thn η fun k h1 => if k then a η h1 else b η h1 := id rfl
@[simp] theorem sAug_eq (i : Nat) (f : Hep → Val → Val → Option Val) (e : EM) (η : Env) (h : Hep) : sAug i f e η h = (ofO (η[i]?).join h).thn η fun x h => (e η h).thn η fun y h1 => (ofO (f h1 x y) h1).thn η fun z h2 => .nx (η.set i (some z)) h2 := by
  unfold sAug
  cases e : η[i]? with
  | none => rfl
  | some o => cases o <;> rfl
@[simp] theorem sAsg_eq (g : GM) (e : EM) (η : Env) (h : Hep) : sAsg g e η h = (e η h).thn η fun v h1 => match g v η with | some η1 => .nx η1 h1 | none => .stuck := id rfl
@[simp] theorem gNam_eq (i : Nat) (v : Val) (η : Env) : gNam i v η = some (η.set i (some v)) := id rfl
@[simp] theorem gsNil_eq (η : Env) : gsNil [] η = some η := id rfl
@[simp] theorem gsCons_eq (g : GM) (r : GMs) (v : Val) (t : List Val) (η : Env) : gsCons g r (v :: t) η = (g v η).bind fun η1 => r t η1 := id rfl
@[simp] theorem gTpl_eq (gs : GMs) (l : List Val) (η : Env) : gTpl gs (.tup l) η = gs l η := id rfl
@[simp] theorem sFor_eq (it : IM) (g : GM) (b : SM) (η : Env) (h : Hep) : sFor it g b η h = (it η h).thn η fun p h1 => forL g p.2 b p.1 η h1 := id rfl
@[simp] theorem iArgs_eq (f : Hep → List Val → Option (List Val × (Hep → Bool))) (a : AM) (η : Env) (h : Hep) : iArgs f a η h = (a η h).bind fun vs h1 => ofO (f h1 vs) h1 := id rfl
@[simp] theorem iVal_eq (e : EM) (η : Env) (h : Hep) : iVal e η h = (e η h).bind fun v h1 => ofO (items h1 v) h1 := id rfl
@[simp] theorem items_tup (h : Hep) (l : List Val) : items h (.tup l) = some (l, fun _ => true) := id rfl
@[simp] theorem items_fl (h : Hep) (l : List Val) : items h (.fl l) = some (l, fun _ => true) := id rfl
@[simp] theorem items_str (h : Hep) (s : List Nat) : items h (.str s) = some (s.map fun c => .str [c], fun _ => true) := id rfl
@[simp] theorem eCallB_eq (F : BFn) (a : AM) (η : Env) (h : Hep) : eCallB F a η h = (a η h).bind fun xs h1 => match F xs h1 with | some (v, h2) => .ok v h2 | none => .stuck := id rfl
/-! operators -/
@[simp] theorem oAdd_int (h : Hep) (i j : Int) : oAdd h (.int i) (.int j) = some (.int (i + j)) := id rfl
@[simp] theorem oSub_int (h : Hep) (i j : Int) : oSub h (.int i) (.int j) = some (.int (i - j)) := id rfl
theorem oMul_int {h : Hep} {i j : Int} (m : mulOk i j) : oMul h (.int i) (.int j) = some (.int (i * j)) := by show (if _ then _ else _) = _; rw [if_pos m]
theorem oDiv_int {h : Hep} {i j : Int} (m : divOk j) : oDiv h (.int i) (.int j) = some (.int (i / j)) := by show (if _ then _ else _) = _; rw [if_pos m]
theorem oMod_int {h : Hep} {i j : Int} (m : 0 < j) : oMod h (.int i) (.int j) = some (.int (i % j)) := by show (if mdOk j then _ else _) = _; rw [if_pos (show mdOk j from m)]
theorem oPow_int {h : Hep} {i j : Int} (m : powOk i j) : oPow h (.int i) (.int j) = some (.int (i ^ j.toNat)) := by show (if _ then _ else _) = _; rw [if_pos m]
@[simp] theorem oNeg_int (h : Hep) (i : Int) : oNeg h (.int i) = some (.int (-i)) := id rfl
@[simp] theorem oLt_int (h : Hep) (i j : Int) : oLt h (.int i) (.int j) = some (.bl (decide (i < j))) := id rfl
@[simp] theorem oLe_int (h : Hep) (i j : Int) : oLe h (.int i) (.int j) = some (.bl (decide (i ≤ j))) := id rfl
@[simp] theorem oGt_int (h : Hep) (i j : Int) : oGt h (.int i) (.int j) = some (.bl (decide (j < i))) := id rfl
@[simp] theorem oGe_int (h : Hep) (i j : Int) : oGe h (.int i) (.int j) = some (.bl (decide (j ≤ i))) := id rfl
@[simp] theorem oEq_int (h : Hep) (i j : Int) : oEq h (.int i) (.int j) = some (.bl (i == j)) := id rfl
@[simp] theorem oEq_str (h : Hep) (i j : List Nat) : oEq h (.str i) (.str j) = some (.bl (i == j)) := id rfl
@[simp] theorem oEq_bl (h : Hep) (i j : Bool) : oEq h (.bl i) (.bl j) = some (.bl (i == j)) := id rfl
@[simp] theorem oNe_int (h : Hep) (i j : Int) : oNe h (.int i) (.int j) = some (.bl (!(i == j))) := id rfl
@[simp] theorem oNe_str (h : Hep) (i j : List Nat) : oNe h (.str i) (.str j) = some (.bl (!(i == j))) := id rfl
@[simp] theorem oNe_bl (h : Hep) (i j : Bool) : oNe h (.bl i) (.bl j) = some (.bl (!(i == j))) := id rfl
theorem oEq_of {h : Hep} {a b : Val} {k : Bool} (e : vEq h a b = some k) : oEq h a b = some (.bl k) := by unfold oEq; rw [e]; rfl
theorem oNe_of {h : Hep} {a b : Val} {k : Bool} (e : vEq h a b = some k) : oNe h a b = some (.bl (!k)) := by unfold oNe; rw [e]; rfl
@[simp] theorem oIsN_eq (h : Hep) (a : Val) : oIsN h a .non = some (.bl (isNon a)) := id rfl
@[simp] theorem oNotN_eq (h : Hep) (a : Val) : oNotN h a .non = some (.bl (!isNon a)) := id rfl
@[simp] theorem oIdx_tup (h : Hep) (l : List Val) (i : Int) : oIdx h (.tup l) (.int i) = atI l i := id rfl
@[simp] theorem oIdx_fl (h : Hep) (l : List Val) (i : Int) : oIdx h (.fl l) (.int i) = atI l i := id rfl
theorem oIdx_ref {h : Hep} {n : Nat} {l : List Val} {i : Int} (e : h[n]? = some (.lst l)) : oIdx h (.ref n) (.int i) = atI l i := by
  show (match h[n]? with | some (.lst l) => atI l i | _ => none) = _
  rw [e]
@[simp] theorem get_new {α : Type} (h : List α) (x : α) : (h ++ [x])[h.length]? = some x := by
  rw [List.getElem?_append_right (Nat.le_refl _), Nat.sub_self]; rfl
@[simp] theorem oIdx_new (h : Hep) (l : List Val) (i : Int) : oIdx (h ++ [.lst l]) (.ref h.length) (.int i) = atI l i := oIdx_ref (get_new _ _)
theorem atI_nat {α : Type} {xs : List α} {j : Nat} (h : j < xs.length) : atI xs (j : Int) = xs[j]? := by
  unfold atI ixN
  rw [if_pos (by omega), if_pos (by omega)]
  simp
theorem atI_of {α : Type} {xs : List α} {i : Int} {v : α} (h0 : 0 ≤ i) (h : xs[i.toNat]? = some v) : atI xs i = some v := by
  have hl : i.toNat < xs.length := (List.getElem?_eq_some_iff.mp h).1
  unfold atI ixN
  rw [if_pos h0, if_pos (by omega)]
  exact h
@[simp] theorem atI_zero {α : Type} (x : α) (xs : List α) : atI (x :: xs) 0 = some x := atI_of (by decide) rfl
@[simp] theorem atI_one {α : Type} (x y : α) (xs : List α) : atI (x :: y :: xs) 1 = some y := atI_of (by decide) rfl
@[simp] theorem atI_two {α : Type} (x y z : α) (xs : List α) : atI (x :: y :: z :: xs) 2 = some z := atI_of (by decide) rfl
@[simp] theorem atI_three {α : Type} (x y z u : α) (xs : List α) : atI (x :: y :: z :: u :: xs) 3 = some u := atI_of (by decide) rfl
@[simp] theorem atI_four {α : Type} (x y z u w : α) (xs : List α) : atI (x :: y :: z :: u :: w :: xs) 4 = some w := atI_of (by decide) rfl
/-! built-ins -/
@[simp] theorem bLen_tup (l : List Val) (h : Hep) : bLen [.tup l] h = some (.int l.length, h) := id rfl
@[simp] theorem bLen_fl (l : List Val) (h : Hep) : bLen [.fl l] h = some (.int l.length, h) := id rfl
theorem bLen_str {s : List Nat} {h : Hep} (l : s.length ≤ 16777216) : bLen [.str s] h = some (.int s.length, h) := by show (if szOk s.length then _ else _) = _; rw [if_pos (szOk_iff.mpr l)]
theorem bLen_ref {h : Hep} {n : Nat} {l : List Val} (e : h[n]? = some (.lst l)) : bLen [.ref n] h = some (.int l.length, h) := by
  show (match h[n]? with | some (.lst l) => some (Val.int l.length, h) | _ => none) = _
  rw [e]
@[simp] theorem bAbs_int (i : Int) (h : Hep) : bAbs [.int i] h = some (.int (if i < 0 then -i else i), h) := id rfl
@[simp] theorem bMax2_int (i j : Int) (h : Hep) : bMax2 [.int i, .int j] h = some (.int (if j > i then j else i), h) := id rfl
@[simp] theorem bMin2_int (i j : Int) (h : Hep) : bMin2 [.int i, .int j] h = some (.int (if j < i then j else i), h) := id rfl
@[simp] theorem bInt_int (i : Int) (h : Hep) : bInt [.int i] h = some (.int i, h) := id rfl
@[simp] theorem bInt_bl (k : Bool) (h : Hep) : bInt [.bl k] h = some (.int (if k then 1 else 0), h) := id rfl
@[simp] theorem typ_int (h : Hep) (i : Int) : typ h (.int i) = some "int" := id rfl
@[simp] theorem typ_bl (h : Hep) (i : Bool) : typ h (.bl i) = some "bool" := id rfl
@[simp] theorem typ_str (h : Hep) (i : List Nat) : typ h (.str i) = some "str" := id rfl
@[simp] theorem typ_tup (h : Hep) (i : List Val) : typ h (.tup i) = some "tuple" := id rfl
@[simp] theorem typ_fl (h : Hep) (i : List Val) : typ h (.fl i) = some "list" := id rfl
@[simp] theorem typ_non (h : Hep) : typ h .non = some "NoneType" := id rfl
@[simp] theorem oIsi_eq (n : String) (h : Hep) (v : Val) : oIsi n h v = (typ h v).map fun t => .bl (isT t n) := id rfl
theorem mulOk_l {i j : Int} (h1 : -(2 ^ 64) < i) (h2 : i < 2 ^ 64) : mulOk i j := .inl ⟨h1, h2⟩
theorem mulOk_r {i j : Int} (h1 : -(2 ^ 64) < j) (h2 : j < 2 ^ 64) : mulOk i j := .inr (.inl ⟨h1, h2⟩)
theorem log2_lt {n k : Nat} (hk : 0 < k) (h : n < 2 ^ k) : n.log2 < k := by
  by_cases e : n = 0
  · subst e; exact hk
  · exact (Nat.log2_lt e).mpr h
theorem mulOk_b {i j : Int} {a b : Nat} (ha : i.natAbs < 2 ^ a) (hb : j.natAbs < 2 ^ b) (h0 : 0 < a) (h1 : 0 < b) (h : a + b ≤ 1000000) : mulOk i j := by
  have h2 := log2_lt h0 ha
  have h3 := log2_lt h1 hb
  exact .inr (.inr (by omega))
theorem divOk_b {j : Int} {b : Nat} (h0 : 0 < j) (hb : j.natAbs < 2 ^ b) (h1 : 0 < b) (h : b ≤ 9000) : divOk j := by
  have h3 := log2_lt h1 hb
  exact ⟨h0, by omega⟩
@[simp] theorem oMul_l {h : Hep} {i j : Int} (h1 : -(2 ^ 64) < i) (h2 : i < 2 ^ 64) : oMul h (.int i) (.int j) = some (.int (i * j)) := oMul_int (mulOk_l h1 h2)
@[simp] theorem oMul_r {h : Hep} {i j : Int} (h1 : -(2 ^ 64) < j) (h2 : j < 2 ^ 64) : oMul h (.int i) (.int j) = some (.int (i * j)) := oMul_int (mulOk_r h1 h2)
@[simp] theorem oDiv_s {h : Hep} {i j : Int} (h1 : 0 < j) (h2 : j < 2 ^ 64) : oDiv h (.int i) (.int j) = some (.int (i / j)) := oDiv_int (divOk_b (b := 64) h1 (by omega) (by decide) (by decide))
@[simp] theorem oMod_s {h : Hep} {i j : Int} (h1 : 0 < j) : oMod h (.int i) (.int j) = some (.int (i % j)) := oMod_int h1
@[simp] theorem oPow_s {h : Hep} {i j : Int} (h0 : 0 ≤ j) (h1 : j ≤ 1000000) (h2 : -1000 < i) (h3 : i < 1000) : oPow h (.int i) (.int j) = some (.int (i ^ j.toNat)) := oPow_int ⟨h0, h1, by omega⟩
@[simp] theorem fRng1_s {h : Hep} {j : Int} (h1 : -(2 ^ 62) ≤ j) (h2 : j < 2 ^ 62) : fRng1 h [.int j] = some (rng 0 j.toNat, fun _ => true) := by
  show (if i62 j then _ else _) = _
  rw [if_pos ⟨h1, h2⟩]
@[simp] theorem forL_nil (g : GM) (chk : Hep → Bool) (b : SM) (η : Env) (h : Hep) : forL g chk b [] η h = if chk h then .nx η h else .stuck := id rfl
@[simp] theorem forL_cons (g : GM) (chk : Hep → Bool) (b : SM) (x : Val) (xs : List Val) (η : Env) (h : Hep) : forL g chk b (x :: xs) η h = if chk h then
      match g x η with
      | some η1 => match b η1 h with
        | .nx η' h' => forL g chk b xs η' h'
        | .cont η' h' => forL g chk b xs η' h'
        | .brk η' h' => .nx η' h'
        | r => r
      | none => .stuck
    else .stuck := rfl
/-- what is wanted behind a turn -/
def SR.turn (P : Env → Hep → Prop) (Q : SR → Prop) : SR → Prop
  | .nx η h => P η h
  | .cont η h => P η h
  | .brk η h => Q (.nx η h)
  | .ret v h => Q (.ret v h)
  | .exc e η h => Q (.exc e η h)
  | .stuck => Q .stuck
@[simp] theorem SR.turn_nx (P : Env → Hep → Prop) (Q : SR → Prop) (η : Env) (h : Hep) : (SR.nx η h).turn P Q = P η h := id rfl
@[simp] theorem SR.turn_cont (P : Env → Hep → Prop) (Q : SR → Prop) (η : Env) (h : Hep) : (SR.cont η h).turn P Q = P η h := id rfl
@[simp] theorem SR.turn_brk (P : Env → Hep → Prop) (Q : SR → Prop) (η : Env) (h : Hep) : (SR.brk η h).turn P Q = Q (.nx η h) := id rfl
@[simp] theorem SR.turn_ret (P : Env → Hep → Prop) (Q : SR → Prop) (v : Val) (h : Hep) : (SR.ret v h).turn P Q = Q (.ret v h) := id rfl
@[simp] theorem SR.turn_exc (P : Env → Hep → Prop) (Q : SR → Prop) (e : Exc) (η : Env) (h : Hep) : (SR.exc e η h).turn P Q = Q (.exc e η h) := id rfl
/-- what a for comes to: P holds ahead of each turn -/
theorem forL_gen {g : GM} {chk : Hep → Bool} {b : SM} (Q : SR → Prop) : ∀ (xs : List Val) (P : Nat → Env → Hep → Prop) (η : Env) (h : Hep), P 0 η h →
    (∀ i x η h, xs[i]? = some x → P i η h → chk h = true ∧ ∃ η1, g x η = some η1 ∧ (b η1 h).turn (P (i + 1)) Q) →
    (∀ η h, P xs.length η h → chk h = true ∧ Q (.nx η h)) → Q (forL g chk b xs η h)
  | [], P, η, h, h0, step, fin => by
    obtain ⟨c, q⟩ := fin η h h0
    rw [forL, if_pos c]; exact q
  | x :: xs, P, η, h, h0, step, fin => by
    obtain ⟨c, η1, e1, q⟩ := step 0 x η h rfl h0
    rw [forL, if_pos c, e1]
    simp only
    have go : ∀ η' h', P 1 η' h' → Q (forL g chk b xs η' h') := fun η' h' p =>
      forL_gen Q xs (fun i => P (i + 1)) η' h' p (fun i x η h e p => step (i + 1) x η h e p) fun η h p => fin η h p
    cases eb : b η1 h with
    | nx η' h' => rw [eb] at q; exact go η' h' q
    | cont η' h' => rw [eb] at q; exact go η' h' q
    | brk η' h' => rw [eb] at q; exact q
    | ret v h' => rw [eb] at q; exact q
    | exc e η' h' => rw [eb] at q; exact q
    | stuck => rw [eb] at q; exact q
theorem rng_get {lo : Int} {n i : Nat} {x : Val} (e : (rng lo n)[i]? = some x) : i < n ∧ x = .int (lo + i) := by
  have hi : i < n := by
    have := (List.getElem?_eq_some_iff.mp e).1
    simpa [rng] using this
  unfold rng at e
  rw [List.getElem?_map, List.getElem?_range hi] at e
  exact ⟨hi, (Option.some.inj e).symm⟩
@[simp] theorem rng_length (lo : Int) (n : Nat) : (rng lo n).length = n := by simp [rng]
theorem fRng1_of {h : Hep} {j : Int} (h1 : -(2 ^ 62) ≤ j) (h2 : j < 2 ^ 62) : fRng1 h [.int j] = some (rng 0 j.toNat, fun _ => true) := by
  show (if i62 j then _ else _) = _
  rw [if_pos ⟨h1, h2⟩]
theorem fRng2_of {h : Hep} {i j : Int} (h1 : -(2 ^ 62) ≤ i) (h2 : i < 2 ^ 62) (h3 : -(2 ^ 62) ≤ j) (h4 : j < 2 ^ 62) : fRng2 h [.int i, .int j] = some (rng i (j - i).toNat, fun _ => true) := by
  show (if i62 i ∧ i62 j then _ else _) = _
  rw [if_pos ⟨⟨h1, h2⟩, h3, h4⟩]
/-- a body's end as the def's -/
def SR.res : SR → Res Val
  | .nx _ h' => .ok .non h'
  | .ret v h' => .ok v h'
  | .exc e _ h' => .exc e h'
  | _ => .stuck
@[simp] theorem SR.res_nx (η : Env) (h : Hep) : (SR.nx η h).res = .ok .non h := id rfl
@[simp] theorem SR.res_ret (v : Val) (h : Hep) : (SR.ret v h).res = .ok v h := id rfl
@[simp] theorem SR.res_exc (e : Exc) (η : Env) (h : Hep) : (SR.exc e η h).res = .exc e h := id rfl
theorem fn_eq {n N : Nat} {b : SM} {vs : List Val} {h : Hep} (e : vs.length = n) : fn n N b vs h = (b (vs.map some ++ List.replicate (N - n) none) h).res := by
  unfold fn
  rw [if_pos e]
  rfl
@[simp] theorem fn_1 (N : Nat) (b : SM) (v : Val) (h : Hep) : fn 1 N b [v] h = (b (some v :: List.replicate (N - 1) none) h).res := id rfl
@[simp] theorem fn_2 (N : Nat) (b : SM) (v1 v2 : Val) (h : Hep) : fn 2 N b [v1, v2] h = (b (some v1 :: some v2 :: List.replicate (N - 2) none) h).res := id rfl
@[simp] theorem fn_3 (N : Nat) (b : SM) (v1 v2 v3 : Val) (h : Hep) : fn 3 N b [v1, v2, v3] h = (b (some v1 :: some v2 :: some v3 :: List.replicate (N - 3) none) h).res := id rfl
@[simp] theorem fn_4 (N : Nat) (b : SM) (v1 v2 v3 v4 : Val) (h : Hep) : fn 4 N b [v1, v2, v3, v4] h = (b (some v1 :: some v2 :: some v3 :: some v4 :: List.replicate (N - 4) none) h).res := id rfl
end Cd

set_option maxRecDepth 100000
namespace Mir
open Cd
noncomputable def B_v_law_draws : Cd.SM := (Cd.sRet (Cd.eLst (Cd.aCons (Cd.eCallB Cd.bList (Cd.aCons (Cd.eVar 0) Cd.aNil)) (Cd.aCons (Cd.eC (.int 0)) (Cd.aCons (Cd.eC (.int 0)) (Cd.aCons (Cd.eC (.int 1)) Cd.aNil))))))
noncomputable def M_v_law_draws : Cd.Fn := Cd.fn 1 1 B_v_law_draws
noncomputable def B_v_law_draw : Cd.SM := (Cd.sSeq (Cd.sIf (Cd.tAnd (Cd.tVal (Cd.eBin Cd.oEq (Cd.eBin Cd.oIdx (Cd.eVar 0) (Cd.eC (.int 2))) (Cd.eC (.int 0)))) (Cd.tVal (Cd.eBin Cd.oLt (Cd.eBin Cd.oIdx (Cd.eVar 0) (Cd.eC (.int 1))) (Cd.eCallB Cd.bLen (Cd.aCons (Cd.eBin Cd.oIdx (Cd.eVar 0) (Cd.eC (.int 0))) Cd.aNil))))) (Cd.sSeq (Cd.sSet 2 (Cd.eBin Cd.oIdx (Cd.eBin Cd.oIdx (Cd.eVar 0) (Cd.eC (.int 0))) (Cd.eBin Cd.oIdx (Cd.eVar 0) (Cd.eC (.int 1))))) (Cd.sSeq (Cd.sSetIx (Cd.eVar 0) (Cd.eC (.int 1)) (Cd.eBin Cd.oAdd (Cd.eBin Cd.oIdx (Cd.eVar 0) (Cd.eC (.int 1))) (Cd.eC (.int 1)))) (Cd.sSeq (Cd.sIf (Cd.tVal (Cd.eBin Cd.oGe (Cd.eVar 2) (Cd.eBin Cd.oPow (Cd.eC (.int 10)) (Cd.eC (.int 18))))) (Cd.sSetIx (Cd.eVar 0) (Cd.eC (.int 2)) (Cd.eVar 2)) Cd.sNop) (Cd.sSetIx (Cd.eVar 0) (Cd.eC (.int 3)) (Cd.eBin Cd.oMod (Cd.eCallB Cd.bInt (Cd.aCons (Cd.eBin Cd.oAdd (Cd.eBin Cd.oAdd (Cd.eBin Cd.oMul (Cd.eBin Cd.oIdx (Cd.eVar 0) (Cd.eC (.int 3))) (Cd.eC (.int 48271))) (Cd.eVar 2)) (Cd.eC (.int 13))) Cd.aNil)) (Cd.eC (.int 2147483647))))))) Cd.sNop) (Cd.sSeq (Cd.sIf (Cd.tVal (Cd.eBin Cd.oGt (Cd.eBin Cd.oIdx (Cd.eVar 0) (Cd.eC (.int 2))) (Cd.eC (.int 0)))) (Cd.sSeq (Cd.sSet 3 (Cd.eBin Cd.oMod (Cd.eCallB Cd.bInt (Cd.aCons (Cd.eBin Cd.oIdx (Cd.eVar 0) (Cd.eC (.int 2))) Cd.aNil)) (Cd.eVar 1))) (Cd.sSeq (Cd.sSetIx (Cd.eVar 0) (Cd.eC (.int 2)) (Cd.eBin Cd.oDiv (Cd.eBin Cd.oIdx (Cd.eVar 0) (Cd.eC (.int 2))) (Cd.eVar 1))) (Cd.sRet (Cd.eVar 3)))) Cd.sNop) (Cd.sSeq (Cd.sSetIx (Cd.eVar 0) (Cd.eC (.int 3)) (Cd.eBin Cd.oMod (Cd.eCallB Cd.bInt (Cd.aCons (Cd.eBin Cd.oAdd (Cd.eBin Cd.oMul (Cd.eBin Cd.oIdx (Cd.eVar 0) (Cd.eC (.int 3))) (Cd.eC (.int 69621))) (Cd.eC (.int 7))) Cd.aNil)) (Cd.eC (.int 2147483629)))) (Cd.sRet (Cd.eBin Cd.oMod (Cd.eCallB Cd.bInt (Cd.aCons (Cd.eBin Cd.oDiv (Cd.eBin Cd.oIdx (Cd.eVar 0) (Cd.eC (.int 3))) (Cd.eC (.int 11))) Cd.aNil)) (Cd.eVar 1))))))
noncomputable def M_v_law_draw : Cd.Fn := Cd.fn 2 4 B_v_law_draw
noncomputable def L_v_law_graph_1 : Cd.SM := (Cd.sSeq (Cd.sSet 9 (Cd.eCall M_v_law_draw (Cd.aCons (Cd.eVar 0) (Cd.aCons (Cd.eVar 1) Cd.aNil)))) (Cd.sIf (Cd.tAnd (Cd.tVal (Cd.eBin Cd.oNin (Cd.eVar 9) (Cd.eVar 7))) (Cd.tOr (Cd.tVal (Cd.eBin Cd.oEq (Cd.eVar 3) (Cd.eC (.int 0)))) (Cd.tVal (Cd.eBin Cd.oLt (Cd.eBin Cd.oIdx (Cd.eVar 2) (Cd.eVar 6)) (Cd.eBin Cd.oIdx (Cd.eVar 2) (Cd.eVar 9)))))) (Cd.sExpr (Cd.eMth "list" Cd.mAppend (Cd.eVar 7) (Cd.aCons (Cd.eVar 9) Cd.aNil))) Cd.sNop))
noncomputable def L_v_law_graph_2 : Cd.SM := (Cd.sSeq (Cd.sSet 7 (Cd.eLst Cd.aNil)) (Cd.sSeq (Cd.sFor (Cd.iArgs Cd.fRng1 (Cd.aCons (Cd.eCall M_v_law_draw (Cd.aCons (Cd.eVar 0) (Cd.aCons (Cd.eVar 4) Cd.aNil))) Cd.aNil)) (Cd.gNam 8) L_v_law_graph_1) (Cd.sExpr (Cd.eMth "list" Cd.mAppend (Cd.eVar 5) (Cd.aCons (Cd.eCallB Cd.bTuple (Cd.aCons (Cd.eCallB Cd.bSortI (Cd.aCons (Cd.eVar 7) Cd.aNil)) Cd.aNil)) Cd.aNil)))))
noncomputable def T_v_law_graph_3 : Cd.SM := (Cd.sSeq (Cd.sSet 5 (Cd.eLst Cd.aNil)) (Cd.sSeq (Cd.sFor (Cd.iArgs Cd.fRng1 (Cd.aCons (Cd.eVar 1) Cd.aNil)) (Cd.gNam 6) L_v_law_graph_2) (Cd.sRet (Cd.eCallB Cd.bTuple (Cd.aCons (Cd.eVar 5) Cd.aNil)))))
noncomputable def B_v_law_graph : Cd.SM := (Cd.sSeq (Cd.sSet 1 (Cd.eCall M_v_law_draw (Cd.aCons (Cd.eVar 0) (Cd.aCons (Cd.eBin Cd.oIdx (Cd.eLst (Cd.aCons (Cd.eC (.int 8)) (Cd.aCons (Cd.eC (.int 40)) Cd.aNil))) (Cd.eCallB Cd.bInt (Cd.aCons (Cd.eBin Cd.oEq (Cd.eCall M_v_law_draw (Cd.aCons (Cd.eVar 0) (Cd.aCons (Cd.eC (.int 5)) Cd.aNil))) (Cd.eC (.int 0))) Cd.aNil))) Cd.aNil)))) (Cd.sSeq (Cd.sSet 2 (Cd.eComp [6] (Cd.iArgs Cd.fRng1 (Cd.aCons (Cd.eVar 1) Cd.aNil)) (Cd.gNam 6) Cd.tTrue (Cd.eCall M_v_law_draw (Cd.aCons (Cd.eVar 0) (Cd.aCons (Cd.eC (.int 1000)) Cd.aNil))))) (Cd.sSeq (Cd.sSet 3 (Cd.eCall M_v_law_draw (Cd.aCons (Cd.eVar 0) (Cd.aCons (Cd.eC (.int 2)) Cd.aNil)))) (Cd.sSeq (Cd.sSet 4 (Cd.eBin Cd.oAdd (Cd.eC (.int 2)) (Cd.eCall M_v_law_draw (Cd.aCons (Cd.eVar 0) (Cd.aCons (Cd.eC (.int 4)) Cd.aNil))))) T_v_law_graph_3))))
noncomputable def M_v_law_graph : Cd.Fn := Cd.fn 1 10 B_v_law_graph
noncomputable def T_v_law_same_1 (Mrec_ : Cd.Fn) : Cd.SM := (Cd.sSeq (Cd.sIf (Cd.tTru (Cd.eUn (Cd.oIsi "str") (Cd.eVar 1))) (Cd.sRet (Cd.eAnd (Cd.eUn (Cd.oIsi "str") (Cd.eVar 0)) (Cd.eBin Cd.oEq (Cd.eVar 0) (Cd.eVar 1)))) Cd.sNop) (Cd.sSeq (Cd.sIf (Cd.tVal (Cd.eBin Cd.oIsN (Cd.eVar 1) (Cd.eC .non))) (Cd.sRet (Cd.eBin Cd.oIsN (Cd.eVar 0) (Cd.eC .non))) Cd.sNop) (Cd.sSeq (Cd.sIf (Cd.tOr (Cd.tTru (Cd.eUn (Cd.oIsi "bool") (Cd.eVar 1))) (Cd.tTru (Cd.eUn (Cd.oIsi "bool") (Cd.eVar 0)))) (Cd.sRet (Cd.eAnd (Cd.eUn (Cd.oIsi "bool") (Cd.eVar 1)) (Cd.eAnd (Cd.eUn (Cd.oIsi "bool") (Cd.eVar 0)) (Cd.eBin Cd.oEq (Cd.eVar 0) (Cd.eVar 1))))) Cd.sNop) (Cd.sRet (Cd.eAnd (Cd.eUn (Cd.oIsi "int") (Cd.eVar 0)) (Cd.eBin Cd.oEq (Cd.eVar 0) (Cd.eVar 1)))))))
noncomputable def L_v_law_same_2 (Mrec_ : Cd.Fn) : Cd.SM := (Cd.sIf (Cd.tNot (Cd.tTru (Cd.eCall Mrec_ (Cd.aCons (Cd.eBin Cd.oIdx (Cd.eVar 0) (Cd.eVar 2)) (Cd.aCons (Cd.eBin Cd.oIdx (Cd.eVar 1) (Cd.eVar 2)) Cd.aNil))))) (Cd.sRet (Cd.eC (.bl false))) Cd.sNop)
noncomputable def B_v_law_same (Mrec_ : Cd.Fn) : Cd.SM := (Cd.sSeq (Cd.sIf (Cd.tTru (Cd.eUn (Cd.oIsi "tuple") (Cd.eVar 1))) (Cd.sSeq (Cd.sIf (Cd.tOr (Cd.tNot (Cd.tTru (Cd.eUn (Cd.oIsi "tuple") (Cd.eVar 0)))) (Cd.tVal (Cd.eBin Cd.oNe (Cd.eCallB Cd.bLen (Cd.aCons (Cd.eVar 0) Cd.aNil)) (Cd.eCallB Cd.bLen (Cd.aCons (Cd.eVar 1) Cd.aNil))))) (Cd.sRet (Cd.eC (.bl false))) Cd.sNop) (Cd.sSeq (Cd.sFor (Cd.iArgs Cd.fRng1 (Cd.aCons (Cd.eCallB Cd.bLen (Cd.aCons (Cd.eVar 1) Cd.aNil)) Cd.aNil)) (Cd.gNam 2) (L_v_law_same_2 Mrec_)) (Cd.sRet (Cd.eC (.bl true))))) Cd.sNop) (T_v_law_same_1 Mrec_))
noncomputable def M_v_law_same_n : Nat → Cd.Fn
  | 0 => Cd.fnStuck
  | n + 1 => Cd.fn 2 3 (B_v_law_same (M_v_law_same_n n))
noncomputable def M_v_law_same : Cd.Fn := M_v_law_same_n 6
noncomputable def L_v_law_way_back_1 : Cd.SM := (Cd.sIf (Cd.tVal (Cd.eBin Cd.oNin (Cd.eVar 7) (Cd.eVar 3))) (Cd.sSeq (Cd.sExpr (Cd.eMth "list" Cd.mAppend (Cd.eVar 3) (Cd.aCons (Cd.eVar 7) Cd.aNil))) (Cd.sExpr (Cd.eMth "list" Cd.mAppend (Cd.eVar 5) (Cd.aCons (Cd.eVar 7) Cd.aNil)))) Cd.sNop)
noncomputable def L_v_law_way_back_2 : Cd.SM := (Cd.sFor (Cd.iVal (Cd.eBin Cd.oIdx (Cd.eVar 0) (Cd.eVar 6))) (Cd.gNam 7) L_v_law_way_back_1)
noncomputable def T_v_law_way_back_3 : Cd.SM := (Cd.sSeq (Cd.sSet 5 (Cd.eLst Cd.aNil)) (Cd.sSeq (Cd.sFor (Cd.iVal (Cd.eVar 2)) (Cd.gNam 6) L_v_law_way_back_2) (Cd.sSeq (Cd.sSet 2 (Cd.eVar 5)) (Cd.sIf (Cd.tVal (Cd.eBin Cd.oEq (Cd.eCallB Cd.bLen (Cd.aCons (Cd.eVar 2) Cd.aNil)) (Cd.eC (.int 0)))) Cd.sBrk Cd.sNop))))
noncomputable def L_v_law_way_back_4 : Cd.SM := (Cd.sSeq (Cd.sIf (Cd.tVal (Cd.eBin Cd.oIn (Cd.eVar 1) (Cd.eVar 2))) (Cd.sRet (Cd.eBin Cd.oAdd (Cd.eVar 4) (Cd.eC (.int 1)))) Cd.sNop) T_v_law_way_back_3)
noncomputable def B_v_law_way_back : Cd.SM := (Cd.sSeq (Cd.sSet 2 (Cd.eCallB Cd.bList (Cd.aCons (Cd.eBin Cd.oIdx (Cd.eVar 0) (Cd.eVar 1)) Cd.aNil))) (Cd.sSeq (Cd.sSet 3 (Cd.eCallB Cd.bList (Cd.aCons (Cd.eVar 2) Cd.aNil))) (Cd.sSeq (Cd.sFor (Cd.iArgs Cd.fRng1 (Cd.aCons (Cd.eCallB Cd.bLen (Cd.aCons (Cd.eVar 0) Cd.aNil)) Cd.aNil)) (Cd.gNam 4) L_v_law_way_back_4) (Cd.sRet (Cd.eC (.int 0))))))
noncomputable def M_v_law_way_back : Cd.Fn := Cd.fn 2 8 B_v_law_way_back
noncomputable def T_way_back_1 : Cd.SM := (Cd.sRet (Cd.eTup Cd.aNil))
noncomputable def L_way_back_2 : Cd.SM := (Cd.sExpr (Cd.eMth "list" Cd.mAppend (Cd.eVar 7) (Cd.aCons (Cd.eBin Cd.oDIdx (Cd.eVar 2) (Cd.eBin Cd.oIdx (Cd.eVar 7) (Cd.eUn Cd.oNeg (Cd.eC (.int 1))))) Cd.aNil)))
noncomputable def L_way_back_3 : Cd.SM := (Cd.sSeq (Cd.sIf (Cd.tVal (Cd.eBin Cd.oEq (Cd.eVar 6) (Cd.eVar 1))) (Cd.sSeq (Cd.sSet 7 (Cd.eLst (Cd.aCons (Cd.eVar 5) Cd.aNil))) (Cd.sSeq (Cd.sWhile (Cd.tVal (Cd.eBin Cd.oNe (Cd.eBin Cd.oIdx (Cd.eVar 7) (Cd.eUn Cd.oNeg (Cd.eC (.int 1)))) (Cd.eVar 1))) L_way_back_2) (Cd.sRet (Cd.eCallB Cd.bTuple (Cd.aCons (Cd.eRev (Cd.eVar 7)) Cd.aNil))))) Cd.sNop) (Cd.sIf (Cd.tVal (Cd.eBin Cd.oDNin (Cd.eVar 6) (Cd.eVar 2))) (Cd.sSeq (Cd.sSetDx (Cd.eVar 2) (Cd.eVar 6) (Cd.eVar 5)) (Cd.sExpr (Cd.eMth "list" Cd.mAppend (Cd.eVar 3) (Cd.aCons (Cd.eVar 6) Cd.aNil)))) Cd.sNop))
noncomputable def L_way_back_4 : Cd.SM := (Cd.sSeq (Cd.sSet 5 (Cd.eBin Cd.oIdx (Cd.eVar 3) (Cd.eVar 4))) (Cd.sSeq (Cd.sAug 4 Cd.oIAdd (Cd.eC (.int 1))) (Cd.sFor (Cd.iVal (Cd.eBin Cd.oIdx (Cd.eVar 0) (Cd.eVar 5))) (Cd.gNam 6) L_way_back_3)))
noncomputable def B_way_back : Cd.SM := (Cd.sSeq (Cd.sSet 2 Cd.eDNew) (Cd.sSeq (Cd.sSet 3 (Cd.eLst (Cd.aCons (Cd.eVar 1) Cd.aNil))) (Cd.sSeq (Cd.sSet 4 (Cd.eC (.int 0))) (Cd.sSeq (Cd.sWhile (Cd.tVal (Cd.eBin Cd.oLt (Cd.eVar 4) (Cd.eCallB Cd.bLen (Cd.aCons (Cd.eVar 3) Cd.aNil)))) L_way_back_4) T_way_back_1))))
noncomputable def M_way_back : Cd.Fn := Cd.fn 2 8 B_way_back
noncomputable def L_circle_1 : Cd.SM := (Cd.sSeq (Cd.sSet 2 (Cd.eCall M_way_back (Cd.aCons (Cd.eVar 0) (Cd.aCons (Cd.eVar 1) Cd.aNil)))) (Cd.sIf (Cd.tVal (Cd.eBin Cd.oNe (Cd.eVar 2) (Cd.eTup Cd.aNil))) (Cd.sRet (Cd.eVar 2)) Cd.sNop))
noncomputable def B_circle : Cd.SM := (Cd.sSeq (Cd.sFor (Cd.iArgs Cd.fRng1 (Cd.aCons (Cd.eCallB Cd.bLen (Cd.aCons (Cd.eVar 0) Cd.aNil)) Cd.aNil)) (Cd.gNam 1) L_circle_1) (Cd.sRet (Cd.eTup Cd.aNil)))
noncomputable def M_circle : Cd.Fn := Cd.fn 1 3 B_circle
noncomputable def L_law_1 : Cd.SM := (Cd.sSeq (Cd.sIf (Cd.tOr (Cd.tNot (Cd.tTru (Cd.eUn (Cd.oIsi "int") (Cd.eBin Cd.oIdx (Cd.eVar 3) (Cd.eVar 6))))) (Cd.tTru (Cd.eUn (Cd.oIsi "bool") (Cd.eBin Cd.oIdx (Cd.eVar 3) (Cd.eVar 6))))) (Cd.sRet (Cd.eC (.bl false))) Cd.sNop) (Cd.sIf (Cd.tOr (Cd.tVal (Cd.eBin Cd.oLt (Cd.eBin Cd.oIdx (Cd.eVar 3) (Cd.eVar 6)) (Cd.eC (.int 0)))) (Cd.tOr (Cd.tVal (Cd.eBin Cd.oGe (Cd.eBin Cd.oIdx (Cd.eVar 3) (Cd.eVar 6)) (Cd.eCallB Cd.bLen (Cd.aCons (Cd.eVar 2) Cd.aNil)))) (Cd.tVal (Cd.eBin Cd.oNin (Cd.eBin Cd.oIdx (Cd.eVar 3) (Cd.eBin Cd.oMod (Cd.eCallB Cd.bInt (Cd.aCons (Cd.eBin Cd.oAdd (Cd.eVar 6) (Cd.eC (.int 1))) Cd.aNil)) (Cd.eVar 5))) (Cd.eBin Cd.oIdx (Cd.eVar 2) (Cd.eBin Cd.oIdx (Cd.eVar 3) (Cd.eVar 6))))))) (Cd.sRet (Cd.eC (.bl false))) Cd.sNop))
noncomputable def L_law_2 : Cd.SM := (Cd.sSeq (Cd.sSet 5 (Cd.eCall M_v_law_way_back (Cd.aCons (Cd.eVar 2) (Cd.aCons (Cd.eVar 4) Cd.aNil)))) (Cd.sIf (Cd.tVal (Cd.eBin Cd.oGt (Cd.eVar 5) (Cd.eC (.int 0)))) (Cd.sSeq (Cd.sIf (Cd.tOr (Cd.tVal (Cd.eBin Cd.oNe (Cd.eCallB Cd.bLen (Cd.aCons (Cd.eVar 3) Cd.aNil)) (Cd.eVar 5))) (Cd.tNot (Cd.tTru (Cd.eCall M_v_law_same (Cd.aCons (Cd.eBin Cd.oIdx (Cd.eVar 3) (Cd.eC (.int 0))) (Cd.aCons (Cd.eVar 4) Cd.aNil)))))) (Cd.sRet (Cd.eC (.bl false))) Cd.sNop) (Cd.sSeq (Cd.sFor (Cd.iArgs Cd.fRng1 (Cd.aCons (Cd.eVar 5) Cd.aNil)) (Cd.gNam 6) L_law_1) (Cd.sRet (Cd.eC (.bl true))))) Cd.sNop))
noncomputable def T_law_3 : Cd.SM := (Cd.sSeq (Cd.sFor (Cd.iArgs Cd.fRng1 (Cd.aCons (Cd.eCallB Cd.bLen (Cd.aCons (Cd.eVar 2) Cd.aNil)) Cd.aNil)) (Cd.gNam 4) L_law_2) (Cd.sRet (Cd.eBin Cd.oEq (Cd.eCallB Cd.bLen (Cd.aCons (Cd.eVar 3) Cd.aNil)) (Cd.eC (.int 0)))))
noncomputable def B_law : Cd.SM := (Cd.sSeq (Cd.sSet 1 (Cd.eCall M_v_law_draws (Cd.aCons (Cd.eVar 0) Cd.aNil))) (Cd.sSeq (Cd.sSet 2 (Cd.eCall M_v_law_graph (Cd.aCons (Cd.eVar 1) Cd.aNil))) (Cd.sSeq (Cd.sSet 3 (Cd.eCall M_circle (Cd.aCons (Cd.eVar 2) Cd.aNil))) (Cd.sSeq (Cd.sIf (Cd.tNot (Cd.tTru (Cd.eUn (Cd.oIsi "tuple") (Cd.eVar 3)))) (Cd.sRet (Cd.eC (.bl false))) Cd.sNop) T_law_3))))
noncomputable def M_law : Cd.Fn := Cd.fn 1 7 B_law
end Mir

set_option maxRecDepth 100000
/-! CdLib2: how the later combinators reckon -/
namespace Cd
open Classical
@[simp] theorem fn_0 (N : Nat) (b : SM) (h : Hep) : fn 0 N b [] h = (b (List.replicate (N - 0) none) h).res := id rfl
@[simp] theorem fn_5 (N : Nat) (b : SM) (v1 v2 v3 v4 v5 : Val) (h : Hep) : fn 5 N b [v1, v2, v3, v4, v5] h = (b (some v1 :: some v2 :: some v3 :: some v4 :: some v5 :: List.replicate (N - 5) none) h).res := id rfl
@[simp] theorem fn_6 (N : Nat) (b : SM) (v1 v2 v3 v4 v5 v6 : Val) (h : Hep) : fn 6 N b [v1, v2, v3, v4, v5, v6] h = (b (some v1 :: some v2 :: some v3 :: some v4 :: some v5 :: some v6 :: List.replicate (N - 6) none) h).res := id rfl
@[simp] theorem oIAdd_int (h : Hep) (i j : Int) : oIAdd h (.int i) (.int j) = some (.int (i + j)) := id rfl
theorem oIAdd_str {h : Hep} {s t : List Nat} (l : s.length + t.length ≤ 16777216) : oIAdd h (.str s) (.str t) = some (.str (s ++ t)) := by
  show (if szOk _ then _ else _) = _
  rw [if_pos (szOk_iff.mpr l)]
@[simp] theorem sRaise_eq (c : String) (η : Env) (h : Hep) : sRaise c η h = .exc ⟨c, []⟩ η h := id rfl
@[simp] theorem sTry_eq (tbl : List (String × Bool)) (i : Nat) (b : SM) (hd : Exc → Nat → SM) (η : Env) (h : Hep) : sTry tbl i b hd η h = match b η h with
  | .exc x η' h' => match tbl.lookup x.cls with
    | some true => if ∀ a, (hd x a (η'.set i (some (.exo a))) h').forget i = (hd x 0 (η'.set i (some (.exo 0))) h').forget i then (hd x 0 (η'.set i (some (.exo 0))) h').forget i else .stuck
    | some false => .exc x η' h'
    | none => .stuck
  | r => r := id rfl
@[simp] theorem sTryO_eq (tbl : List (String × Bool)) (b : SM) (hd : SM) (η : Env) (h : Hep) : sTryO tbl b hd η h = match b η h with
  | .exc x η' h' => match tbl.lookup x.cls with
    | some true => (hd η' h').quiet
    | some false => .exc x η' h'
    | none => .stuck
  | r => r := id rfl
@[simp] theorem forget_nx (i : Nat) (η : Env) (h : Hep) : (SR.nx η h).forget i = .nx (η.set i none) h := id rfl
@[simp] theorem forget_ret (i : Nat) (v : Val) (h : Hep) : (SR.ret v h).forget i = .ret v h := id rfl
@[simp] theorem quiet_nx (η : Env) (h : Hep) : (SR.nx η h).quiet = .nx η h := id rfl
@[simp] theorem quiet_ret (v : Val) (h : Hep) : (SR.ret v h).quiet = .ret v h := id rfl
@[simp] theorem eIsE_eq (tbl : List (String × Bool)) (x : Exc) (a : Nat) (m : EM) (η : Env) (h : Hep) : eIsE tbl x a m η h = (m η h).bind fun v h1 => match v with
  | .exo b => if b = a then (if x.args = [] then (match tbl.lookup x.cls with | some k => .ok (.bl k) h1 | none => .stuck) else .stuck) else .stuck
  | _ => .stuck := id rfl
@[simp] theorem eMth_eq (T : String) (F : Val → BFn) (o : EM) (a : AM) (η : Env) (h : Hep) : eMth T F o a η h = (o η h).bind fun x h1 => if typ h1 x = some T then (a η h1).bind fun xs h2 => (match F x xs h2 with | some (v, h3) => .ok v h3 | none => .stuck) else .stuck := id rfl
@[simp] theorem eSl_eq (o : EM) (lo hi : PM) (η : Env) (h : Hep) : eSl o lo hi η h = (o η h).bind fun x h1 => (lo η h1).bind fun l h2 => (hi η h2).bind fun u h3 => match oSl h3 x l u with | some (v, h4) => .ok v h4 | none => .stuck := id rfl
@[simp] theorem pNo_eq (η : Env) (h : Hep) : pNo η h = .ok none h := id rfl
@[simp] theorem pSome_eq (e : EM) (η : Env) (h : Hep) : pSome e η h = (e η h).bind fun x h1 => match x with | .int i => .ok (some i) h1 | _ => .stuck := id rfl
@[simp] theorem sSetIx_eq (o i e : EM) (η : Env) (h : Hep) : sSetIx o i e η h = (e η h).thn η fun v h1 => (o η h1).thn η fun x h2 => (i η h2).thn η fun k h3 => match setIx h3 x k v with
  | some h4 => .nx η h4
  | none => .stuck := id rfl
@[simp] theorem eComp_eq (vs : List Nat) (it : IM) (g : GM) (c : TM) (e : EM) (η : Env) (h : Hep) : eComp vs it g c e η h = (it η h).bind fun p h1 => (compL g p.2 c e (wipe η vs) p.1 h1).bind fun ys h2 => if szOk ys.length then .ok (.ref h2.length) (h2 ++ [.lst ys]) else .stuck := id rfl
@[simp] theorem oIn_ch (h : Hep) (c : Nat) (s : List Nat) : oIn h (.str [c]) (.str s) = some (.bl (decide (c ∈ s))) := id rfl
@[simp] theorem oNin_ch (h : Hep) (c : Nat) (s : List Nat) : oNin h (.str [c]) (.str s) = some (.bl (!decide (c ∈ s))) := id rfl
@[simp] theorem bOrd_ch (c : Nat) (h : Hep) : bOrd [.str [c]] h = some (.int c, h) := id rfl
@[simp] theorem oLt_str (h : Hep) (i j : List Nat) : oLt h (.str i) (.str j) = some (.bl (decide (i < j))) := id rfl
@[simp] theorem oGt_str (h : Hep) (i j : List Nat) : oGt h (.str i) (.str j) = some (.bl (decide (j < i))) := id rfl
theorem oAdd_str {h : Hep} {s t : List Nat} (l : s.length + t.length ≤ 16777216) : oAdd h (.str s) (.str t) = some (.str (s ++ t)) := by
  show (if szOk _ then _ else _) = _
  rw [if_pos (szOk_iff.mpr l)]
theorem oIdx_str {h : Hep} {s : List Nat} {i : Int} {c : Nat} (l : s.length ≤ 16777216) (e : atI s i = some c) : oIdx h (.str s) (.int i) = some (.str [c]) := by
  show (if szOk _ then _ else _) = _
  rw [if_pos (szOk_iff.mpr l), e]
  rfl
theorem atI_ex {α : Type} {xs : List α} {i : Int} (h0 : 0 ≤ i) (h1 : i < xs.length) : ∃ c, atI xs i = some c := by
  have : i.toNat < xs.length := by omega
  exact ⟨xs[i.toNat], atI_of h0 (List.getElem?_eq_getElem this)⟩
theorem atI_last {α : Type} {xs : List α} (h1 : 0 < xs.length) : ∃ c, atI xs (-1) = some c := by
  refine ⟨xs[xs.length - 1], ?_⟩
  unfold atI ixN
  rw [if_neg (by decide), if_pos (by omega)]
  show xs[(-1 + (xs.length : Int)).toNat]? = _
  rw [show (-1 + (xs.length : Int)).toNat = xs.length - 1 by omega]
  exact List.getElem?_eq_getElem _
theorem in_tup (h : Hep) (s : List Nat) (l : List Val) (q : l.all flat = true) : oIn h (.str s) (.tup l) = some (.bl (l.any fun y => eqF y (.str s))) := by
  have e : isIn h (.str s) (.tup l) = if flat (.str s) && l.all flat then some (l.any fun y => eqF y (.str s)) else none := by
    cases s with
    | nil => rfl
    | cons c t => cases t <;> rfl
  unfold oIn
  rw [e, q]
  rfl
theorem in_ref (h : Hep) (s : List Nat) (n : Nat) (l : List Val) (e1 : h[n]? = some (.lst l)) (q : l.all flat = true) : oIn h (.str s) (.ref n) = some (.bl (l.any fun y => eqF y (.str s))) := by
  have e : isIn h (.str s) (.ref n) = match seqOf h (.ref n) with | some l => if flat (.str s) && l.all flat then some (l.any fun y => eqF y (.str s)) else none | none => none := by
    cases s with
    | nil => rfl
    | cons c t => cases t <;> rfl
  have e2 : seqOf h (.ref n) = some l := by
    show (match h[n]? with | some (.lst l) => some l | _ => none) = _
    rw [e1]
  unfold oIn
  rw [e, e2]
  show ((if flat (.str s) && l.all flat then some (l.any fun y => eqF y (.str s)) else none).map Val.bl) = _
  rw [q]
  rfl
theorem split_ok {h : Hep} {s : List Nat} {c : Nat} (hc : c < 256) (l : s.length + 2 ≤ 16777216) : mSplit (.str s) [.str [c]] h = some (.ref h.length, h ++ [.lst ((cutAt c [] s).map .str)]) := by
  show (if splitOk _ _ then _ else _) = _
  rw [if_pos ⟨hc, by rw [line_is]; exact l⟩]
theorem oSl_str {h : Hep} {s : List Nat} (l : s.length ≤ 16777216) (lo hi : Option Int) : oSl h (.str s) lo hi = some (.str (cut s lo hi), h) := by
  show (if szOk _ then _ else _) = _
  rw [if_pos (szOk_iff.mpr l)]
theorem cut_len {α : Type} (l : List α) (lo hi : Option Int) : (cut l lo hi).length ≤ l.length := by
  unfold cut
  rw [List.length_take, List.length_drop]
  omega
@[simp] theorem ch_lt (c d : Nat) : ([c] < [d]) ↔ c < d := by
  constructor
  · intro h
    cases h with
    | rel h => exact h
    | cons h => cases h
  · intro h; exact .rel h
/-- a walk along a text that ends at the first sign that is not wanted -/
theorem all_loop (i : Nat) (b : SM) (p : Nat → Bool) (E : Option Val → Env) (hset : ∀ x v, (E x).set i v = E v)
    (hb : ∀ c h, b (E (some (.str [c]))) h = if p c then .nx (E (some (.str [c]))) h else .ret (.bl false) h) : ∀ (s : List Nat) (v : Option Val) (h : Hep),
    (forL (gNam i) (fun _ => true) b (s.map fun c => .str [c]) (E v) h).bind (fun _ h1 => .ret (.bl true) h1) = .ret (.bl (s.all p)) h
  | [], v, h => rfl
  | c :: s, v, h => by
    have ih := all_loop i b p E hset hb s (some (.str [c])) h
    rw [List.map_cons, forL_cons, if_pos rfl, gNam_eq, hset]
    simp only [hb]
    by_cases q : p c = true
    · rw [if_pos q]
      simp only [ih, List.all_cons, q, Bool.true_and]
    · rw [if_neg q]
      have q2 : p c = false := by simpa using q
      simp only [SR.bind_ret, List.all_cons, q2, Bool.false_and]
end Cd

set_option maxRecDepth 100000
/-! CdLib3: how the texts' combinators reckon -/
namespace Cd
open Classical
theorem repOk_iff {n : Nat} {i : Int} : repOk n i ↔ -1000000 < i ∧ i ≤ 16777216 ∧ n * i.toNat ≤ 16777216 := by
  unfold repOk
  rw [line_is]
  exact Iff.rfl
theorem oMulS_str {h : Hep} {s : List Nat} {i : Int} (m : -1000000 < i ∧ i ≤ 16777216 ∧ s.length * i.toNat ≤ 16777216) : oMulS h (.str s) (.int i) = some (.str (repL s i.toNat)) := by
  show (if repOk _ _ then _ else _) = _
  rw [if_pos (repOk_iff.mpr m)]
theorem repL_ch (c n : Nat) : repL [c] n = List.replicate n c := by
  unfold repL
  induction n with
  | zero => rfl
  | succ n ih => rw [List.replicate_succ, List.flatten_cons, ih, List.replicate_succ]; rfl
theorem fRng3_of {h : Hep} {i j c : Int} (h1 : -(2 ^ 40) ≤ i) (h2 : i < 2 ^ 40) (h3 : -(2 ^ 40) ≤ j) (h4 : j < 2 ^ 40) (h5 : 0 < c) (h6 : c < 2 ^ 29) : fRng3 h [.int i, .int j, .int c] = some (rngC i c (stepN i j c), fun _ => true) := by
  show (if _ then _ else _) = _
  rw [if_pos ⟨⟨h1, h2⟩, ⟨h3, h4⟩, h5, h6⟩]
theorem rngC_get {lo c : Int} {n i : Nat} {x : Val} (e : (rngC lo c n)[i]? = some x) : i < n ∧ x = .int (lo + i * c) := by
  have hi : i < n := by
    have := (List.getElem?_eq_some_iff.mp e).1
    simpa [rngC] using this
  unfold rngC at e
  rw [List.getElem?_map, List.getElem?_range hi] at e
  exact ⟨hi, (Option.some.inj e).symm⟩
@[simp] theorem rngC_length (lo c : Int) (n : Nat) : (rngC lo c n).length = n := by simp [rngC]
theorem bStr_of {h : Hep} {i : Int} (m : i.natAbs.log2 < 1920) : bStr [.int i] h = some (.str (S (toString i)), h) := by
  show (if strOk i then _ else _) = _
  rw [if_pos (show strOk i from m)]
theorem mZfill_of {h : Hep} {s : List Nat} {i : Int} (h1 : i ≤ 16777216) (h2 : -1000 < i) : mZfill (.str s) [.int i] h = some (.str (zfillL s i), h) := by
  show (if padOk i then _ else _) = _
  rw [if_pos (show padOk i from ⟨by rw [line_is]; exact h1, h2⟩)]
@[simp] theorem mStarts_eq (h : Hep) (s t : List Nat) : mStarts (.str s) [.str t] h = some (.bl (decide (s.take t.length = t)), h) := id rfl
@[simp] theorem mEnds_eq (h : Hep) (s t : List Nat) : mEnds (.str s) [.str t] h = some (.bl (decide (t.length ≤ s.length) && decide (s.drop (s.length - t.length) = t)), h) := id rfl
theorem strsL_map : ∀ l : List (List Nat), strsL (l.map .str) = some l
  | [] => rfl
  | i :: l => by rw [List.map_cons, strsL, strsL_map l]; rfl
theorem mJoin_ref {h : Hep} {n : Nat} {s : List Nat} {ps : List (List Nat)} (e : h[n]? = some (.lst (ps.map .str))) (z : (ps.map List.length).sum + ps.length * s.length ≤ 16777216) : mJoin (.str s) [.ref n] h = some (.str (joinL s ps), h) := by
  have e2 : seqOf h (.ref n) = some (ps.map .str) := by
    show (match h[n]? with | some (.lst l) => some l | _ => none) = _
    rw [e]
  unfold mJoin
  simp only [e2, Option.bind_some, strsL_map]
  rw [if_pos (show joinOk s ps by unfold joinOk; rw [line_is]; exact z)]
@[simp] theorem eCat_eq (a b : EM) (η : Env) (h : Hep) : eCat a b η h = (a η h).bind fun x h1 => (b η h1).bind fun y h2 => match oCat h2 x y with | some (v, h3) => .ok v h3 | none => .stuck := id rfl
@[simp] theorem eRev_eq (a : EM) (η : Env) (h : Hep) : eRev a η h = (a η h).bind fun x h1 => match itsL h1 x with | some l => .ok (.ref h1.length) (h1 ++ [.lst l.reverse]) | none => .stuck := id rfl
theorem itsL_ref {h : Hep} {n : Nat} {l : List Val} (e : h[n]? = some (.lst l)) : itsL h (.ref n) = some l := by
  show (match h[n]? with | some (.lst l) => some l | _ => none) = _
  rw [e]
theorem oCat_ref {h : Hep} {n m : Nat} {l k : List Val} (e : h[n]? = some (.lst l)) (e2 : h[m]? = some (.lst k)) (z : l.length + k.length ≤ 16777216) : oCat h (.ref n) (.ref m) = some (.ref h.length, h ++ [.lst (l ++ k)]) := by
  unfold oCat
  simp only [e, e2]
  rw [if_pos (szOk_iff.mpr z)]
theorem bIntS_of {h : Hep} {s : List Nat} (h1 : (s.all fun c => decide (48 ≤ c) && decide (c ≤ 57)) = true) (h2 : s ≠ []) (h3 : s.length ≤ 640) : bIntS [.str s] h = some (.int (digV s), h) := by
  show (if digOk s then _ else _) = _
  rw [if_pos (show digOk s from ⟨h1, h2, h3⟩)]
theorem in_refI (h : Hep) (v : Int) (n : Nat) (row : List Int) (e1 : h[n]? = some (.lst (row.map .int))) : oNin h (.int v) (.ref n) = some (.bl (!row.any fun y => y == v)) := by
  have e : isIn h (.int v) (.ref n) = match seqOf h (.ref n) with | some l => if flat (.int v) && l.all flat then some (l.any fun y => eqF y (.int v)) else none | none => none := rfl
  have e2 : seqOf h (.ref n) = some (row.map .int) := by
    show (match h[n]? with | some (.lst l) => some l | _ => none) = _
    rw [e1]
  have f : (row.map Val.int).all flat = true := by simp [flat]
  have g : ((row.map Val.int).any fun y => eqF y (.int v)) = row.any fun y => y == v := by
    rw [List.any_map]; rfl
  unfold oNin
  rw [e, e2]
  show ((if flat (.int v) && (row.map Val.int).all flat then some ((row.map Val.int).any fun y => eqF y (.int v)) else none).map fun k => Val.bl (!k)) = _
  rw [f, g]
  rfl
theorem append_ok {h : Hep} {n : Nat} {l : List Val} (e : h[n]? = some (.lst l)) (z : l.length + 1 ≤ 16777216) (v : Val) : mAppend (.ref n) [v] h = some (.non, h.set n (.lst (l ++ [v]))) := by
  unfold mAppend
  simp only [e]
  rw [if_pos (szOk_iff.mpr z)]
theorem typ_lst {h : Hep} {n : Nat} {l : List Val} (e : h[n]? = some (.lst l)) : typ h (.ref n) = some "list" := by
  show (match h[n]? with | some (.lst _) => some "list" | some (.dct _) => some "dict" | _ => none) = _
  rw [e]
theorem ints_map : ∀ l : List Int, intsL (l.map .int) = some l
  | [] => rfl
  | i :: l => by rw [List.map_cons, intsL, ints_map l]; rfl
theorem sort_ok {h : Hep} {n : Nat} {l : List Int} (e : h[n]? = some (.lst (l.map .int))) : bSortI [.ref n] h = some (.ref h.length, h ++ [.lst ((srtI l).map .int)]) := by
  have e2 : itsL h (.ref n) = some (l.map .int) := by
    show (match h[n]? with | some (.lst l) => some l | _ => none) = _
    rw [e]
  unfold bSortI
  simp only [e2, Option.bind_some, ints_map]
theorem tuple_ok {h : Hep} {n : Nat} {l : List Val} (e : h[n]? = some (.lst l)) : bTuple [.ref n] h = some (.tup l, h) := by
  show (match h[n]? with | some (.lst l) => some (Val.tup l, h) | _ => none) = _
  rw [e]
theorem setIx_ref {h : Hep} {n : Nat} {l : List Val} {k : Int} {j : Nat} {v : Val} (e : h[n]? = some (.lst l)) (q : ixN l.length k = some j) : setIx h (.ref n) (.int k) v = some (h.set n (.lst (l.set j v))) := by
  show (match h[n]? with | some (.lst l) => (match ixN l.length k with | some j => some (h.set n (.lst (l.set j v))) | none => none) | _ => none) = _
  rw [e]
  simp only [q]
/-! dicts -/
@[simp] theorem eDNew_eq (η : Env) (h : Hep) : eDNew η h = .ok (.ref h.length) (h ++ [.dct []]) := id rfl
@[simp] theorem eDTxt_eq (l : List (String × String)) (η : Env) (h : Hep) : eDTxt l η h = .ok (.ref h.length) (h ++ [.dct (l.map fun p => (.str (S p.1), .str (S p.2)))]) := id rfl
@[simp] theorem eDGet2_eq (o k v : EM) (η : Env) (h : Hep) : eDGet2 o k v η h = (o η h).bind fun x h1 => if isDct h1 x then (k η h1).bind fun y h2 => (v η h2).bind fun z h3 => ofO (oDGet2 h3 x y z) h3 else .stuck := id rfl
@[simp] theorem sSetDx_eq (o i e : EM) (η : Env) (h : Hep) : sSetDx o i e η h = (e η h).thn η fun v h1 => (o η h1).thn η fun x h2 => (i η h2).thn η fun k h3 => match setDx h3 x k v with
  | some h4 => .nx η h4
  | none => .stuck := id rfl
@[simp] theorem isKey_int (i : Int) : isKey (.int i) = true := id rfl
@[simp] theorem isKey_str (i : List Nat) : isKey (.str i) = true := id rfl
@[simp] theorem keyEq_int (i j : Int) : keyEq (.int i) (.int j) = (i == j) := id rfl
@[simp] theorem keyEq_str (i j : List Nat) : keyEq (.str i) (.str j) = (i == j) := id rfl
@[simp] theorem dGet_nil (k : Val) : dGet [] k = none := id rfl
@[simp] theorem dGet_cons (p : Val × Val) (l : List (Val × Val)) (k : Val) : dGet (p :: l) k = if keyEq p.1 k then some p.2 else dGet l k := rfl
theorem isDct_ref {h : Hep} {n : Nat} {l : List (Val × Val)} (e : h[n]? = some (.dct l)) : isDct h (.ref n) = true := by
  show (match h[n]? with | some (.dct _) => true | _ => false) = _
  rw [e]
theorem oDGet2_ref {h : Hep} {n : Nat} {l : List (Val × Val)} {k z : Val} (e : h[n]? = some (.dct l)) (hk : isKey k = true) : oDGet2 h (.ref n) k z = some ((dGet l k).getD z) := by
  show (match h[n]? with | some (.dct l) => if isKey k then some ((dGet l k).getD z) else none | _ => none) = _
  rw [e]
  simp only [hk, if_true]
theorem oDIdx_ref {h : Hep} {n : Nat} {l : List (Val × Val)} {k : Val} (e : h[n]? = some (.dct l)) (hk : isKey k = true) : oDIdx h (.ref n) k = dGet l k := by
  show (match h[n]? with | some (.dct l) => if isKey k then dGet l k else none | _ => none) = _
  rw [e]
  simp only [hk, if_true]
theorem oDIn_ref {h : Hep} {n : Nat} {l : List (Val × Val)} {k : Val} (e : h[n]? = some (.dct l)) (hk : isKey k = true) : oDIn h k (.ref n) = some (.bl (dHas l k)) := by
  show (match h[n]? with | some (.dct l) => if isKey k then some (Val.bl (dHas l k)) else none | _ => none) = _
  rw [e]
  simp only [hk, if_true]
theorem oDNin_ref {h : Hep} {n : Nat} {l : List (Val × Val)} {k : Val} (e : h[n]? = some (.dct l)) (hk : isKey k = true) : oDNin h k (.ref n) = some (.bl (!dHas l k)) := by
  show (match h[n]? with | some (.dct l) => if isKey k then some (Val.bl (!dHas l k)) else none | _ => none) = _
  rw [e]
  simp only [hk, if_true]
theorem setDx_ref {h : Hep} {n : Nat} {l : List (Val × Val)} {k v : Val} (e : h[n]? = some (.dct l)) (hk : isKey k = true) (z : l.length + 1 ≤ 16777216) : setDx h (.ref n) k v = some (h.set n (.dct (dPut l k v))) := by
  show (match h[n]? with | some (.dct l) => if isKey k then (if szOk (l.length + 1) then some (h.set n (.dct (dPut l k v))) else none) else none | _ => none) = _
  rw [e]
  simp only [hk, if_true]
  rw [if_pos (szOk_iff.mpr z)]
theorem mUpper_of {h : Hep} {s : List Nat} (h1 : (s.all fun c => decide (c < 128)) = true) (h2 : s.length ≤ 1000000) : mUpper (.str s) [] h = some (.str (s.map up1), h) := by
  show (if upOk s then _ else _) = _
  rw [if_pos (show upOk s from ⟨h1, h2⟩)]
theorem joinL_chars : ∀ l : List Nat, joinL [] (l.map fun c => [c]) = l
  | [] => rfl
  | [c] => rfl
  | c :: d :: l => by
    have := joinL_chars (d :: l)
    rw [List.map_cons] at this
    rw [List.map_cons, List.map_cons, joinL, this]
    rfl
/-- a comprehension whose parts leave the heap -/
theorem compL_pure {g : GM} {e : EM} {η : Env} {h : Hep} {f : Val → Val} : ∀ xs : List Val, (∀ x ∈ xs, ∃ η1, g x η = some η1 ∧ e η1 h = .ok (f x) h) → compL g (fun _ => true) tTrue e η xs h = .ok (xs.map f) h
  | [], _ => rfl
  | x :: xs, q => by
    obtain ⟨η1, e1, e2⟩ := q x List.mem_cons_self
    have ih := compL_pure (f := f) xs fun y hy => q y (List.mem_cons_of_mem _ hy)
    rw [compL, if_pos rfl, e1]
    show (match e η1 h with | .ok y h2 => _ | _ => _) = _
    rw [e2]
    simp only [ih, Res.bind_ok, List.map_cons]
/-- with a condition, over what must stand -/
theorem compL_if {g : GM} {chk : Hep → Bool} {c : TM} {e : EM} {η : Env} {h : Hep} {f : Val → Val} {k : Val → Bool} (hc : chk h = true) : ∀ xs : List Val, (∀ x ∈ xs, ∃ η1, g x η = some η1 ∧ c η1 h = .ok (k x) h ∧ e η1 h = .ok (f x) h) → compL g chk c e η xs h = .ok ((xs.filter k).map f) h
  | [], _ => by rw [compL, if_pos hc]; rfl
  | x :: xs, q => by
    obtain ⟨η1, e1, e3, e2⟩ := q x List.mem_cons_self
    have ih := compL_if (f := f) (k := k) hc xs fun y hy => q y (List.mem_cons_of_mem _ hy)
    rw [compL, if_pos hc, e1]
    simp only [e3]
    cases kx : k x with
    | true => simp only [if_true, e2, ih, Res.bind_ok, List.filter_cons, kx, List.map_cons]
    | false => simp only [Bool.false_eq_true, if_false, ih, List.filter_cons, kx]
/-- [[] for _ in ..] -/
theorem compL_new {g : GM} {η : Env} (hg : ∀ x, ∃ η1, g x η = some η1) : ∀ (xs : List Val) (h : Hep), compL g (fun _ => true) tTrue (eLst aNil) η xs h = .ok ((List.range xs.length).map fun i => .ref (h.length + i)) (h ++ List.replicate xs.length (.lst []))
  | [], h => by simp [compL]
  | x :: xs, h => by
    obtain ⟨η1, e1⟩ := hg x
    have ih := compL_new hg xs (h ++ [.lst []])
    rw [compL, if_pos rfl, e1]
    have e2 : eLst aNil η1 h = .ok (.ref h.length) (h ++ [.lst []]) := by simp
    show (match eLst aNil η1 h with | .ok y h2 => _ | _ => _) = _
    rw [e2]
    simp only [ih, Res.bind_ok, List.length_append, List.length_cons, List.length_nil, List.append_assoc]
    rw [List.range_succ_eq_map, List.map_cons, List.map_map, List.replicate_succ]
    congr 2
    refine List.map_congr_left fun i _ => ?_
    simp only [Function.comp]
    congr 1
    omega
end Cd

set_option maxRecDepth 100000
set_option maxHeartbeats 1000000
set_option linter.all false
namespace Law
open Cd Mir
/-- the law's own draws: place d, the cells at p -/
structure Dr (h : Hep) (d p : Nat) (cells : List Int) : Prop where
  at_ : ∃ i b s : Int, h[d]? = some (.lst [.ref p, .int i, .int b, .int s]) ∧ 0 ≤ i ∧ 0 ≤ b
  ce : h[p]? = some (.lst (cells.map .int))
  ne : d ≠ p
theorem draw_ok {h : Hep} {d p : Nat} {cells : List Int} (D : Dr h d p cells) {lim : Int} (h0 : 0 < lim) (h1 : lim < 2 ^ 60) :
    ∃ (v : Int) (o : Obj), M_v_law_draw [.ref d, .int lim] h = .ok (.int v) (h.set d o) ∧ 0 ≤ v ∧ v < lim ∧ Dr (h.set d o) d p cells := by
  obtain ⟨⟨i, b, s, e, hi, hb⟩, ce, ne⟩ := D
  have dl : d < h.length := (List.getElem?_eq_some_iff.mp e).1
  have g1 : ∀ o, (h.set d o)[d]? = some o := fun o => List.getElem?_set_self dl
  have g2 : ∀ o, (h.set d o)[p]? = some (.lst (cells.map .int)) := fun o => by rw [List.getElem?_set_ne ne]; exact ce
  have mk : ∀ i b s : Int, 0 ≤ i → 0 ≤ b → Dr (h.set d (.lst [.ref p, .int i, .int b, .int s])) d p cells := fun i b s hi hb => ⟨⟨i, b, s, g1 _, hi, hb⟩, g2 _, ne⟩
  have h00 : h = h.set d (.lst [.ref p, .int i, .int b, .int s]) := by
    refine (List.ext_getElem? fun j => ?_)
    by_cases q : d = j
    · subst q; rw [g1, e]
    · rw [List.getElem?_set_ne q]
  -- what the places give
  have ix : ∀ (i b s : Int), oIdx (h.set d (.lst [.ref p, .int i, .int b, .int s])) (.ref d) (.int 0) = some (.ref p) ∧ oIdx (h.set d (.lst [.ref p, .int i, .int b, .int s])) (.ref d) (.int 1) = some (.int i) ∧
      oIdx (h.set d (.lst [.ref p, .int i, .int b, .int s])) (.ref d) (.int 2) = some (.int b) ∧ oIdx (h.set d (.lst [.ref p, .int i, .int b, .int s])) (.ref d) (.int 3) = some (.int s) := fun i b s =>
    ⟨by rw [oIdx_ref (g1 _)]; simp, by rw [oIdx_ref (g1 _)]; simp, by rw [oIdx_ref (g1 _)]; simp, by rw [oIdx_ref (g1 _)]; simp⟩
  have st1 : ∀ (i b s x : Int), setIx (h.set d (.lst [.ref p, .int i, .int b, .int s])) (.ref d) (.int 1) (.int x) = some (h.set d (.lst [.ref p, .int x, .int b, .int s])) := fun i b s x => by
    rw [setIx_ref (j := 1) (g1 _) rfl, List.set_set]; rfl
  have st2 : ∀ (i b s x : Int), setIx (h.set d (.lst [.ref p, .int i, .int b, .int s])) (.ref d) (.int 2) (.int x) = some (h.set d (.lst [.ref p, .int i, .int x, .int s])) := fun i b s x => by
    rw [setIx_ref (j := 2) (g1 _) rfl, List.set_set]; rfl
  have st3 : ∀ (i b s x : Int), setIx (h.set d (.lst [.ref p, .int i, .int b, .int s])) (.ref d) (.int 3) (.int x) = some (h.set d (.lst [.ref p, .int i, .int b, .int x])) := fun i b s x => by
    rw [setIx_ref (j := 3) (g1 _) rfl, List.set_set]; rfl
  have len : ∀ o, bLen [.ref p] (h.set d o) = some (.int cells.length, h.set d o) := fun o => by rw [bLen_ref (g2 o)]; simp
  -- behind the first row: the rest from a state
  have rest : ∀ (i b s : Int) (v2 : Option Val), 0 ≤ i → 0 ≤ b → ∃ (v : Int) (o : Obj),
      ((sSeq (sIf (tVal (eBin oGt (eBin oIdx (eVar 0) (eC (.int 2))) (eC (.int 0)))) (sSeq (sSet 3 (eBin oMod (eCallB bInt (aCons (eBin oIdx (eVar 0) (eC (.int 2))) aNil)) (eVar 1))) (sSeq (sSetIx (eVar 0) (eC (.int 2)) (eBin oDiv (eBin oIdx (eVar 0) (eC (.int 2))) (eVar 1))) (sRet (eVar 3)))) sNop)
        (sSeq (sSetIx (eVar 0) (eC (.int 3)) (eBin oMod (eCallB bInt (aCons (eBin oAdd (eBin oMul (eBin oIdx (eVar 0) (eC (.int 3))) (eC (.int 69621))) (eC (.int 7))) aNil)) (eC (.int 2147483629))))
          (sRet (eBin oMod (eCallB bInt (aCons (eBin oDiv (eBin oIdx (eVar 0) (eC (.int 3))) (eC (.int 11))) aNil)) (eVar 1))))) [some (.ref d), some (.int lim), v2, none] (h.set d (.lst [.ref p, .int i, .int b, .int s]))) = .ret (.int v) (h.set d o) ∧ 0 ≤ v ∧ v < lim ∧ Dr (h.set d o) d p cells := by
    intro i b s v2 hi hb
    obtain ⟨x0, x1, x2, x3⟩ := ix i b s
    by_cases q : 0 < b
    · refine ⟨b % lim, .lst [.ref p, .int i, .int (b / lim), .int s], ?_, Int.emod_nonneg _ (by omega), Int.emod_lt_of_pos _ h0, mk _ _ _ hi (Int.ediv_nonneg hb (by omega))⟩
      simp (disch := omega) [x2, q, st2]
    · refine ⟨(s * 69621 + 7) % 2147483629 / 11 % lim, .lst [.ref p, .int i, .int b, .int ((s * 69621 + 7) % 2147483629)], ?_, Int.emod_nonneg _ (by omega), Int.emod_lt_of_pos _ h0, mk _ _ _ hi hb⟩
      obtain ⟨y0, y1, y2, y3⟩ := ix i b ((s * 69621 + 7) % 2147483629)
      simp (disch := omega) [x2, q, x3, st3, y3]
  have first : ∃ (i' b' s' : Int) (v2 : Option Val), 0 ≤ i' ∧ 0 ≤ b' ∧ (sIf (tAnd (tVal (eBin oEq (eBin oIdx (eVar 0) (eC (.int 2))) (eC (.int 0)))) (tVal (eBin oLt (eBin oIdx (eVar 0) (eC (.int 1))) (eCallB bLen (aCons (eBin oIdx (eVar 0) (eC (.int 0))) aNil)))))
      (sSeq (sSet 2 (eBin oIdx (eBin oIdx (eVar 0) (eC (.int 0))) (eBin oIdx (eVar 0) (eC (.int 1))))) (sSeq (sSetIx (eVar 0) (eC (.int 1)) (eBin oAdd (eBin oIdx (eVar 0) (eC (.int 1))) (eC (.int 1)))) (sSeq (sIf (tVal (eBin oGe (eVar 2) (eBin oPow (eC (.int 10)) (eC (.int 18))))) (sSetIx (eVar 0) (eC (.int 2)) (eVar 2)) sNop)
        (sSetIx (eVar 0) (eC (.int 3)) (eBin oMod (eCallB bInt (aCons (eBin oAdd (eBin oAdd (eBin oMul (eBin oIdx (eVar 0) (eC (.int 3))) (eC (.int 48271))) (eVar 2)) (eC (.int 13))) aNil)) (eC (.int 2147483647))))))) sNop) [some (.ref d), some (.int lim), none, none] (h.set d (.lst [.ref p, .int i, .int b, .int s])) =
      .nx [some (.ref d), some (.int lim), v2, none] (h.set d (.lst [.ref p, .int i', .int b', .int s'])) := by
    obtain ⟨x0, x1, x2, x3⟩ := ix i b s
    by_cases q : b = 0
    · subst q
      by_cases q2 : i < cells.length
      · have hl : i.toNat < cells.length := by omega
        have ic : oIdx (h.set d (.lst [.ref p, .int i, .int 0, .int s])) (.ref p) (.int i) = some (.int cells[i.toNat]) := by
          rw [oIdx_ref (g2 _)]
          exact atI_of hi (by rw [List.getElem?_map, List.getElem?_eq_getElem hl]; rfl)
        generalize cells[i.toNat] = c at ic
        obtain ⟨y0, y1, y2, y3⟩ := ix (i + 1) 0 s
        obtain ⟨z0, z1, z2, z3⟩ := ix (i + 1) c s
        by_cases q3 : 1000000000000000000 ≤ c
        · refine ⟨i + 1, c, (s * 48271 + c + 13) % 2147483647, some (.int c), by omega, by omega, ?_⟩
          simp (disch := omega) [x0, x1, x2, len, q2, ic, st1, y3, z3, st2, st3, q3]
        · refine ⟨i + 1, 0, (s * 48271 + c + 13) % 2147483647, some (.int c), by omega, by omega, ?_⟩
          simp (disch := omega) [x0, x1, x2, len, q2, ic, st1, y3, z3, st2, st3, q3]
      · refine ⟨i, 0, s, none, hi, hb, ?_⟩
        simp (disch := omega) [x0, x1, x2, len, q2]
    · refine ⟨i, b, s, none, hi, hb, ?_⟩
      simp (disch := omega) [x2, q]
  obtain ⟨i', b', s', v2, hi', hb', e1⟩ := first
  obtain ⟨v, o, e2, r1, r2, r3⟩ := rest i' b' s' v2 hi' hb'
  refine ⟨v, o, ?_, r1, r2, r3⟩
  rw [← h00] at e1
  have e3 : B_v_law_draw [some (.ref d), some (.int lim), none, none] h = .ret (.int v) (h.set d o) := by
    unfold B_v_law_draw
    rw [sSeq_eq, e1]
    exact e2
  unfold M_v_law_draw
  rw [fn_2]
  show (B_v_law_draw [some (.ref d), some (.int lim), none, none] h).res = _
  rw [e3]
  rfl
theorem Dr.push {h : Hep} {d p : Nat} {cells : List Int} (D : Dr h d p cells) (o : Obj) : Dr (h ++ [o]) d p cells := by
  obtain ⟨⟨i, b, s, e, hi, hb⟩, ce, ne⟩ := D
  have l1 : d < h.length := (List.getElem?_eq_some_iff.mp e).1
  have l2 : p < h.length := (List.getElem?_eq_some_iff.mp ce).1
  exact ⟨⟨i, b, s, by rw [List.getElem?_append_left l1]; exact e, hi, hb⟩, by rw [List.getElem?_append_left l2]; exact ce, ne⟩
theorem Dr.self {h : Hep} {d p : Nat} {cells : List Int} (D : Dr h d p cells) : ∃ o, h = h.set d o := by
  obtain ⟨⟨i, b, s, e, hi, hb⟩, ce, ne⟩ := D
  have l1 : d < h.length := (List.getElem?_eq_some_iff.mp e).1
  refine ⟨.lst [.ref p, .int i, .int b, .int s], (List.ext_getElem? fun j => ?_)⟩
  · by_cases q : d = j
    · subst q; rw [List.getElem?_set_self l1, e]
    · rw [List.getElem?_set_ne q]
/-- [_law_draw(draws, lim) for ..] -/
theorem comp_draw {d p : Nat} {cells : List Int} {lim : Int} (h0 : 0 < lim) (h1 : lim < 2 ^ 60) (i : Nat) (η : Env) (hη : ∀ x, ((η.set i (some x))[0]?).join = some (.ref d)) : ∀ (xs : List Val) (h : Hep), Dr h d p cells →
    ∃ (hs : List Int) (o : Obj), compL (gNam i) (fun _ => true) tTrue (eCall M_v_law_draw (aCons (eVar 0) (aCons (eC (.int lim)) aNil))) η xs h = .ok (hs.map .int) (h.set d o) ∧ hs.length = xs.length ∧ Dr (h.set d o) d p cells
  | [], h, D => by
    obtain ⟨o, e⟩ := D.self
    refine ⟨[], o, ?_, rfl, e ▸ D⟩
    rw [← e]
    rfl
  | x :: xs, h, D => by
    obtain ⟨v, o, e1, _, _, D1⟩ := draw_ok D h0 h1
    obtain ⟨hs, o2, e2, l2, D2⟩ := comp_draw h0 h1 i η hη xs (h.set d o) D1
    rw [List.set_set] at e2 D2
    refine ⟨v :: hs, o2, ?_, by simp [l2], D2⟩
    rw [compL, if_pos rfl]
    simp only [gNam_eq]
    show (match (eCall M_v_law_draw (aCons (eVar 0) (aCons (eC (.int lim)) aNil))) (η.set i (some x)) h with | .ok y h2 => _ | _ => _) = _
    have e3 : (eCall M_v_law_draw (aCons (eVar 0) (aCons (eC (.int lim)) aNil))) (η.set i (some x)) h = .ok (.int v) (h.set d o) := by
      simp only [eCall_eq, aCons_eq, eVar_eq, hη, ofO_some, Res.bind_ok, eC_eq, aNil_eq, e1]
    rw [e3]
    simp only [e2, Res.bind_ok, List.map_cons]
theorem draws_ok (ns : List Int) (h : Hep) : ∃ h' d p, M_v_law_draws [.fl (ns.map .int)] h = .ok (.ref d) h' ∧ Dr h' d p ns := by
  refine ⟨h ++ [.lst (ns.map .int)] ++ [.lst [.ref h.length, .int 0, .int 0, .int 1]], (h ++ [Obj.lst (ns.map .int)]).length, h.length, ?_, ⟨⟨0, 0, 1, get_new _ _, by decide, by decide⟩, ?_, by simp⟩⟩
  · have b : bList [.fl (ns.map .int)] h = some (.ref h.length, h ++ [.lst (ns.map .int)]) := rfl
    simp [M_v_law_draws, B_v_law_draws, b]
  · rw [List.getElem?_append_left (by simp), get_new]
end Law

set_option maxRecDepth 100000
set_option maxHeartbeats 1000000
set_option linter.all false
namespace Law
open Cd Mir
section
variable {d p hp rp kp : Nat} {cells hs : List Int} {rows : List Val} {n : Nat} {up most k : Int}
theorem g1_ok (hn : 0 < n) (hn2 : n ≤ 40) (hhs : hs.length = n) (k0 : 0 ≤ k) (k1 : k < n) (dh : d ≠ hp) (dr : d ≠ rp) (dk : d ≠ kp) (kh : kp ≠ hp) (kr : kp ≠ rp) (pk : p ≠ kp)
    (h : Hep) (D : Dr h d p cells) (eh : h[hp]? = some (.lst (hs.map .int))) (er : h[rp]? = some (.lst rows)) (row : List Int) (ek : h[kp]? = some (.lst (row.map .int))) (rl : row.length ≤ 1000) (rb : ∀ y ∈ row, 0 ≤ y ∧ y < n) (j w : Option Val) :
    ∃ (h' : Hep) (row' : List Int) (w' : Option Val), L_v_law_graph_1 [some (.ref d), some (.int n), some (.ref hp), some (.int up), some (.int most), some (.ref rp), some (.int k), some (.ref kp), j, w] h =
      .nx [some (.ref d), some (.int n), some (.ref hp), some (.int up), some (.int most), some (.ref rp), some (.int k), some (.ref kp), j, w'] h' ∧ Dr h' d p cells ∧ h'[hp]? = some (.lst (hs.map .int)) ∧ h'[rp]? = some (.lst rows) ∧
      h'[kp]? = some (.lst (row'.map .int)) ∧ row'.length ≤ row.length + 1 ∧ (∀ y ∈ row', 0 ≤ y ∧ y < n) ∧ h'.length = h.length := by
  obtain ⟨v, o, e1, v0, v1, D1⟩ := draw_ok D (show (0 : Int) < n by omega) (by omega)
  have eh1 : (h.set d o)[hp]? = some (.lst (hs.map .int)) := by rw [List.getElem?_set_ne dh]; exact eh
  have er1 : (h.set d o)[rp]? = some (.lst rows) := by rw [List.getElem?_set_ne dr]; exact er
  have ek1 : (h.set d o)[kp]? = some (.lst (row.map .int)) := by rw [List.getElem?_set_ne dk]; exact ek
  have ni := in_refI (h.set d o) v kp row ek1
  have kl : k.toNat < hs.length := by omega
  have vl : v.toNat < hs.length := by omega
  have hk : oIdx (h.set d o) (.ref hp) (.int k) = some (.int hs[k.toNat]) := by
    rw [oIdx_ref eh1]; exact atI_of k0 (by rw [List.getElem?_map, List.getElem?_eq_getElem kl]; rfl)
  have hv : oIdx (h.set d o) (.ref hp) (.int v) = some (.int hs[v.toNat]) := by
    rw [oIdx_ref eh1]; exact atI_of v0 (by rw [List.getElem?_map, List.getElem?_eq_getElem vl]; rfl)
  have ty := typ_lst ek1
  have ap := append_ok ek1 (by simp; omega) (.int v)
  have stay : ∃ (h' : Hep) (row' : List Int) (w' : Option Val), (SR.nx [some (.ref d), some (.int n), some (.ref hp), some (.int up), some (.int most), some (.ref rp), some (.int k), some (.ref kp), j, some (.int v)] (h.set d o)) =
      .nx [some (.ref d), some (.int n), some (.ref hp), some (.int up), some (.int most), some (.ref rp), some (.int k), some (.ref kp), j, w'] h' ∧ Dr h' d p cells ∧ h'[hp]? = some (.lst (hs.map .int)) ∧ h'[rp]? = some (.lst rows) ∧
      h'[kp]? = some (.lst (row'.map .int)) ∧ row'.length ≤ row.length + 1 ∧ (∀ y ∈ row', 0 ≤ y ∧ y < n) ∧ h'.length = h.length := ⟨_, row, _, rfl, D1, eh1, er1, ek1, by omega, rb, by simp⟩
  have kl2 : kp < (h.set d o).length := (List.getElem?_eq_some_iff.mp ek1).1
  have grow : ∃ (h' : Hep) (row' : List Int) (w' : Option Val), (SR.nx [some (.ref d), some (.int n), some (.ref hp), some (.int up), some (.int most), some (.ref rp), some (.int k), some (.ref kp), j, some (.int v)] ((h.set d o).set kp (.lst (row.map .int ++ [.int v])))) =
      .nx [some (.ref d), some (.int n), some (.ref hp), some (.int up), some (.int most), some (.ref rp), some (.int k), some (.ref kp), j, w'] h' ∧ Dr h' d p cells ∧ h'[hp]? = some (.lst (hs.map .int)) ∧ h'[rp]? = some (.lst rows) ∧
      h'[kp]? = some (.lst (row'.map .int)) ∧ row'.length ≤ row.length + 1 ∧ (∀ y ∈ row', 0 ≤ y ∧ y < n) ∧ h'.length = h.length := by
    refine ⟨_, row ++ [v], _, rfl, ?_, by rw [List.getElem?_set_ne kh]; exact eh1, by rw [List.getElem?_set_ne kr]; exact er1, by rw [List.getElem?_set_self kl2]; simp, by simp, fun y hy => ?_, by simp⟩
    · obtain ⟨⟨i, b, s, e, hi, hb⟩, ce, ne⟩ := D1
      exact ⟨⟨i, b, s, by rw [List.getElem?_set_ne (Ne.symm dk)]; exact e, hi, hb⟩, by rw [List.getElem?_set_ne (Ne.symm pk)]; exact ce, ne⟩
    · rcases List.mem_append.mp hy with hy | hy
      · exact rb y hy
      · rw [List.mem_singleton.mp hy]; exact ⟨v0, v1⟩
  by_cases q1 : row.any (fun y => y == v) = true
  · rw [q1] at ni
    have e : L_v_law_graph_1 [some (.ref d), some (.int n), some (.ref hp), some (.int up), some (.int most), some (.ref rp), some (.int k), some (.ref kp), j, w] h = SR.nx [some (.ref d), some (.int n), some (.ref hp), some (.int up), some (.int most), some (.ref rp), some (.int k), some (.ref kp), j, some (.int v)] (h.set d o) := by
      simp [L_v_law_graph_1, e1, ni]
    rw [e]; exact stay
  · have q1 : (row.any fun y => y == v) = false := Bool.eq_false_iff.mpr q1
    rw [q1] at ni
    by_cases q2 : up = 0 ∨ hs[k.toNat] < hs[v.toNat]
    · have e : L_v_law_graph_1 [some (.ref d), some (.int n), some (.ref hp), some (.int up), some (.int most), some (.ref rp), some (.int k), some (.ref kp), j, w] h = SR.nx [some (.ref d), some (.int n), some (.ref hp), some (.int up), some (.int most), some (.ref rp), some (.int k), some (.ref kp), j, some (.int v)] ((h.set d o).set kp (.lst (row.map .int ++ [.int v]))) := by
        by_cases q3 : up = 0
        · simp [L_v_law_graph_1, e1, ni, q3, ty, ap]
        · have q4 : hs[k.toNat] < hs[v.toNat] := by rcases q2 with z | z; exact absurd z q3; exact z
          simp [L_v_law_graph_1, e1, ni, q3, ty, ap, hk, hv, q4]
      rw [e]; exact grow
    · have q3 : ¬ up = 0 := fun z => q2 (.inl z)
      have q4 : ¬ hs[k.toNat] < hs[v.toNat] := fun z => q2 (.inr z)
      have e : L_v_law_graph_1 [some (.ref d), some (.int n), some (.ref hp), some (.int up), some (.int most), some (.ref rp), some (.int k), some (.ref kp), j, w] h = SR.nx [some (.ref d), some (.int n), some (.ref hp), some (.int up), some (.int most), some (.ref rp), some (.int k), some (.ref kp), j, some (.int v)] (h.set d o) := by
        simp [L_v_law_graph_1, e1, ni, q3, hk, hv, q4]
      rw [e]; exact stay
theorem g1_loop (hn : 0 < n) (hn2 : n ≤ 40) (hhs : hs.length = n) (k0 : 0 ≤ k) (k1 : k < n) (dh : d ≠ hp) (dr : d ≠ rp) (dk : d ≠ kp) (kh : kp ≠ hp) (kr : kp ≠ rp) (pk : p ≠ kp) (m : Nat) (hm : m ≤ 500)
    (h : Hep) (D : Dr h d p cells) (eh : h[hp]? = some (.lst (hs.map .int))) (er : h[rp]? = some (.lst rows)) (ek : h[kp]? = some (.lst [])) (j w : Option Val) :
    ∃ (h' : Hep) (row' : List Int) (j' w' : Option Val), forL (gNam 8) (fun _ => true) L_v_law_graph_1 (rng 0 m) [some (.ref d), some (.int n), some (.ref hp), some (.int up), some (.int most), some (.ref rp), some (.int k), some (.ref kp), j, w] h =
      .nx [some (.ref d), some (.int n), some (.ref hp), some (.int up), some (.int most), some (.ref rp), some (.int k), some (.ref kp), j', w'] h' ∧ Dr h' d p cells ∧ h'[hp]? = some (.lst (hs.map .int)) ∧ h'[rp]? = some (.lst rows) ∧
      h'[kp]? = some (.lst (row'.map .int)) ∧ (∀ y ∈ row', 0 ≤ y ∧ y < n) ∧ h'.length = h.length ∧ row'.length ≤ 500 := by
  refine forL_gen (fun r => ∃ (h' : Hep) (row' : List Int) (j' w' : Option Val), r =
      .nx [some (.ref d), some (.int n), some (.ref hp), some (.int up), some (.int most), some (.ref rp), some (.int k), some (.ref kp), j', w'] h' ∧ Dr h' d p cells ∧ h'[hp]? = some (.lst (hs.map .int)) ∧ h'[rp]? = some (.lst rows) ∧
      h'[kp]? = some (.lst (row'.map .int)) ∧ (∀ y ∈ row', 0 ≤ y ∧ y < n) ∧ h'.length = h.length ∧ row'.length ≤ 500) _
    (fun i η h' => ∃ (row' : List Int) (j' w' : Option Val), η = [some (.ref d), some (.int n), some (.ref hp), some (.int up), some (.int most), some (.ref rp), some (.int k), some (.ref kp), j', w'] ∧ Dr h' d p cells ∧ h'[hp]? = some (.lst (hs.map .int)) ∧ h'[rp]? = some (.lst rows) ∧
      h'[kp]? = some (.lst (row'.map .int)) ∧ row'.length ≤ i ∧ (∀ y ∈ row', 0 ≤ y ∧ y < n) ∧ h'.length = h.length) _ _ ⟨[], j, w, rfl, D, eh, er, ek, Nat.le_refl _, (fun y hy => by cases hy), rfl⟩ ?_ ?_
  · rintro i x η h1 hx ⟨row', j', w', rfl, D1, eh1, er1, ek1, rl, rb, ll⟩
    obtain ⟨hi, rfl⟩ := rng_get hx
    obtain ⟨h2, row2, w2, e, D2, eh2, er2, ek2, rl2, rb2, ll2⟩ := g1_ok hn hn2 hhs k0 k1 dh dr dk kh kr pk h1 D1 eh1 er1 row' ek1 (by omega) rb (some (.int (0 + (i : Int)))) w'
    refine ⟨rfl, _, rfl, ?_⟩
    simp only [List.set_cons_succ, List.set_cons_zero]
    rw [e]
    exact ⟨row2, _, _, rfl, D2, eh2, er2, ek2, by omega, rb2, by omega⟩
  · rintro η h1 ⟨row', j', w', rfl, D1, eh1, er1, ek1, rl, rb, ll⟩
    rw [rng_length] at rl
    exact ⟨rfl, h1, row', j', w', rfl, D1, eh1, er1, ek1, rb, ll, by omega⟩
end
theorem insI_mem (i : Int) : ∀ (l : List Int) (y : Int), y ∈ insI i l → y = i ∨ y ∈ l
  | [], y, h => by rw [insI] at h; exact .inl (List.mem_singleton.mp h)
  | j :: l, y, h => by
    rw [insI] at h
    split at h
    · exact List.mem_cons.mp h
    · rcases List.mem_cons.mp h with h | h
      · exact .inr (h ▸ List.mem_cons_self)
      · rcases insI_mem i l y h with z | z
        · exact .inl z
        · exact .inr (List.mem_cons_of_mem _ z)
theorem srtI_mem : ∀ (l : List Int) (y : Int), y ∈ srtI l → y ∈ l
  | [], y, h => h
  | i :: l, y, h => by
    rw [srtI] at h
    rcases insI_mem i _ y h with z | z
    · exact z ▸ List.mem_cons_self
    · exact List.mem_cons_of_mem _ (srtI_mem l y z)
theorem insI_len (i : Int) : ∀ l : List Int, (insI i l).length = l.length + 1
  | [] => rfl
  | j :: l => by
    rw [insI]
    split
    · rfl
    · rw [List.length_cons, insI_len i l, List.length_cons]
theorem srtI_len : ∀ l : List Int, (srtI l).length = l.length
  | [] => rfl
  | i :: l => by rw [srtI, insI_len, srtI_len l, List.length_cons]
def rowV (r : List Int) : Val := .tup (r.map .int)
section
variable {d p hp rp : Nat} {cells hs : List Int} {n : Nat} {up most k : Int}
theorem g2_ok (hn : 0 < n) (hn2 : n ≤ 40) (hhs : hs.length = n) (k0 : 0 ≤ k) (k1 : k < n) (m0 : 0 < most) (m1 : most ≤ 10) (dh : d ≠ hp) (dr : d ≠ rp) (hr : hp ≠ rp) (pr : p ≠ rp)
    (h : Hep) (D : Dr h d p cells) (eh : h[hp]? = some (.lst (hs.map .int))) (gs : List (List Int)) (er : h[rp]? = some (.lst (gs.map rowV))) (gl : gs.length ≤ 1000) (w7 w8 w9 : Option Val) :
    ∃ (h' : Hep) (r : List Int) (u7 u8 u9 : Option Val), L_v_law_graph_2 [some (.ref d), some (.int n), some (.ref hp), some (.int up), some (.int most), some (.ref rp), some (.int k), w7, w8, w9] h =
      .nx [some (.ref d), some (.int n), some (.ref hp), some (.int up), some (.int most), some (.ref rp), some (.int k), u7, u8, u9] h' ∧ Dr h' d p cells ∧ h'[hp]? = some (.lst (hs.map .int)) ∧ h'[rp]? = some (.lst ((gs ++ [r]).map rowV)) ∧
      (∀ y ∈ r, 0 ≤ y ∧ y < n) ∧ r.length ≤ 500 := by
  have dl : d < h.length := by obtain ⟨i, b, s, e, _⟩ := D.at_; exact (List.getElem?_eq_some_iff.mp e).1
  have pl : p < h.length := (List.getElem?_eq_some_iff.mp D.ce).1
  have hl : hp < h.length := (List.getElem?_eq_some_iff.mp eh).1
  have rl : rp < h.length := (List.getElem?_eq_some_iff.mp er).1
  have D0 := D.push (.lst [])
  obtain ⟨v, o, e1, v0, v1, D1⟩ := draw_ok D0 m0 (by omega)
  have eh1 : ((h ++ [Obj.lst []]).set d o)[hp]? = some (.lst (hs.map .int)) := by rw [List.getElem?_set_ne dh, List.getElem?_append_left hl]; exact eh
  have er1 : ((h ++ [Obj.lst []]).set d o)[rp]? = some (.lst (gs.map rowV)) := by rw [List.getElem?_set_ne dr, List.getElem?_append_left rl]; exact er
  have ek1 : ((h ++ [Obj.lst []]).set d o)[h.length]? = some (.lst []) := by rw [List.getElem?_set_ne (by omega), get_new]
  obtain ⟨h2, r, j', w', e2, D2, eh2, er2, ek2, rb, ll, rlen⟩ := g1_loop (up := up) (most := most) (kp := h.length) hn hn2 hhs k0 k1 dh dr (by omega) (by omega) (by omega) (by omega) v.toNat (by omega) _ D1 eh1 er1 ek1 w8 w9
  have so := sort_ok ek2
  have tu := tuple_ok (get_new h2 (.lst ((srtI r).map .int)))
  have rl2 : rp < h2.length := (List.getElem?_eq_some_iff.mp er2).1
  have hl2 : hp < h2.length := (List.getElem?_eq_some_iff.mp eh2).1
  have er3 : (h2 ++ [Obj.lst ((srtI r).map .int)])[rp]? = some (.lst (gs.map rowV)) := by rw [List.getElem?_append_left rl2]; exact er2
  have ap := append_ok er3 (by simp; omega) (rowV (srtI r))
  have ty := typ_lst er2
  have D3 := D2.push (.lst ((srtI r).map .int))
  refine ⟨(h2 ++ [Obj.lst ((srtI r).map .int)]).set rp (.lst (gs.map rowV ++ [rowV (srtI r)])), srtI r, some (.ref h.length), j', w', ?_, ?_, ?_, ?_, (fun y hy => rb y (srtI_mem r y hy)), by rw [srtI_len]; exact rlen⟩
  · unfold L_v_law_graph_2
    simp only [sSeq_eq, sSet_eq, eLst_eq, aNil_eq, Res.bind_ok, List.length_nil, szOk_iff, Nat.zero_le, if_true, Res.thn_ok, SR.bind_nx, List.set_cons_succ, List.set_cons_zero, sFor_eq, iArgs_eq, aCons_eq, eCall_eq, eVar_eq, get_0, get_S, Option.join_some, ofO_some, e1, fRng1_of (show -(2 ^ 62) ≤ v by omega) (show v < 2 ^ 62 by omega), e2,
      sExpr_eq, eMth_eq, ty, eCallB_eq, so, tu]
    rw [show Val.tup ((srtI r).map .int) = rowV (srtI r) from rfl, ap]
    rfl
  · obtain ⟨⟨i, b, s, e, hi, hb⟩, ce, ne⟩ := D3
    exact ⟨⟨i, b, s, by rw [List.getElem?_set_ne (Ne.symm dr)]; exact e, hi, hb⟩, by rw [List.getElem?_set_ne (Ne.symm pr)]; exact ce, ne⟩
  · rw [List.getElem?_set_ne (Ne.symm hr), List.getElem?_append_left hl2]; exact eh2
  · rw [List.getElem?_set_self (by rw [List.length_append]; omega)]
    simp
end
theorem graph_ok {d p : Nat} {cells : List Int} (h : Hep) (D : Dr h d p cells) :
    ∃ (h' : Hep) (gs : List (List Int)), M_v_law_graph [.ref d] h = .ok (.tup (gs.map rowV)) h' ∧ gs.length ≤ 40 ∧ (∀ r ∈ gs, ∀ y ∈ r, 0 ≤ y ∧ y < gs.length) ∧ ∀ r ∈ gs, r.length ≤ 500 := by
  have D0 := D.push (.lst [.int 8, .int 40])
  obtain ⟨v5, o1, e1, _, _, D1⟩ := draw_ok D0 (lim := 5) (by decide) (by decide)
  have lim : ∃ L : Int, 0 < L ∧ L ≤ 40 ∧ atI [Val.int 8, .int 40] (if (v5 == 0) = true then 1 else 0) = some (.int L) := by
    by_cases q : (v5 == 0) = true
    · rw [if_pos q]; exact ⟨40, by decide, by decide, by simp⟩
    · rw [if_neg q]; exact ⟨8, by decide, by decide, by simp⟩
  obtain ⟨L, L0, L1, eL⟩ := lim
  have dl : d < h.length := by obtain ⟨i, b, s, e, _⟩ := D.at_; exact (List.getElem?_eq_some_iff.mp e).1
  have pl : p < h.length := (List.getElem?_eq_some_iff.mp D.ce).1
  have eI : oIdx ((h ++ [Obj.lst [Val.int 8, .int 40]]).set d o1) (.ref h.length) (.int (if (v5 == 0) = true then 1 else 0)) = some (.int L) := by
    rw [oIdx_ref (l := [Val.int 8, .int 40]) (by rw [List.getElem?_set_ne (by omega), get_new])]; exact eL
  obtain ⟨c, o2, e2, c0, c1, D2⟩ := draw_ok D1 L0 (by omega)
  obtain ⟨n, hn⟩ := Int.eq_ofNat_of_zero_le c0
  subst hn
  have n40 : n < 40 := by omega
  rw [List.set_set] at e2 D2
  obtain ⟨hs, o3, e3, lh, D3⟩ := comp_draw (lim := 1000) (by decide) (by decide) 6 [some (.ref d), some (.int n), none, none, none, none, none, none, none, none] (fun x => rfl) (rng 0 n) _ D2
  rw [List.set_set] at e3 D3
  rw [rng_length] at lh
  have D4 := D3.push (.lst (hs.map .int))
  obtain ⟨up, o4, e4, _, _, D5⟩ := draw_ok D4 (lim := 2) (by decide) (by decide)
  obtain ⟨ms, o5, e5, ms0, ms1, D6⟩ := draw_ok D5 (lim := 4) (by decide) (by decide)
  rw [List.set_set] at e5 D6
  have D7 := D6.push (.lst [])
  generalize eA : ((h ++ [Obj.lst [Val.int 8, .int 40]]).set d o3) = hA at *
  have lA : hA.length = h.length + 1 := by rw [← eA]; simp
  generalize eB : (hA ++ [Obj.lst (hs.map .int)]).set d o5 = hB at *
  have lB : hB.length = h.length + 2 := by rw [← eB]; simp [lA]
  have eh : (hB ++ [Obj.lst []])[hA.length]? = some (.lst (hs.map .int)) := by
    rw [List.getElem?_append_left (by omega), ← eB, List.getElem?_set_ne (by omega), get_new]
  have er : (hB ++ [Obj.lst []])[hB.length]? = some (.lst (([] : List (List Int)).map rowV)) := get_new _ _
  have loop : ∃ (h' : Hep) (gs : List (List Int)) (η : Env), forL (gNam 6) (fun _ => true) L_v_law_graph_2 (rng 0 n) [some (.ref d), some (.int n), some (.ref hA.length), some (.int up), some (.int (2 + ms)), some (.ref hB.length), none, none, none, none] (hB ++ [Obj.lst []]) = .nx η h' ∧
      (η[5]?).join = some (.ref hB.length) ∧ h'[hB.length]? = some (.lst (gs.map rowV)) ∧ gs.length = n ∧ (∀ r ∈ gs, ∀ y ∈ r, 0 ≤ y ∧ y < (n : Int)) ∧ ∀ r ∈ gs, r.length ≤ 500 := by
    refine forL_gen (fun r => ∃ (h' : Hep) (gs : List (List Int)) (η : Env), r = .nx η h' ∧ (η[5]?).join = some (.ref hB.length) ∧ h'[hB.length]? = some (.lst (gs.map rowV)) ∧ gs.length = n ∧ (∀ r ∈ gs, ∀ y ∈ r, 0 ≤ y ∧ y < (n : Int)) ∧ ∀ r ∈ gs, r.length ≤ 500) _
      (fun i η h' => ∃ (gs : List (List Int)) (w6 w7 w8 w9 : Option Val), η = [some (.ref d), some (.int n), some (.ref hA.length), some (.int up), some (.int (2 + ms)), some (.ref hB.length), w6, w7, w8, w9] ∧ Dr h' d p cells ∧ h'[hA.length]? = some (.lst (hs.map .int)) ∧
        h'[hB.length]? = some (.lst (gs.map rowV)) ∧ gs.length = i ∧ (∀ r ∈ gs, ∀ y ∈ r, 0 ≤ y ∧ y < (n : Int)) ∧ ∀ r ∈ gs, r.length ≤ 500) _ _ ⟨[], _, _, _, _, rfl, D7, eh, er, rfl, (fun r hr => by cases hr), fun r hr => by cases hr⟩ ?_ ?_
    · rintro i x η h1 hx ⟨gs, w6, w7, w8, w9, rfl, D8, eh1, er1, gl, gb, gz⟩
      obtain ⟨hi, rfl⟩ := rng_get hx
      obtain ⟨h2, r, u7, u8, u9, e, D9, eh2, er2, rb, rz⟩ := g2_ok (up := up) (most := 2 + ms) (k := 0 + (i : Int)) (n := n) (by omega) (by omega) lh (by omega) (by omega) (by omega) (by omega) (by omega) (by omega) (by omega) (by omega) h1 D8 eh1 gs er1 (by omega) w7 w8 w9
      refine ⟨rfl, _, rfl, ?_⟩
      simp only [List.set_cons_succ, List.set_cons_zero]
      rw [e]
      refine ⟨gs ++ [r], _, _, _, _, rfl, D9, eh2, er2, by simp [gl], fun r' hr' => ?_, fun r' hr' => ?_⟩
      · rcases List.mem_append.mp hr' with z | z
        · exact gb r' z
        · rw [List.mem_singleton.mp z]; exact rb
      · rcases List.mem_append.mp hr' with z | z
        · exact gz r' z
        · rw [List.mem_singleton.mp z]; exact rz
    · rintro η h1 ⟨gs, w6, w7, w8, w9, rfl, D8, eh1, er1, gl, gb, gz⟩
      rw [rng_length] at gl
      exact ⟨rfl, h1, gs, _, rfl, rfl, er1, gl, gb, gz⟩
  obtain ⟨h', gs, η, el, e5', erf, gl, gb, gz⟩ := loop
  refine ⟨h', gs, ?_, by omega, by rw [gl]; exact gb, gz⟩
  have tu := tuple_ok erf
  unfold M_v_law_graph
  rw [fn_1]
  unfold B_v_law_graph T_v_law_graph_3
  have s40 : hs.length ≤ 16777216 := by omega
  simp only [sSeq_eq, sSet_eq, eLst_eq, aNil_eq, aCons_eq, eC_eq, Res.bind_ok, List.length_cons, List.length_nil, szOk_iff, Nat.reduceAdd, Nat.reduceLeDiff, Nat.zero_le, if_true, Res.thn_ok, SR.bind_nx, List.set_cons_succ, List.set_cons_zero, eCall_eq, eVar_eq, get_0, get_S, Option.join_some, ofO_some, eBin_eq, eCallB_eq, e1, oEq_int, bInt_bl, List.replicate,
    eI, e2, eComp_eq, iArgs_eq, fRng1_of (show -(2 ^ 62) ≤ (n : Int) by omega) (show (n : Int) < 2 ^ 62 by omega), Int.toNat_natCast, wipe, e3, List.length_map, s40, e4, e5, oAdd_int, sFor_eq, el, SR.bind_nx, sRet_eq, e5', tu, SR.res_ret]
end Law

set_option maxRecDepth 100000
set_option maxHeartbeats 1000000
set_option linter.all false
/-! _law_same of a value with itself -/
namespace Law
open Cd Mir
/-- integers, truths, texts, None, tuples of such, at most n deep -/
def plain : Nat → Val → Prop
  | _, .int _ => True
  | _, .bl _ => True
  | _, .str _ => True
  | _, .non => True
  | n + 1, .tup l => l.length < 2 ^ 60 ∧ ∀ x ∈ l, plain n x
  | _, _ => False
theorem isT_tt : isT "tuple" "tuple" = true := by decide
theorem isT_it : isT "int" "tuple" = false := by decide
theorem isT_is : isT "int" "str" = false := by decide
theorem isT_ib : isT "int" "bool" = false := by decide
theorem isT_ii : isT "int" "int" = true := by decide
theorem isT_bt : isT "bool" "tuple" = false := by decide
theorem isT_bs : isT "bool" "str" = false := by decide
theorem isT_bb : isT "bool" "bool" = true := by decide
theorem isT_st : isT "str" "tuple" = false := by decide
theorem isT_ss : isT "str" "str" = true := by decide
theorem isT_nt : isT "NoneType" "tuple" = false := by decide
theorem isT_ns : isT "NoneType" "str" = false := by decide
theorem same_at : ∀ (n : Nat) (v : Val) (h : Hep), plain n v → M_v_law_same_n (n + 1) [v, v] h = .ok (.bl true) h := by
  intro n
  have int : ∀ n i h, M_v_law_same_n (n + 1) [.int i, .int i] h = .ok (.bl true) h := fun n i h => by
    simp [M_v_law_same_n, B_v_law_same, T_v_law_same_1, isT_it, isT_is, isT_ib, isT_ii, isNon]
  have bl : ∀ n i h, M_v_law_same_n (n + 1) [.bl i, .bl i] h = .ok (.bl true) h := fun n i h => by
    simp [M_v_law_same_n, B_v_law_same, T_v_law_same_1, isT_bt, isT_bs, isT_bb, isNon]
  have str : ∀ n i h, M_v_law_same_n (n + 1) [.str i, .str i] h = .ok (.bl true) h := fun n i h => by
    simp [M_v_law_same_n, B_v_law_same, T_v_law_same_1, isT_st, isT_ss]
  have non : ∀ n h, M_v_law_same_n (n + 1) [.non, .non] h = .ok (.bl true) h := fun n h => by
    simp [M_v_law_same_n, B_v_law_same, T_v_law_same_1, isT_nt, isT_ns, isNon]
  induction n with
  | zero =>
    intro v h p
    cases v with
    | int i => exact int 0 i h
    | bl i => exact bl 0 i h
    | str i => exact str 0 i h
    | non => exact non 0 h
    | tup l => exact p.elim
    | fl l => exact p.elim
    | ref l => exact p.elim
    | exo l => exact p.elim
  | succ n ih =>
    intro v h p
    cases v with
    | int i => exact int _ i h
    | bl i => exact bl _ i h
    | str i => exact str _ i h
    | non => exact non _ h
    | fl l => exact p.elim
    | ref l => exact p.elim
    | exo l => exact p.elim
    | tup l =>
      obtain ⟨z, p⟩ := p
      have loop : ∃ w, forL (gNam 2) (fun _ => true) (L_v_law_same_2 (M_v_law_same_n (n + 1))) (rng 0 l.length) [some (.tup l), some (.tup l), none] h = .nx [some (.tup l), some (.tup l), w] h := by
        refine forL_gen (fun r => ∃ w, r = .nx [some (.tup l), some (.tup l), w] h) _ (fun i η h' => h' = h ∧ ∃ w, η = [some (.tup l), some (.tup l), w]) _ _ ⟨rfl, _, rfl⟩ ?_ ?_
        · rintro i x η h1 hx ⟨rfl, w, rfl⟩
          obtain ⟨hi, rfl⟩ := rng_get hx
          have ea : atI l (0 + (i : Int)) = some l[i] := atI_of (by omega) (by rw [Int.zero_add, Int.toNat_natCast, List.getElem?_eq_getElem hi])
          have e := ih l[i] h1 (p _ (List.getElem_mem hi))
          refine ⟨rfl, _, rfl, ?_⟩
          simp only [List.set_cons_succ, List.set_cons_zero, L_v_law_same_2, sIf_eq, tNot_eq, tTru_eq, eCall_eq, aCons_eq, aNil_eq, eBin_eq, eVar_eq, get_0, get_S, Option.join_some, ofO_some, Res.bind_ok, oIdx_tup, ea, e, truth_bl, Bool.not_true, Res.thn_ok, Bool.false_eq_true, if_false, sNop_eq, SR.turn_nx]
          exact ⟨trivial, _, rfl⟩
        · rintro η h1 ⟨rfl, w, rfl⟩
          exact ⟨rfl, _, rfl⟩
      obtain ⟨w, e⟩ := loop
      have ee : ((l.length : Int) == l.length) = true := by simp
      show fn 2 3 (B_v_law_same (M_v_law_same_n (n + 1))) [.tup l, .tup l] h = _
      simp (disch := omega) only [fn_2, List.replicate, B_v_law_same, sSeq_eq, sIf_eq, tTru_eq, eUn_eq, eVar_eq, get_0, get_S, Option.join_some, ofO_some, Res.bind_ok, oIsi_eq, typ_tup, Option.map_some, isT_tt, truth_bl, Res.thn_ok, if_true, tOr_eq, tNot_eq, Bool.not_true, Bool.false_eq_true, if_false, tVal_eq, eBin_eq, eCallB_eq, aCons_eq, aNil_eq, bLen_tup, oNe_int, ee, sNop_eq, SR.bind_nx, sFor_eq, iArgs_eq, fRng1_s, Int.toNat_natCast, e, sRet_eq, eC_eq, SR.bind_ret, SR.res_ret]
theorem same_ok {v : Val} (p : plain 5 v) (h : Hep) : M_v_law_same [v, v] h = .ok (.bl true) h := same_at 5 v h p
end Law

set_option maxRecDepth 100000
set_option maxHeartbeats 1000000
set_option linter.all false
/-! walks in the graph; the law's own way back -/
namespace Law
open Cd Mir
def R (gs : List (List Int)) (u : Int) : List Int := gs.getD u.toNat []
/-- a walk of so many edges from s -/
def Wk (gs : List (List Int)) (s : Int) : Nat → Int → Prop
  | 0, v => v = s
  | m + 1, v => ∃ u, Wk gs s m u ∧ v ∈ R gs u
def InR (gs : List (List Int)) (v : Int) : Prop := 0 ≤ v ∧ v < gs.length
def Gr (gs : List (List Int)) : Prop := ∀ r ∈ gs, ∀ y ∈ r, 0 ≤ y ∧ y < gs.length
theorem R_mem {gs : List (List Int)} {u : Int} (h : InR gs u) : R gs u ∈ gs := by
  have : u.toNat < gs.length := by have := h.1; have := h.2; omega
  unfold R
  rw [List.getD_eq_getElem?_getD, List.getElem?_eq_getElem this]
  exact List.getElem_mem this
theorem R_in {gs : List (List Int)} (G : Gr gs) {u v : Int} (h : v ∈ R gs u) : InR gs v := by
  by_cases q : u.toNat < gs.length
  · unfold R at h
    rw [List.getD_eq_getElem?_getD, List.getElem?_eq_getElem q] at h
    exact G _ (List.getElem_mem q) _ h
  · unfold R at h
    rw [List.getD_eq_getElem?_getD, List.getElem?_eq_none (by omega)] at h
    cases h
theorem Wk.inR {gs : List (List Int)} (G : Gr gs) {s : Int} (hs : InR gs s) : ∀ {m : Nat} {v : Int}, Wk gs s m v → InR gs v
  | 0, v, h => by rw [show v = s from h]; exact hs
  | m + 1, v, ⟨u, _, h⟩ => R_in G h
/-- one seen anew -/
def add1 (p : List Int × List Int) (y : Int) : List Int × List Int := if y ∈ p.1 then p else (p.1 ++ [y], p.2 ++ [y])
theorem add_mem : ∀ (l : List Int) (S M : List Int) (y : Int), (y ∈ (l.foldl add1 (S, M)).1 ↔ y ∈ S ∨ y ∈ l) ∧ (y ∈ (l.foldl add1 (S, M)).2 ↔ y ∈ M ∨ (y ∈ l ∧ y ∉ S))
  | [], S, M, y => by simp
  | z :: l, S, M, y => by
    rw [List.foldl_cons]
    unfold add1
    by_cases q : z ∈ S
    · rw [if_pos q]
      have ih := add_mem l S M y
      unfold add1 at ih
      rw [ih.1, ih.2]
      constructor
      · constructor
        · rintro (h | h)
          · exact .inl h
          · exact .inr (List.mem_cons_of_mem _ h)
        · rintro (h | h)
          · exact .inl h
          · rcases List.mem_cons.mp h with h | h
            · exact .inl (h ▸ q)
            · exact .inr h
      · constructor
        · rintro (h | ⟨h, n⟩)
          · exact .inl h
          · exact .inr ⟨List.mem_cons_of_mem _ h, n⟩
        · rintro (h | ⟨h, n⟩)
          · exact .inl h
          · rcases List.mem_cons.mp h with h | h
            · exact absurd (h ▸ q) n
            · exact .inr ⟨h, n⟩
    · rw [if_neg q]
      have ih := add_mem l (S ++ [z]) (M ++ [z]) y
      unfold add1 at ih
      rw [ih.1, ih.2]
      simp only [List.mem_append, List.mem_singleton, List.mem_cons]
      by_cases e : y = z
      · subst e; simp [q]
      · simp [e]
theorem add_nodup : ∀ (l : List Int) (S M : List Int), (∀ y ∈ M, y ∈ S) → M.Nodup → (l.foldl add1 (S, M)).2.Nodup
  | [], S, M, _, h => h
  | z :: l, S, M, c, h => by
    rw [List.foldl_cons]
    unfold add1
    by_cases q : z ∈ S
    · rw [if_pos q]; exact add_nodup l S M c h
    · rw [if_neg q]
      refine add_nodup l _ _ (fun y hy => ?_) (List.nodup_append.mpr ⟨h, by simp, fun a ha b hb => ?_⟩)
      · rcases List.mem_append.mp hy with z | z
        · exact List.mem_append_left _ (c y z)
        · exact List.mem_append_right _ z
      · rw [List.mem_singleton.mp hb]
        intro e
        exact q (e ▸ c a ha)
theorem add_len : ∀ (l : List Int) (S M : List Int), (l.foldl add1 (S, M)).1.length ≤ S.length + l.length ∧ (l.foldl add1 (S, M)).2.length ≤ M.length + l.length
  | [], S, M => by simp
  | z :: l, S, M => by
    rw [List.foldl_cons, List.length_cons]
    unfold add1
    by_cases q : z ∈ S
    · rw [if_pos q]
      have := add_len l S M
      unfold add1 at this
      omega
    · rw [if_neg q]
      have := add_len l (S ++ [z]) (M ++ [z])
      unfold add1 at this
      simp only [List.length_append, List.length_singleton] at this
      dsimp only
      omega
/-- all but two places -/
structure Lk2 (a b : Nat) (h h' : Hep) : Prop where
  len : h'.length = h.length
  same : ∀ q, q ≠ a → q ≠ b → h'[q]? = h[q]?
theorem Lk2.refl (a b : Nat) (h : Hep) : Lk2 a b h h := ⟨rfl, fun _ _ _ => rfl⟩
theorem Lk2.trans {a b : Nat} {h h1 h2 : Hep} (x : Lk2 a b h h1) (y : Lk2 a b h1 h2) : Lk2 a b h h2 := ⟨y.len.trans x.len, fun q m n => (y.same q m n).trans (x.same q m n)⟩
theorem i1_loop {Sx Mx : Nat} (ne : Sx ≠ Mx) (v0 v1 v2 v4 v6 : Option Val) : ∀ (row : List Int) (S M : List Int) (h : Hep) (w : Option Val), S.length + row.length ≤ 12000000 → M.length + row.length ≤ 12000000 → h[Sx]? = some (.lst (S.map .int)) → h[Mx]? = some (.lst (M.map .int)) →
    ∃ (h' : Hep) (w' : Option Val), forL (gNam 7) (fun _ => true) L_v_law_way_back_1 (row.map .int) [v0, v1, v2, some (.ref Sx), v4, some (.ref Mx), v6, w] h = .nx [v0, v1, v2, some (.ref Sx), v4, some (.ref Mx), v6, w'] h' ∧
      h'[Sx]? = some (.lst ((row.foldl add1 (S, M)).1.map .int)) ∧ h'[Mx]? = some (.lst ((row.foldl add1 (S, M)).2.map .int)) ∧ Lk2 Sx Mx h h'
  | [], S, M, h, w, _, _, e1, e2 => ⟨h, w, rfl, e1, e2, Lk2.refl _ _ _⟩
  | y :: row, S, M, h, w, z1, z2, e1, e2 => by
    rw [List.length_cons] at z1 z2
    have Sl : Sx < h.length := (List.getElem?_eq_some_iff.mp e1).1
    have Ml : Mx < h.length := (List.getElem?_eq_some_iff.mp e2).1
    have ni := in_refI h y Sx S e1
    rw [List.foldl_cons]
    unfold add1
    by_cases q : y ∈ S
    · have qa : (S.any fun z => z == y) = true := by simpa using q
      rw [qa] at ni
      rw [if_pos q]
      obtain ⟨h', w', e, f1, f2, lk⟩ := i1_loop ne v0 v1 v2 v4 v6 row S M h (some (.int y)) (by omega) (by omega) e1 e2
      refine ⟨h', w', ?_, f1, f2, lk⟩
      have st : L_v_law_way_back_1 [v0, v1, v2, some (.ref Sx), v4, some (.ref Mx), v6, some (.int y)] h = .nx [v0, v1, v2, some (.ref Sx), v4, some (.ref Mx), v6, some (.int y)] h := by
        simp only [L_v_law_way_back_1, sIf_eq, tVal_eq, eBin_eq, eVar_eq, get_0, get_S, Option.join_some, ofO_some, Res.bind_ok, ni, Bool.not_true, Res.thn_ok, Bool.false_eq_true, if_false, sNop_eq]
      rw [List.map_cons, forL_cons, if_pos rfl, gNam_eq]
      simp only [List.set_cons_succ, List.set_cons_zero, st]
      exact e
    · have qa : (S.any fun z => z == y) = false := by
        rw [Bool.eq_false_iff]
        intro z
        exact q (by simpa using z)
      rw [qa] at ni
      rw [if_neg q]
      have t1 := typ_lst e1
      have a1 := append_ok e1 (by rw [List.length_map]; omega) (.int y)
      have e2' : (h.set Sx (.lst (S.map .int ++ [.int y])))[Mx]? = some (.lst (M.map .int)) := by rw [List.getElem?_set_ne ne]; exact e2
      have t2 := typ_lst e2'
      have a2 := append_ok e2' (by rw [List.length_map]; omega) (.int y)
      let h2 := (h.set Sx (.lst (S.map .int ++ [.int y]))).set Mx (.lst (M.map .int ++ [.int y]))
      have f1 : h2[Sx]? = some (.lst ((S ++ [y]).map .int)) := by
        show ((h.set Sx _).set Mx _)[Sx]? = _
        rw [List.getElem?_set_ne (Ne.symm ne), List.getElem?_set_self Sl]; simp
      have f2 : h2[Mx]? = some (.lst ((M ++ [y]).map .int)) := by
        show ((h.set Sx _).set Mx _)[Mx]? = _
        rw [List.getElem?_set_self (by rw [List.length_set]; exact Ml)]; simp
      obtain ⟨h', w', e, g1, g2, lk⟩ := i1_loop ne v0 v1 v2 v4 v6 row (S ++ [y]) (M ++ [y]) h2 (some (.int y)) (by simp; omega) (by simp; omega) f1 f2
      refine ⟨h', w', ?_, g1, g2, Lk2.trans ⟨by show ((h.set Sx _).set Mx _).length = _; simp, fun p m n => by show ((h.set Sx _).set Mx _)[p]? = _; rw [List.getElem?_set_ne (Ne.symm n), List.getElem?_set_ne (Ne.symm m)]⟩ lk⟩
      have st : L_v_law_way_back_1 [v0, v1, v2, some (.ref Sx), v4, some (.ref Mx), v6, some (.int y)] h = .nx [v0, v1, v2, some (.ref Sx), v4, some (.ref Mx), v6, some (.int y)] h2 := by
        simp only [L_v_law_way_back_1, sIf_eq, tVal_eq, eBin_eq, eVar_eq, get_0, get_S, Option.join_some, ofO_some, Res.bind_ok, ni, Bool.not_false, Res.thn_ok, if_true, sSeq_eq, sExpr_eq, eMth_eq, t1, aCons_eq, aNil_eq, a1, SR.bind_nx, t2, a2]
        rfl
      rw [List.map_cons, forL_cons, if_pos rfl, gNam_eq]
      simp only [List.set_cons_succ, List.set_cons_zero, st]
      exact e
def nb (gs : List (List Int)) (l : List Int) : List Int := l.flatMap (R gs)
theorem nb_len {gs : List (List Int)} (rl : ∀ r ∈ gs, r.length ≤ 500) (l : List Int) : (nb gs l).length ≤ 500 * l.length := by
  unfold nb
  induction l with
  | nil => simp
  | cons u l ih =>
    rw [List.flatMap_cons, List.length_append, List.length_cons]
    have : (R gs u).length ≤ 500 := by
      unfold R
      rw [List.getD_eq_getElem?_getD]
      by_cases q : u.toNat < gs.length
      · rw [List.getElem?_eq_getElem q]; exact rl _ (List.getElem_mem q)
      · rw [List.getElem?_eq_none (by omega)]; simp
    omega
theorem row_at {gs : List (List Int)} {u : Int} (h : InR gs u) : atI (gs.map rowV) u = some (.tup ((R gs u).map .int)) := by
  have q : u.toNat < gs.length := by have := h.1; have := h.2; omega
  refine atI_of h.1 ?_
  rw [List.getElem?_map, List.getElem?_eq_getElem q]
  unfold R
  rw [List.getD_eq_getElem?_getD, List.getElem?_eq_getElem q]
  rfl
theorem i2_loop {gs : List (List Int)} (rl : ∀ r ∈ gs, r.length ≤ 500) {A Sx Mx : Nat} (ne : Sx ≠ Mx) (nA : A ≠ Sx) (nB : A ≠ Mx) (all : List Val) (chk : Hep → Bool) (hchk : ∀ h, h[A]? = some (.lst all) → chk h = true) (v1 v2 v4 : Option Val) : ∀ (l : List Int), (∀ u ∈ l, InR gs u) → ∀ (S M : List Int) (h : Hep) (w6 w7 : Option Val), S.length + 500 * l.length ≤ 12000000 → M.length + 500 * l.length ≤ 12000000 → h[Sx]? = some (.lst (S.map .int)) → h[Mx]? = some (.lst (M.map .int)) → h[A]? = some (.lst all) →
    ∃ (h' : Hep) (w6' w7' : Option Val), forL (gNam 6) chk L_v_law_way_back_2 (l.map .int) [some (.tup (gs.map rowV)), v1, v2, some (.ref Sx), v4, some (.ref Mx), w6, w7] h = .nx [some (.tup (gs.map rowV)), v1, v2, some (.ref Sx), v4, some (.ref Mx), w6', w7'] h' ∧
      h'[Sx]? = some (.lst (((nb gs l).foldl add1 (S, M)).1.map .int)) ∧ h'[Mx]? = some (.lst (((nb gs l).foldl add1 (S, M)).2.map .int)) ∧ Lk2 Sx Mx h h'
  | [], _, S, M, h, w6, w7, _, _, e1, e2, eA => ⟨h, w6, w7, by rw [List.map_nil, forL_nil, if_pos (hchk h eA)], e1, e2, Lk2.refl _ _ _⟩
  | u :: l, hl, S, M, h, w6, w7, z1, z2, e1, e2, eA => by
    rw [List.length_cons] at z1 z2
    have hu := hl u List.mem_cons_self
    have rz : (R gs u).length ≤ 500 := rl _ (R_mem hu)
    have al := add_len (R gs u) S M
    obtain ⟨h1, w', e, f1, f2, lk⟩ := i1_loop ne (some (.tup (gs.map rowV))) v1 v2 v4 (some (.int u)) (R gs u) S M h w7 (by omega) (by omega) e1 e2
    obtain ⟨h2, w6', w7', e', g1, g2, lk2⟩ := i2_loop rl ne nA nB all chk hchk v1 v2 v4 l (fun x hx => hl x (List.mem_cons_of_mem _ hx)) _ _ h1 (some (.int u)) w' (by omega) (by omega) f1 f2 (by rw [lk.same A nA nB]; exact eA)
    refine ⟨h2, w6', w7', ?_, ?_, ?_, lk.trans lk2⟩
    · have st : L_v_law_way_back_2 [some (.tup (gs.map rowV)), v1, v2, some (.ref Sx), v4, some (.ref Mx), some (.int u), w7] h = .nx [some (.tup (gs.map rowV)), v1, v2, some (.ref Sx), v4, some (.ref Mx), some (.int u), w'] h1 := by
        simp only [L_v_law_way_back_2, sFor_eq, iVal_eq, eBin_eq, eVar_eq, get_0, get_S, Option.join_some, ofO_some, Res.bind_ok, oIdx_tup, row_at hu, items_tup, Res.thn_ok, e]
      rw [List.map_cons, forL_cons, if_pos (hchk h eA), gNam_eq]
      simp only [List.set_cons_succ, List.set_cons_zero, st]
      exact e'
    · unfold nb; rw [List.flatMap_cons, List.foldl_append]; exact g1
    · unfold nb; rw [List.flatMap_cons, List.foldl_append]; exact g2
/-- what stands ahead of a round -/
structure LB (gs : List (List Int)) (s : Int) (k : Nat) (Rk S : List Int) : Prop where
  r : ∀ y, InR gs y → (y ∈ Rk ↔ Wk gs s (k + 1) y ∧ ∀ j, 1 ≤ j → j ≤ k → ¬ Wk gs s j y)
  sn : ∀ y, InR gs y → (y ∈ S ↔ ∃ j, 1 ≤ j ∧ j ≤ k + 1 ∧ Wk gs s j y)
  no : ∀ j, 1 ≤ j → j ≤ k → ¬ Wk gs s j s
  rr : ∀ y ∈ Rk, InR gs y
  sr : ∀ y ∈ S, InR gs y
  rz : Rk.length ≤ 500
  sz : S.length ≤ 500 + 250000 * k
  ys : k = 0 ∨ ∃ ys : List Int, ys.Nodup ∧ ys.length = k + 1 ∧ ∀ y ∈ ys, y ∈ S
theorem nodup_bound {gs : List (List Int)} {ys : List Int} (nd : ys.Nodup) (h : ∀ y ∈ ys, InR gs y) : ys.length ≤ gs.length := by
  have := List.Nodup.length_le_of_subset (l₂ := (List.range gs.length).map fun (i : Nat) => (i : Int)) nd (fun y hy => by
    have b := h y hy
    exact List.mem_map.mpr ⟨y.toNat, List.mem_range.mpr (by have := b.1; have := b.2; omega), by have := b.1; omega⟩)
  simpa using this
theorem lb_start {gs : List (List Int)} (G : Gr gs) (rl : ∀ r ∈ gs, r.length ≤ 500) {s : Int} (hs : InR gs s) : LB gs s 0 (R gs s) (R gs s) := by
  have one : ∀ y, Wk gs s 1 y ↔ y ∈ R gs s := fun y => ⟨fun ⟨u, hu, h⟩ => (show u = s from hu) ▸ h, fun h => ⟨s, rfl, h⟩⟩
  refine ⟨fun y _ => ?_, fun y _ => ?_, fun j h1 h2 => by omega, fun y h => R_in G h, fun y h => R_in G h, rl _ (R_mem hs), by have := rl _ (R_mem hs); omega, .inl rfl⟩
  · rw [one]; exact ⟨fun h => ⟨h, fun j h1 h2 => by omega⟩, fun h => h.1⟩
  · constructor
    · exact fun h => ⟨1, by omega, by omega, (one y).mpr h⟩
    · rintro ⟨j, h1, h2, h3⟩
      have : j = 1 := by omega
      subst this
      exact (one y).mp h3
theorem nb_mem {gs : List (List Int)} {l : List Int} {y : Int} : y ∈ nb gs l ↔ ∃ u ∈ l, y ∈ R gs u := by
  unfold nb
  rw [List.mem_flatMap]
theorem lb_next {gs : List (List Int)} (G : Gr gs) (gz : gs.length ≤ 40) (rl : ∀ r ∈ gs, r.length ≤ 500) {s : Int} (hs : InR gs s) {k : Nat} {Rk S : List Int} (L : LB gs s k Rk S) (ns : s ∉ Rk) (ne : ((nb gs Rk).foldl add1 (S, [])).2 ≠ []) :
    LB gs s (k + 1) ((nb gs Rk).foldl add1 (S, [])).2 ((nb gs Rk).foldl add1 (S, [])).1 := by
  have am := add_mem (nb gs Rk) S []
  have nd := add_nodup (nb gs Rk) S [] (fun y h => by cases h) List.nodup_nil
  have al := add_len (nb gs Rk) S []
  have nl := nb_len rl Rk
  have lz := L.rz
  have lsz := L.sz
  have new : ∀ y, InR gs y → (y ∈ ((nb gs Rk).foldl add1 (S, [])).2 ↔ Wk gs s (k + 2) y ∧ ∀ j, 1 ≤ j → j ≤ k + 1 → ¬ Wk gs s j y) := fun y hy => by
    rw [(am y).2, nb_mem]
    constructor
    · rintro (h | ⟨⟨u, hu, h⟩, n⟩)
      · cases h
      · exact ⟨⟨u, ((L.r u (L.rr u hu)).mp hu).1, h⟩, fun j h1 h2 w => n ((L.sn y hy).mpr ⟨j, h1, h2, w⟩)⟩
    · rintro ⟨⟨u, hu, h⟩, n⟩
      refine .inr ⟨⟨u, ?_, h⟩, fun z => ?_⟩
      · refine (L.r u (hu.inR G hs)).mpr ⟨hu, fun j h1 h2 w => n (j + 1) (by omega) (by omega) ⟨u, w, h⟩⟩
      · obtain ⟨j, h1, h2, w⟩ := (L.sn y hy).mp z
        exact n j h1 h2 w
  have newR : ∀ y ∈ ((nb gs Rk).foldl add1 (S, [])).2, InR gs y := fun y hy => by
    rcases (am y).2.mp hy with h | ⟨h, _⟩
    · cases h
    · obtain ⟨u, _, h⟩ := nb_mem.mp h; exact R_in G h
  refine ⟨fun y hy => new y hy, fun y hy => ?_, fun j h1 h2 w => ?_, newR, fun y hy => ?_, ?_, ?_, .inr ?_⟩
  · rw [(am y).1]
    constructor
    · rintro (h | h)
      · obtain ⟨j, h1, h2, w⟩ := (L.sn y hy).mp h
        exact ⟨j, h1, by omega, w⟩
      · obtain ⟨u, hu, h⟩ := nb_mem.mp h
        exact ⟨k + 2, by omega, by omega, u, ((L.r u (L.rr u hu)).mp hu).1, h⟩
    · rintro ⟨j, h1, h2, w⟩
      by_cases q : j ≤ k + 1
      · exact .inl ((L.sn y hy).mpr ⟨j, h1, q, w⟩)
      · have : j = k + 2 := by omega
        subst this
        by_cases z : y ∈ S
        · exact .inl z
        · refine .inr (nb_mem.mpr ?_)
          obtain ⟨u, hu, h⟩ := w
          refine ⟨u, (L.r u (hu.inR G hs)).mpr ⟨hu, fun i a b w => z ((L.sn y hy).mpr ⟨i + 1, by omega, by omega, u, w, h⟩)⟩, h⟩
  · by_cases q : j ≤ k
    · exact L.no j h1 q w
    · have : j = k + 1 := by omega
      subst this
      exact ns ((L.r s hs).mpr ⟨w, L.no⟩)
  · rcases (am y).1.mp hy with h | h
    · exact L.sr y h
    · obtain ⟨u, _, h⟩ := nb_mem.mp h; exact R_in G h
  · have := nodup_bound nd newR; omega
  · have : 500 * Rk.length ≤ 250000 := by omega
    omega
  · obtain ⟨y, hy⟩ := List.exists_mem_of_ne_nil _ ne
    have yS : y ∉ S := by
      rcases (am y).2.mp hy with h | ⟨_, h⟩
      · cases h
      · exact h
    have yS' : y ∈ ((nb gs Rk).foldl add1 (S, [])).1 := by
      rcases (am y).2.mp hy with h | ⟨h, _⟩
      · cases h
      · exact (am y).1.mpr (.inr h)
    rcases L.ys with h0 | ⟨ys, n1, n2, n3⟩
    · subst h0
      obtain ⟨u, hu, _⟩ : ∃ u ∈ Rk, y ∈ R gs u := by
        rcases (am y).2.mp hy with h | ⟨h, _⟩
        · cases h
        · exact nb_mem.mp h
      have uS : u ∈ S := (L.sn u (L.rr u hu)).mpr ⟨1, by omega, by omega, ((L.r u (L.rr u hu)).mp hu).1⟩
      refine ⟨[u, y], ?_, rfl, fun z hz => ?_⟩
      · simp only [List.nodup_cons, List.mem_singleton, List.not_mem_nil, not_false_eq_true, List.nodup_nil, and_self, and_true]
        intro e
        exact yS (e ▸ uS)
      · simp only [List.mem_cons, List.not_mem_nil, or_false] at hz
        rcases hz with rfl | rfl
        · exact (am _).1.mpr (.inl uS)
        · exact yS'
    · refine ⟨ys ++ [y], List.nodup_append.mpr ⟨n1, by simp, fun a ha b hb => ?_⟩, by rw [List.length_append, n2]; rfl, fun z hz => ?_⟩
      · rw [List.mem_singleton.mp hb]
        intro e
        exact yS (e ▸ n3 a ha)
      · rcases List.mem_append.mp hz with h | h
        · exact (am z).1.mpr (.inl (n3 z h))
        · rw [List.mem_singleton.mp h]; exact yS'
/-- nothing new: no way back at all -/
theorem lb_end {gs : List (List Int)} (G : Gr gs) {s : Int} (hs : InR gs s) {k : Nat} {Rk S : List Int} (L : LB gs s k Rk S) (ns : s ∉ Rk) (e : ((nb gs Rk).foldl add1 (S, [])).2 = []) : ∀ j, 1 ≤ j → ¬ Wk gs s j s := by
  have am := add_mem (nb gs Rk) S []
  have closed : ∀ j, 1 ≤ j → ∀ y, Wk gs s j y → y ∈ S := by
    intro j
    induction j with
    | zero => intro h; omega
    | succ j ih =>
      intro _ y w
      have hy : InR gs y := w.inR G hs
      by_cases q : j = 0
      · subst q; exact (L.sn y hy).mpr ⟨1, by omega, by omega, w⟩
      · obtain ⟨u, wu, h⟩ := w
        have uS := ih (by omega) u wu
        obtain ⟨i, i1, i2, wi⟩ := (L.sn u (wu.inR G hs)).mp uS
        by_cases z : i ≤ k
        · exact (L.sn y hy).mpr ⟨i + 1, by omega, by omega, u, wi, h⟩
        · have : i = k + 1 := by omega
          subst this
          apply Classical.byContradiction
          intro ny
          have : y ∈ ((nb gs Rk).foldl add1 (S, [])).2 := (am y).2.mpr (.inr ⟨nb_mem.mpr ⟨u, (L.r u (wu.inR G hs)).mpr ⟨wi, fun a a1 a2 wa => ny ((L.sn y hy).mpr ⟨a + 1, by omega, by omega, u, wa, h⟩)⟩, h⟩, ny⟩)
          rw [e] at this
          cases this
  intro j h1 w
  obtain ⟨i, i1, i2, wi⟩ := (L.sn s hs).mp (closed j h1 s w)
  by_cases q : i ≤ k
  · exact L.no i i1 q wi
  · have : i = k + 1 := by omega
    subst this
    exact ns ((L.r s hs).mpr ⟨wi, L.no⟩)
end Law

set_option maxRecDepth 100000
set_option maxHeartbeats 1000000
set_option linter.all false
namespace Law
open Cd Mir
/-- the shortest way back from s has m edges -/
def Short (gs : List (List Int)) (s : Int) (m : Nat) : Prop := 1 ≤ m ∧ Wk gs s m s ∧ ∀ j, 1 ≤ j → j < m → ¬ Wk gs s j s
def NoWay (gs : List (List Int)) (s : Int) : Prop := ∀ j, 1 ≤ j → ¬ Wk gs s j s
theorem in_int {h : Hep} {v : Int} {n : Nat} {row : List Int} (e1 : h[n]? = some (.lst (row.map .int))) : oIn h (.int v) (.ref n) = some (.bl (decide (v ∈ row))) := by
  have e := in_refI h v n row e1
  unfold oNin at e
  unfold oIn
  cases q : isIn h (.int v) (.ref n) with
  | none => rw [q] at e; cases e
  | some k =>
    rw [q] at e
    simp only [Option.map_some, Option.some.injEq, Val.bl.injEq, Bool.not_eq_eq_eq_not, Bool.not_not] at e
    rw [e]
    show some (Val.bl (row.any fun y => y == v)) = _
    congr 2
    by_cases z : v ∈ row
    · rw [decide_eq_true z]; simpa using z
    · rw [decide_eq_false z, Bool.eq_false_iff]
      intro y
      exact z (by simpa using y)
open Classical in
theorem law_way_ok {gs : List (List Int)} (G : Gr gs) (gz : gs.length ≤ 40) (rl : ∀ r ∈ gs, r.length ≤ 500) {s : Int} (hs : InR gs s) (h : Hep) :
    ∃ (m : Nat) (h' : Hep), M_v_law_way_back [.tup (gs.map rowV), .int s] h = .ok (.int m) h' ∧ (Short gs s m ∨ (m = 0 ∧ NoWay gs s)) := by
  let Q : SR → Prop := fun r => ∃ h', (∃ m : Nat, r = .ret (.int m) h' ∧ Short gs s m) ∨ (∃ η, r = .nx η h' ∧ NoWay gs s)
  have h0 : (h ++ [Obj.lst ((R gs s).map .int)] ++ [Obj.lst ((R gs s).map .int)])[h.length]? = some (.lst ((R gs s).map .int)) := by
    rw [List.append_assoc, List.getElem?_append_right (Nat.le_refl _), Nat.sub_self]; rfl
  have loop : Q (forL (gNam 4) (fun _ => true) L_v_law_way_back_4 (rng 0 gs.length) [some (.tup (gs.map rowV)), some (.int s), some (.ref h.length), some (.ref (h ++ [Obj.lst ((R gs s).map .int)]).length), none, none, none, none] (h ++ [Obj.lst ((R gs s).map .int)] ++ [Obj.lst ((R gs s).map .int)])) := by
    refine forL_gen Q _ (fun i η h' => ∃ (A Sx : Nat) (Rk S : List Int) (u4 u5 u6 u7 : Option Val), η = [some (.tup (gs.map rowV)), some (.int s), some (.ref A), some (.ref Sx), u4, u5, u6, u7] ∧ h'[A]? = some (.lst (Rk.map .int)) ∧ h'[Sx]? = some (.lst (S.map .int)) ∧ A ≠ Sx ∧ LB gs s i Rk S) _ _
      ⟨_, _, _, _, _, _, _, _, rfl, h0, get_new _ _, by simp, lb_start G rl hs⟩ ?_ ?_
    · rintro i x η h1 hx ⟨A, Sx, Rk, S, u4, u5, u6, u7, rfl, eA, eS, nAS, L⟩
      obtain ⟨hi, rfl⟩ := rng_get hx
      have io := in_int (v := s) eA
      refine ⟨rfl, _, rfl, ?_⟩
      simp only [List.set_cons_succ, List.set_cons_zero, Int.zero_add]
      by_cases q : s ∈ Rk
      · rw [decide_eq_true q] at io
        have st : L_v_law_way_back_4 [some (.tup (gs.map rowV)), some (.int s), some (.ref A), some (.ref Sx), some (.int i), u5, u6, u7] h1 = .ret (.int ((i + 1 : Nat) : Int)) h1 := by
          simp only [L_v_law_way_back_4, sSeq_eq, sIf_eq, tVal_eq, eBin_eq, eVar_eq, eC_eq, get_0, get_S, Option.join_some, ofO_some, Res.bind_ok, io, Res.thn_ok, if_true, sRet_eq, oAdd_int, SR.bind_ret]
          rfl
        rw [st]
        obtain ⟨w, mn⟩ := (L.r s hs).mp q
        exact ⟨h1, .inl ⟨i + 1, rfl, by omega, w, fun j a b => mn j a (by omega)⟩⟩
      · rw [decide_eq_false q] at io
        have Al : A < h1.length := (List.getElem?_eq_some_iff.mp eA).1
        have Sl : Sx < h1.length := (List.getElem?_eq_some_iff.mp eS).1
        have eA2 : (h1 ++ [Obj.lst []])[A]? = some (.lst (Rk.map .int)) := by rw [List.getElem?_append_left Al]; exact eA
        have eS2 : (h1 ++ [Obj.lst []])[Sx]? = some (.lst (S.map .int)) := by rw [List.getElem?_append_left Sl]; exact eS
        have rz := L.rz
        have sz := L.sz
        have al := add_len (nb gs Rk) S []
        have nl := nb_len rl Rk
        obtain ⟨h2, u6', u7', e2, f1, f2, lk⟩ := i2_loop rl (A := A) (Sx := Sx) (Mx := h1.length) (by omega) nAS (by omega) (Rk.map .int) (fun h' => decide (isLst A (Rk.map .int) h')) (fun h' e => decide_eq_true e) (some (.int s)) (some (.ref A)) (some (.int i)) Rk L.rr S [] (h1 ++ [Obj.lst []]) u6 u7 (by omega) (by simp; omega) eS2 (get_new _ _) eA2
        have it : items (h1 ++ [Obj.lst []]) (.ref A) = some (Rk.map .int, fun h' => decide (isLst A (Rk.map .int) h')) := by
          show (match (h1 ++ [Obj.lst []])[A]? with | some (.lst l) => some (l, fun h' => decide (isLst A l h')) | _ => none) = _
          rw [eA2]
        have le := bLen_ref f2
        rw [List.length_map] at le
        have pre : ∀ r, (if (((((nb gs Rk).foldl add1 (S, [])).2.length : Int) == 0) = true) then SR.brk [some (.tup (gs.map rowV)), some (.int s), some (.ref h1.length), some (.ref Sx), some (.int i), some (.ref h1.length), u6', u7'] h2 else SR.nx [some (.tup (gs.map rowV)), some (.int s), some (.ref h1.length), some (.ref Sx), some (.int i), some (.ref h1.length), u6', u7'] h2) = r → L_v_law_way_back_4 [some (.tup (gs.map rowV)), some (.int s), some (.ref A), some (.ref Sx), some (.int i), u5, u6, u7] h1 = r := by
          rintro r rfl
          simp only [L_v_law_way_back_4, T_v_law_way_back_3, sSeq_eq, sIf_eq, tVal_eq, eBin_eq, eVar_eq, eC_eq, get_0, get_S, Option.join_some, ofO_some, Res.bind_ok, io, Res.thn_ok, Bool.false_eq_true, if_false, sNop_eq, SR.bind_nx, sSet_eq, eLst_eq, aNil_eq, List.length_nil, szOk_iff, Nat.zero_le, if_true, List.set_cons_succ, List.set_cons_zero, sFor_eq, iVal_eq, it, e2, eCallB_eq, aCons_eq, le, oEq_int, sBrk_eq]
        by_cases z : ((nb gs Rk).foldl add1 (S, [])).2 = []
        · rw [pre _ (if_pos (by rw [z]; rfl))]
          exact ⟨h2, .inr ⟨_, rfl, lb_end G hs L q z⟩⟩
        · rw [pre _ (if_neg (by
            intro y
            have : (((nb gs Rk).foldl add1 (S, [])).2.length : Int) = 0 := by simpa using y
            exact z (List.eq_nil_of_length_eq_zero (by omega))))]
          exact ⟨h1.length, Sx, _, _, _, _, _, _, rfl, f2, f1, by omega, lb_next G gz rl hs L q z⟩
    · rintro η h1 ⟨A, Sx, Rk, S, u4, u5, u6, u7, rfl, eA, eS, nAS, L⟩
      rw [rng_length] at L
      exfalso
      rcases L.ys with z | ⟨ys, n1, n2, n3⟩
      · have := hs.1; have := hs.2; omega
      · have := nodup_bound n1 (fun y hy => L.sr y (n3 y hy))
        omega
  have b1 : bList [.tup ((R gs s).map .int)] h = some (.ref h.length, h ++ [.lst ((R gs s).map .int)]) := rfl
  have b2 : bList [.ref h.length] (h ++ [.lst ((R gs s).map .int)]) = some (.ref (h ++ [Obj.lst ((R gs s).map .int)]).length, h ++ [.lst ((R gs s).map .int)] ++ [.lst ((R gs s).map .int)]) := by
    show (match (h ++ [Obj.lst ((R gs s).map .int)])[h.length]? with | some (.lst l) => some (Val.ref (h ++ [Obj.lst ((R gs s).map .int)]).length, h ++ [Obj.lst ((R gs s).map .int)] ++ [Obj.lst l]) | _ => none) = _
    rw [get_new]
  have start : ∀ r, (forL (gNam 4) (fun _ => true) L_v_law_way_back_4 (rng 0 gs.length) [some (.tup (gs.map rowV)), some (.int s), some (.ref h.length), some (.ref (h ++ [Obj.lst ((R gs s).map .int)]).length), none, none, none, none] (h ++ [Obj.lst ((R gs s).map .int)] ++ [Obj.lst ((R gs s).map .int)])) = r → M_v_law_way_back [.tup (gs.map rowV), .int s] h = (r.bind fun η h => SR.ret (.int 0) h).res := by
    rintro r rfl
    simp (disch := omega) only [M_v_law_way_back, B_v_law_way_back, fn_2, List.replicate, sSeq_eq, sSet_eq, eCallB_eq, aCons_eq, aNil_eq, eBin_eq, eVar_eq, get_0, get_S, Option.join_some, ofO_some, Res.bind_ok, oIdx_tup, row_at hs, b1, Res.thn_ok, List.set_cons_succ, List.set_cons_zero, SR.bind_nx, b2, sFor_eq, iArgs_eq, bLen_tup, List.length_map, fRng1_s, Int.toNat_natCast, sRet_eq, eC_eq]
  obtain ⟨h', ⟨m, e, S⟩ | ⟨η, e, N⟩⟩ := loop
  · exact ⟨m, h', by rw [start _ e]; rfl, .inl S⟩
  · exact ⟨0, h', by rw [start _ e]; rfl, .inr ⟨rfl, N⟩⟩
end Law

set_option maxRecDepth 100000
set_option maxHeartbeats 1000000
set_option linter.all false
/-! way_back: the search by layers -/
namespace Law
open Cd Mir
def gI : List (Int × Int) → Int → Option Int
  | [], _ => none
  | p :: l, k => if p.1 = k then some p.2 else gI l k
def dV (dd : List (Int × Int)) : List (Val × Val) := dd.map fun p => (.int p.1, .int p.2)
theorem dGet_int : ∀ (dd : List (Int × Int)) (k : Int), dGet (dV dd) (.int k) = (gI dd k).map .int
  | [], k => rfl
  | p :: dd, k => by
    have ih := dGet_int dd k
    unfold dV at ih ⊢
    rw [List.map_cons, dGet_cons, keyEq_int, gI]
    by_cases q : p.1 = k
    · rw [if_pos (by simpa using q), if_pos q]; rfl
    · rw [if_neg (by simpa using q), if_neg q, ih]
theorem dHas_int (dd : List (Int × Int)) (k : Int) : dHas (dV dd) (.int k) = (gI dd k).isSome := by
  unfold dHas
  rw [dGet_int]
  cases gI dd k <;> rfl
theorem dPut_int {dd : List (Int × Int)} {k : Int} (h : gI dd k = none) (v : Int) : dPut (dV dd) (.int k) (.int v) = dV (dd ++ [(k, v)]) := by
  unfold dPut
  rw [dHas_int, h]
  unfold dV
  simp
theorem gI_app {dd : List (Int × Int)} {k v x : Int} (h : gI dd k = none) : gI (dd ++ [(k, v)]) x = if x = k then some v else gI dd x := by
  induction dd with
  | nil =>
    show (if k = x then some v else none) = _
    by_cases q : x = k
    · rw [if_pos q, if_pos q.symm]
    · rw [if_neg q, if_neg (fun z => q z.symm)]; rfl
  | cons p dd ih =>
    rw [gI] at h
    by_cases q : p.1 = k
    · rw [if_pos q] at h; cases h
    · rw [if_neg q] at h
      rw [List.cons_append, gI, gI, ih h]
      by_cases r : p.1 = x
      · rw [if_pos r, if_pos r, if_neg (fun z => q (r.trans z))]
      · rw [if_neg r, if_neg r]
/-- what stands in the search -/
structure BI (gs : List (List Int)) (s : Int) (q : List Int) (a : Nat) (dd : List (Int × Int)) (d : Int → Nat) : Prop where
  nd : q.Nodup
  q0 : q[0]? = some s
  qr : ∀ y ∈ q, InR gs y
  ds : d s = 0
  dk : ∀ y ∈ q, y ≠ s → ∃ p ∈ q, gI dd y = some p ∧ y ∈ R gs p ∧ d y = d p + 1
  kd : ∀ y p, gI dd y = some p → y ∈ q ∧ y ≠ s
  dz : dd.length + 1 = q.length
  wk : ∀ y ∈ q, Wk gs s (d y) y
  so : ∀ (i j : Nat) (y z : Int), i ≤ j → q[i]? = some y → q[j]? = some z → d y ≤ d z
  la : ∀ v, q[a]? = some v → ∀ z ∈ q, d z ≤ d v + 1
  pr : ∀ i : Nat, i < a → ∀ u : Int, q[i]? = some u → ∀ y ∈ R gs u, y ≠ s ∧ y ∈ q ∧ d y ≤ d u + 1
  al : a ≤ q.length
  dm : ∀ y ∈ q, d y < q.length
theorem bi_start {gs : List (List Int)} {s : Int} (hs : InR gs s) : BI gs s [s] 0 [] (fun _ => 0) := by
  refine ⟨by simp, rfl, fun y h => (List.mem_singleton.mp h) ▸ hs, rfl, fun y h n => absurd (List.mem_singleton.mp h) n, fun y p h => (by cases h), rfl, fun y h => List.mem_singleton.mp h, fun _ _ _ _ _ _ _ => Nat.le_refl _, fun _ _ _ _ => Nat.zero_le _, fun i h => absurd h (Nat.not_lt_zero i), Nat.zero_le _, fun y h => Nat.zero_lt_one⟩
/-- a new one -/
theorem bi_add {gs : List (List Int)} {s : Int} {q : List Int} {a : Nat} {dd : List (Int × Int)} {d : Int → Nat} (I : BI gs s q a dd d) {v y : Int} (hv : q[a]? = some v) (hy : y ∈ R gs v) (hr : InR gs y) (ys : y ≠ s) (n : gI dd y = none) :
    BI gs s (q ++ [y]) a (dd ++ [(y, v)]) (fun x => if x = y then d v + 1 else d x) := by
  have yq : y ∉ q := fun z => by
    obtain ⟨p, _, e, _⟩ := I.dk y z ys
    rw [n] at e; cases e
  have vq : v ∈ q := List.mem_iff_getElem?.mpr ⟨a, hv⟩
  have vy : v ≠ y := fun z => yq (z ▸ vq)
  have dn : ∀ x ∈ q, (if x = y then d v + 1 else d x) = d x := fun x hx => if_neg (fun z : x = y => yq (z ▸ hx))
  have al : a < q.length := (List.getElem?_eq_some_iff.mp hv).1
  have get : ∀ {i : Nat} {x : Int}, (q ++ [y])[i]? = some x → (i < q.length ∧ q[i]? = some x) ∨ (i = q.length ∧ x = y) := fun {i x} e => by
    by_cases z : i < q.length
    · rw [List.getElem?_append_left z] at e; exact .inl ⟨z, e⟩
    · have l := (List.getElem?_eq_some_iff.mp e).1
      rw [List.length_append] at l
      simp at l
      have : i = q.length := by omega
      subst this
      rw [get_new] at e
      cases e
      exact .inr ⟨rfl, rfl⟩
  refine ⟨List.nodup_append.mpr ⟨I.nd, by simp, fun x hx z hz => ?_⟩, by rw [List.getElem?_append_left (by omega)]; exact I.q0, fun x hx => ?_, by rw [if_neg (Ne.symm ys)]; exact I.ds, fun x hx xs => ?_, fun x p e => ?_, by simp [I.dz], fun x hx => ?_, fun i j x z ij hi hj => ?_, fun w hw z hz => ?_, fun i hi u hu x hx => ?_, by rw [List.length_append]; omega, fun x hx => ?_⟩
  · rw [List.mem_singleton.mp hz]
    intro e
    exact yq (e ▸ hx)
  · rcases List.mem_append.mp hx with z | z
    · exact I.qr x z
    · rw [List.mem_singleton.mp z]; exact hr
  · by_cases e : x = y
    · subst e
      exact ⟨v, List.mem_append_left _ vq, by rw [gI_app n, if_pos rfl], hy, by rw [if_pos rfl, if_neg vy]⟩
    · have xq : x ∈ q := by
        rcases List.mem_append.mp hx with z | z
        · exact z
        · exact absurd (List.mem_singleton.mp z) e
      obtain ⟨p, hp, e1, e2, e3⟩ := I.dk x xq xs
      exact ⟨p, List.mem_append_left _ hp, by rw [gI_app n, if_neg e]; exact e1, e2, by rw [dn x xq, dn p hp]; exact e3⟩
  · rw [gI_app n] at e
    by_cases z : x = y
    · exact ⟨List.mem_append_right _ (List.mem_singleton.mpr z), z ▸ ys⟩
    · rw [if_neg z] at e
      obtain ⟨h1, h2⟩ := I.kd x p e
      exact ⟨List.mem_append_left _ h1, h2⟩
  · rcases List.mem_append.mp hx with z | z
    · show Wk gs s (if x = y then d v + 1 else d x) x
      rw [dn x z]; exact I.wk x z
    · rw [List.mem_singleton.mp z]
      show Wk gs s (if y = y then d v + 1 else d y) y
      rw [if_pos rfl]
      exact ⟨v, I.wk v vq, hy⟩
  · show (if x = y then d v + 1 else d x) ≤ (if z = y then d v + 1 else d z)
    rcases get hi with ⟨i1, i2⟩ | ⟨i1, i2⟩
    · have xq := List.mem_iff_getElem?.mpr ⟨i, i2⟩
      rw [dn x xq]
      rcases get hj with ⟨j1, j2⟩ | ⟨j1, j2⟩
      · rw [dn z (List.mem_iff_getElem?.mpr ⟨j, j2⟩)]; exact I.so i j x z ij i2 j2
      · rw [if_pos j2]; exact I.la v hv x xq
    · rcases get hj with ⟨j1, j2⟩ | ⟨j1, j2⟩
      · omega
      · rw [i2, j2]; exact Nat.le_refl _
  · rw [List.getElem?_append_left al, hv] at hw
    cases hw
    show (if z = y then d v + 1 else d z) ≤ (if v = y then d v + 1 else d v) + 1
    rw [if_neg vy]
    rcases List.mem_append.mp hz with m | m
    · rw [dn z m]; exact I.la v hv z m
    · rw [if_pos (List.mem_singleton.mp m)]; exact Nat.le_refl _
  · rw [List.getElem?_append_left (by omega)] at hu
    obtain ⟨p1, p2, p3⟩ := I.pr i hi u hu x hx
    refine ⟨p1, List.mem_append_left _ p2, ?_⟩
    show (if x = y then d v + 1 else d x) ≤ (if u = y then d v + 1 else d u) + 1
    rw [dn x p2, dn u (List.mem_iff_getElem?.mpr ⟨i, hu⟩)]; exact p3
  · have dv := I.dm v vq
    show (if x = y then d v + 1 else d x) < (q ++ [y]).length
    rw [List.length_append]
    show _ < q.length + 1
    rcases List.mem_append.mp hx with z | z
    · rw [dn x z]; have := I.dm x z; omega
    · rw [if_pos (List.mem_singleton.mp z)]; omega
/-- the row is done -/
theorem bi_row {gs : List (List Int)} {s : Int} {q : List Int} {a : Nat} {dd : List (Int × Int)} {d : Int → Nat} (I : BI gs s q a dd d) {v : Int} (hv : q[a]? = some v) (p : ∀ y ∈ R gs v, y ≠ s ∧ y ∈ q ∧ d y ≤ d v + 1) : BI gs s q (a + 1) dd d := by
  have al : a < q.length := (List.getElem?_eq_some_iff.mp hv).1
  refine ⟨I.nd, I.q0, I.qr, I.ds, I.dk, I.kd, I.dz, I.wk, I.so, fun w hw z hz => ?_, fun i hi u hu => ?_, by omega, I.dm⟩
  · have h1 := I.so a (a + 1) v w (by omega) hv hw
    have h2 := I.la v hv z hz
    omega
  · by_cases e : i = a
    · subst e
      rw [hv] at hu; cases hu
      exact p
    · exact I.pr i (by omega) u hu
/-- what lies nearer than the one in hand is done -/
theorem bi_near {gs : List (List Int)} {s : Int} {q : List Int} {a : Nat} {dd : List (Int × Int)} {d : Int → Nat} (I : BI gs s q a dd d) {v : Int} (hv : q[a]? = some v) : ∀ (j : Nat) (u : Int), j < d v → Wk gs s j u → ∃ i, i < a ∧ q[i]? = some u ∧ d u ≤ j
  | 0, u, hj, w => by
    have e : u = s := w
    subst e
    refine ⟨0, ?_, I.q0, by rw [I.ds]; exact Nat.le_refl _⟩
    apply Classical.byContradiction
    intro z
    have : a = 0 := by omega
    subst this
    rw [I.q0] at hv; cases hv
    rw [I.ds] at hj
    omega
  | j + 1, u, hj, ⟨u', w, h⟩ => by
    obtain ⟨i, i1, i2, i3⟩ := bi_near I hv j u' (by omega) w
    obtain ⟨_, uq, ud⟩ := I.pr i i1 u' i2 u h
    obtain ⟨k, hk⟩ := List.mem_iff_getElem?.mp uq
    refine ⟨k, ?_, hk, by omega⟩
    apply Classical.byContradiction
    intro z
    have := I.so a k v u (by omega) hv hk
    omega
theorem bi_short {gs : List (List Int)} {s : Int} {q : List Int} {a : Nat} {dd : List (Int × Int)} {d : Int → Nat} (I : BI gs s q a dd d) {v : Int} (hv : q[a]? = some v) (h : s ∈ R gs v) : Short gs s (d v + 1) := by
  refine ⟨by omega, ⟨v, I.wk v (List.mem_iff_getElem?.mpr ⟨a, hv⟩), h⟩, fun j h1 h2 w => ?_⟩
  cases j with
  | zero => omega
  | succ j =>
    obtain ⟨u, wu, hu⟩ := w
    obtain ⟨i, i1, i2, _⟩ := bi_near I hv j u (by omega) wu
    exact (I.pr i i1 u i2 s hu).1 rfl
theorem bi_none {gs : List (List Int)} {s : Int} {q : List Int} {dd : List (Int × Int)} {d : Int → Nat} (I : BI gs s q q.length dd d) : NoWay gs s := by
  have all : ∀ j u, Wk gs s j u → u ∈ q := by
    intro j
    induction j with
    | zero => intro u w; rw [show u = s from w]; exact List.mem_iff_getElem?.mpr ⟨0, I.q0⟩
    | succ j ih =>
      rintro u ⟨u', w, h⟩
      obtain ⟨i, hi⟩ := List.mem_iff_getElem?.mp (ih u' w)
      exact (I.pr i (List.getElem?_eq_some_iff.mp hi).1 u' hi u h).2.1
  intro j h1 w
  cases j with
  | zero => omega
  | succ j =>
    obtain ⟨u, wu, hu⟩ := w
    obtain ⟨i, hi⟩ := List.mem_iff_getElem?.mp (all j u wu)
    exact (I.pr i (List.getElem?_eq_some_iff.mp hi).1 u hi s hu).1 rfl
/-- a way told backwards -/
def RPath (gs : List (List Int)) : List Int → Prop
  | [] => True
  | [_] => True
  | a :: b :: l => a ∈ R gs b ∧ RPath gs (b :: l)
theorem RPath.at {gs : List (List Int)} : ∀ {l : List Int} {i : Nat} {a b : Int}, RPath gs l → l[i]? = some a → l[i + 1]? = some b → a ∈ R gs b
  | [], i, a, b, _, h, _ => by simp at h
  | [x], i, a, b, _, _, h => by simp at h
  | x :: y :: l, 0, a, b, p, h1, h2 => by
    simp at h1 h2
    subst h1 h2
    exact p.1
  | x :: y :: l, i + 1, a, b, p, h1, h2 => RPath.at (l := y :: l) (i := i) p.2 (by simpa using h1) (by simpa using h2)
structure GoodC (gs : List (List Int)) (s : Int) (r : List Int) : Prop where
  sh : Short gs s r.length
  hd : r[0]? = some s
  ed : ∀ (i : Nat) (a b : Int), r[i]? = some a → r[(i + 1) % r.length]? = some b → b ∈ R gs a
  inr : ∀ y ∈ r, InR gs y
  ln : r.length ≤ 1000
theorem good_rev {gs : List (List Int)} {s v : Int} {p : List Int} (sh : Short gs s p.length) (h0 : p[0]? = some v) (hl : p[p.length - 1]? = some s) (rp : RPath gs p) (hv : s ∈ R gs v) (inr : ∀ y ∈ p, InR gs y) (ln : p.length ≤ 1000) : GoodC gs s p.reverse := by
  have pl : 0 < p.length := (List.getElem?_eq_some_iff.mp h0).1
  have rv : ∀ i, i < p.length → p.reverse[i]? = p[p.length - 1 - i]? := fun i hi => List.getElem?_reverse hi
  refine ⟨by rw [List.length_reverse]; exact sh, by rw [rv 0 pl]; exact hl, fun i a b hi hj => ?_, fun y hy => inr y (List.mem_reverse.mp hy), by rw [List.length_reverse]; exact ln⟩
  rw [List.length_reverse] at hj
  have il : i < p.length := by have := (List.getElem?_eq_some_iff.mp hi).1; rwa [List.length_reverse] at this
  rw [rv i il] at hi
  by_cases e : i + 1 = p.length
  · rw [e, Nat.mod_self, rv 0 pl, Nat.sub_zero, hl] at hj
    cases hj
    rw [show p.length - 1 - i = 0 by omega, h0] at hi
    cases hi
    exact hv
  · rw [Nat.mod_eq_of_lt (by omega), rv (i + 1) (by omega)] at hj
    exact rp.at (i := p.length - 1 - (i + 1)) hj (by rw [show p.length - 1 - (i + 1) + 1 = p.length - 1 - i by omega]; exact hi)
end Law

set_option maxRecDepth 100000
set_option maxHeartbeats 1000000
set_option linter.all false
namespace Law
open Cd Mir
theorem last_at {α : Type} (l : List α) (x : α) : atI (l ++ [x]) (-1) = some x := by
  unfold atI ixN
  rw [if_neg (by decide), if_pos (by simp; omega)]
  show (l ++ [x])[(-1 + ((l ++ [x]).length : Int)).toNat]? = _
  rw [show (-1 + ((l ++ [x]).length : Int)).toNat = l.length by simp; omega, get_new]
section
variable {gs : List (List Int)} {s : Int} {B Qp : Nat}
theorem path_loop {q : List Int} {a : Nat} {dd : List (Int × Int)} {d : Int → Nat} (I : BI gs s q a dd d) {Wp : Nat} (nB : B ≠ Wp) (v0 v3 v4 v5 v6 : Option Val) : ∀ (k : Nat) (x : Int) (pre : List Int) (h : Hep), x ∈ q → d x = k → pre.length + k + 1 ≤ 100000 → h[B]? = some (.dct (dV dd)) → h[Wp]? = some (.lst ((pre ++ [x]).map .int)) →
    ∃ (p : List Int) (h' : Hep), sWhile (tVal (eBin oNe (eBin oIdx (eVar 7) (eUn oNeg (eC (.int 1)))) (eVar 1))) L_way_back_2 [v0, some (.int s), some (.ref B), v3, v4, v5, v6, some (.ref Wp)] h = .nx [v0, some (.int s), some (.ref B), v3, v4, v5, v6, some (.ref Wp)] h' ∧
      h'[Wp]? = some (.lst ((pre ++ p).map .int)) ∧ p[0]? = some x ∧ p.length = k + 1 ∧ p[k]? = some s ∧ RPath gs p ∧ ∀ y ∈ p, y ∈ q := by
  intro k
  induction k with
  | zero =>
    intro x pre h hx hd hz eB eW
    have xs : x = s := Classical.byContradiction fun z => by
      obtain ⟨p, _, _, _, e⟩ := I.dk x hx z
      omega
    subst xs
    have ix : oIdx h (.ref Wp) (.int (-1)) = some (.int x) := by rw [oIdx_ref eW, List.map_append]; exact last_at _ _
    refine ⟨[x], h, ?_, eW, rfl, rfl, rfl, trivial, fun y hy => by rw [List.mem_singleton.mp hy]; exact hx⟩
    have ee : (x == x) = true := by simp
    rw [sWhile_eq]
    simp only [tVal_eq, eBin_eq, eUn_eq, eVar_eq, eC_eq, get_0, get_S, Option.join_some, ofO_some, Res.bind_ok, oNeg_int, ix, oNe_int, ee, Bool.not_true, Res.thn_ok, Bool.false_eq_true, if_false]
  | succ k ih =>
    intro x pre h hx hd hz eB eW
    have xs : x ≠ s := fun z => by rw [z, I.ds] at hd; omega
    obtain ⟨p', hp, e1, e2, e3⟩ := I.dk x hx xs
    have Wl : Wp < h.length := (List.getElem?_eq_some_iff.mp eW).1
    have ix : ∀ h : Hep, h[Wp]? = some (.lst ((pre ++ [x]).map .int)) → oIdx h (.ref Wp) (.int (-1)) = some (.int x) := fun h eW => by rw [oIdx_ref eW, List.map_append]; exact last_at _ _
    have di : oDIdx h (.ref B) (.int x) = some (.int p') := by rw [oDIdx_ref eB rfl, dGet_int, e1]; rfl
    have ty := typ_lst eW
    have ap := append_ok eW (by simp; omega) (.int p')
    let h1 := h.set Wp (.lst ((pre ++ [x]).map .int ++ [.int p']))
    have eB1 : h1[B]? = some (.dct (dV dd)) := by show (h.set Wp _)[B]? = _; rw [List.getElem?_set_ne (Ne.symm nB)]; exact eB
    have eW1 : h1[Wp]? = some (.lst (((pre ++ [x]) ++ [p']).map .int)) := by show (h.set Wp _)[Wp]? = _; rw [List.getElem?_set_self Wl]; simp
    obtain ⟨p, h', e, f1, f2, f3, f4, f5, f6⟩ := ih p' (pre ++ [x]) h1 hp (by omega) (by simp; omega) eB1 eW1
    refine ⟨x :: p, h', ?_, by rw [f1]; simp, rfl, by rw [List.length_cons, f3], f4, ?_, fun y hy => ?_⟩
    · have ne : (!(x == s)) = true := by simp [xs]
      rw [sWhile_eq]
      simp only [tVal_eq, eBin_eq, eUn_eq, eVar_eq, eC_eq, get_0, get_S, Option.join_some, ofO_some, Res.bind_ok, oNeg_int, ix h eW, oNe_int, ne, Res.thn_ok, if_true, L_way_back_2, sExpr_eq, eMth_eq, ty, aCons_eq, aNil_eq, di, ap]
      exact e
    · cases p with
      | nil => simp at f2
      | cons b l =>
        simp at f2
        subst f2
        exact ⟨e2, f5⟩
    · rcases List.mem_cons.mp hy with z | z
      · rw [z]; exact hx
      · exact f6 y z
/-- how a row ends -/
def RowQ (gs : List (List Int)) (s : Int) (B Qp : Nat) (g a' : Option Val) (v : Int) (a : Nat) (r : SR) : Prop :=
  (∃ p h', r = .ret (.tup (p.map .int)) h' ∧ GoodC gs s p) ∨
    ∃ q dd d w6 w7 h', r = .nx [g, some (.int s), some (.ref B), some (.ref Qp), a', some (.int v), w6, w7] h' ∧ BI gs s q (a + 1) dd d ∧ h'[B]? = some (.dct (dV dd)) ∧ h'[Qp]? = some (.lst (q.map .int))
theorem row_loop (G : Gr gs) (gz : gs.length ≤ 40) (nBQ : B ≠ Qp) (g a' : Option Val) (v : Int) (a : Nat) : ∀ (rest done : List Int), R gs v = done ++ rest → ∀ (q : List Int) (dd : List (Int × Int)) (d : Int → Nat) (h : Hep) (w6 w7 : Option Val), BI gs s q a dd d → q[a]? = some v → (∀ y ∈ done, y ≠ s ∧ y ∈ q ∧ d y ≤ d v + 1) → h[B]? = some (.dct (dV dd)) → h[Qp]? = some (.lst (q.map .int)) →
    RowQ gs s B Qp g a' v a (forL (gNam 6) (fun _ => true) L_way_back_3 (rest.map .int) [g, some (.int s), some (.ref B), some (.ref Qp), a', some (.int v), w6, w7] h)
  | [], done, hr, q, dd, d, h, w6, w7, I, hv, hd, eB, eQ => by
    refine .inr ⟨q, dd, d, w6, w7, h, rfl, bi_row I hv ?_, eB, eQ⟩
    rw [hr, List.append_nil]
    exact hd
  | y :: rest, done, hr, q, dd, d, h, w6, w7, I, hv, hd, eB, eQ => by
    have Bl : B < h.length := (List.getElem?_eq_some_iff.mp eB).1
    have Ql : Qp < h.length := (List.getElem?_eq_some_iff.mp eQ).1
    have ql := nodup_bound I.nd I.qr
    have yR : y ∈ R gs v := by rw [hr]; exact List.mem_append_right _ List.mem_cons_self
    have yr : InR gs y := R_in G yR
    have vq : v ∈ q := List.mem_iff_getElem?.mpr ⟨a, hv⟩
    have hr2 : R gs v = (done ++ [y]) ++ rest := by rw [hr]; simp
    rw [List.map_cons, forL_cons, if_pos rfl, gNam_eq]
    simp only [List.set_cons_succ, List.set_cons_zero]
    by_cases ys : y = s
    · subst ys
      have eB1 : (h ++ [Obj.lst [.int v]])[B]? = some (.dct (dV dd)) := by rw [List.getElem?_append_left Bl]; exact eB
      have dq : d v ≤ 1000 := by have := I.dm v vq; omega
      obtain ⟨p, h', e, f1, f2, f3, f4, f5, f6⟩ := path_loop (B := B) I (Wp := h.length) (by omega) g (some (.ref Qp)) a' (some (.int v)) (some (.int y)) (d v) v [] (h ++ [.lst [.int v]]) vq rfl (by simp; omega) eB1 (get_new _ _)
      rw [List.nil_append] at f1
      have ee : (y == y) = true := by simp
      have it := itsL_ref f1
      have tu := tuple_ok (get_new h' (.lst (p.map Val.int).reverse))
      refine .inl ⟨p.reverse, h' ++ [.lst (p.map Val.int).reverse], ?_, good_rev (by rw [f3]; exact bi_short I hv yR) f2 (by rw [f3]; exact f4) f5 yR (fun z hz => I.qr z (f6 z hz)) (by have := I.dm v vq; omega)⟩
      simp only [L_way_back_3, sSeq_eq, sIf_eq, tVal_eq, eBin_eq, eVar_eq, get_0, get_S, Option.join_some, ofO_some, Res.bind_ok, oEq_int, ee, Res.thn_ok, if_true, sSet_eq, eLst_eq, aCons_eq, aNil_eq, List.length_cons, List.length_nil, szOk_iff, show (0 + 1 ≤ 16777216) = True by decide, List.set_cons_succ, List.set_cons_zero, SR.bind_nx]
      rw [e]
      simp only [SR.bind_nx, sRet_eq, eCallB_eq, aCons_eq, aNil_eq, eRev_eq, eVar_eq, get_0, get_S, Option.join_some, ofO_some, Res.bind_ok, it, tu, Res.thn_ok, SR.bind_ret, List.map_reverse]
    · have ne : (y == s) = false := by simp [ys]
      have ni := oDNin_ref (k := .int y) eB rfl
      rw [dHas_int] at ni
      cases eg : gI dd y with
      | some p =>
        rw [eg] at ni
        have st : L_way_back_3 [g, some (.int s), some (.ref B), some (.ref Qp), a', some (.int v), some (.int y), w7] h = .nx [g, some (.int s), some (.ref B), some (.ref Qp), a', some (.int v), some (.int y), w7] h := by
          simp only [L_way_back_3, sSeq_eq, sIf_eq, tVal_eq, eBin_eq, eVar_eq, get_0, get_S, Option.join_some, ofO_some, Res.bind_ok, oEq_int, ne, Res.thn_ok, Bool.false_eq_true, if_false, sNop_eq, SR.bind_nx, ni, Option.isSome_some, Bool.not_true]
        rw [st]
        exact row_loop G gz nBQ g a' v a rest (done ++ [y]) hr2 q dd d h (some (.int y)) w7 I hv (fun z hz => by
          rcases List.mem_append.mp hz with m | m
          · exact hd z m
          · rw [List.mem_singleton.mp m]
            exact ⟨ys, (I.kd y p eg).1, I.la v hv y (I.kd y p eg).1⟩) eB eQ
      | none =>
        rw [eg] at ni
        have I2 := bi_add I hv yR yr ys eg
        have dz := I.dz
        have se := setDx_ref (k := .int y) (v := .int v) eB rfl (by unfold dV; rw [List.length_map]; omega)
        rw [dPut_int eg] at se
        have eQ1 : (h.set B (.dct (dV (dd ++ [(y, v)]))))[Qp]? = some (.lst (q.map .int)) := by rw [List.getElem?_set_ne nBQ]; exact eQ
        have ty := typ_lst eQ1
        have ap := append_ok eQ1 (by rw [List.length_map]; omega) (.int y)
        let h2 := (h.set B (.dct (dV (dd ++ [(y, v)])))).set Qp (.lst (q.map .int ++ [.int y]))
        have f1 : h2[B]? = some (.dct (dV (dd ++ [(y, v)]))) := by
          show ((h.set B _).set Qp _)[B]? = _
          rw [List.getElem?_set_ne (Ne.symm nBQ), List.getElem?_set_self Bl]
        have f2 : h2[Qp]? = some (.lst ((q ++ [y]).map .int)) := by
          show ((h.set B _).set Qp _)[Qp]? = _
          rw [List.getElem?_set_self (by rw [List.length_set]; exact Ql)]; simp
        have st : L_way_back_3 [g, some (.int s), some (.ref B), some (.ref Qp), a', some (.int v), some (.int y), w7] h = .nx [g, some (.int s), some (.ref B), some (.ref Qp), a', some (.int v), some (.int y), w7] h2 := by
          simp only [L_way_back_3, sSeq_eq, sIf_eq, tVal_eq, eBin_eq, eVar_eq, get_0, get_S, Option.join_some, ofO_some, Res.bind_ok, oEq_int, ne, Res.thn_ok, Bool.false_eq_true, if_false, sNop_eq, SR.bind_nx, ni, Option.isSome_none, Bool.not_false, if_true, sSetDx_eq, se, sExpr_eq, eMth_eq, ty, aCons_eq, aNil_eq, ap]
          rfl
        rw [st]
        have al : a < q.length := (List.getElem?_eq_some_iff.mp hv).1
        have vy : v ≠ y := fun z => by
          have vs : v ≠ s := z ▸ ys
          obtain ⟨p, _, e, _⟩ := I.dk v vq vs
          rw [z, eg] at e; cases e
        refine row_loop G gz nBQ g a' v a rest (done ++ [y]) hr2 (q ++ [y]) (dd ++ [(y, v)]) (fun x => if x = y then d v + 1 else d x) h2 (some (.int y)) w7 I2 (by rw [List.getElem?_append_left al]; exact hv) (fun z hz => ?_) f1 f2
        show z ≠ s ∧ z ∈ q ++ [y] ∧ (if z = y then d v + 1 else d z) ≤ (if v = y then d v + 1 else d v) + 1
        rw [if_neg vy]
        by_cases zy : z = y
        · rw [if_pos zy, zy]
          exact ⟨ys, List.mem_append_right _ (List.mem_singleton.mpr rfl), Nat.le_refl _⟩
        · rw [if_neg zy]
          rcases List.mem_append.mp hz with m | m
          · obtain ⟨p1, p2, p3⟩ := hd z m
            exact ⟨p1, List.mem_append_left _ p2, p3⟩
          · exact absurd (List.mem_singleton.mp m) zy
theorem way_loop (G : Gr gs) (gz : gs.length ≤ 40) (nBQ : B ≠ Qp) : ∀ (k a : Nat) (q : List Int) (dd : List (Int × Int)) (d : Int → Nat) (h : Hep) (w5 w6 w7 : Option Val), gs.length ≤ a + k → BI gs s q a dd d → h[B]? = some (.dct (dV dd)) → h[Qp]? = some (.lst (q.map .int)) →
    ∃ r, sWhile (tVal (eBin oLt (eVar 4) (eCallB bLen (aCons (eVar 3) aNil)))) L_way_back_4 [some (.tup (gs.map rowV)), some (.int s), some (.ref B), some (.ref Qp), some (.int a), w5, w6, w7] h = r ∧ ((∃ p h', r = .ret (.tup (p.map .int)) h' ∧ GoodC gs s p) ∨ ∃ η h', r = .nx η h' ∧ NoWay gs s) := by
  intro k
  induction k with
  | zero =>
    intro a q dd d h w5 w6 w7 hk I eB eQ
    have ql := nodup_bound I.nd I.qr
    have al := I.al
    have e : a = q.length := by omega
    subst e
    have le := bLen_ref eQ
    rw [List.length_map] at le
    refine ⟨_, rfl, .inr ⟨[some (.tup (gs.map rowV)), some (.int s), some (.ref B), some (.ref Qp), some (.int q.length), w5, w6, w7], h, ?_, bi_none I⟩⟩
    · have nl : ¬ ((q.length : Nat) : Int) < q.length := by omega
      rw [sWhile_eq]
      simp only [tVal_eq, eBin_eq, eCallB_eq, aCons_eq, aNil_eq, eVar_eq, get_0, get_S, Option.join_some, ofO_some, Res.bind_ok, le, oLt_int, decide_eq_false nl, Res.thn_ok, Bool.false_eq_true, if_false]
  | succ k ih =>
    intro a q dd d h w5 w6 w7 hk I eB eQ
    have al := I.al
    have le := bLen_ref eQ
    rw [List.length_map] at le
    by_cases z : a < q.length
    · have lt : ((a : Nat) : Int) < q.length := by omega
      obtain ⟨v, hv⟩ : ∃ v, q[a]? = some v := ⟨q[a], List.getElem?_eq_getElem z⟩
      have vr := I.qr v (List.mem_iff_getElem?.mpr ⟨a, hv⟩)
      have ix : oIdx h (.ref Qp) (.int a) = some (.int v) := by
        rw [oIdx_ref eQ]; exact atI_of (by omega) (by rw [Int.toNat_natCast, List.getElem?_map, hv]; rfl)
      have i1 : ((a : Int) + 1) = ((a + 1 : Nat) : Int) := by omega
      have rq := row_loop (B := B) G gz nBQ (some (.tup (gs.map rowV))) (some (.int ((a + 1 : Nat) : Int))) v a (R gs v) [] rfl q dd d h w6 w7 I hv (fun y hy => by cases hy) eB eQ
      have st : L_way_back_4 [some (.tup (gs.map rowV)), some (.int s), some (.ref B), some (.ref Qp), some (.int a), w5, w6, w7] h = forL (gNam 6) (fun _ => true) L_way_back_3 ((R gs v).map .int) [some (.tup (gs.map rowV)), some (.int s), some (.ref B), some (.ref Qp), some (.int ((a + 1 : Nat) : Int)), some (.int v), w6, w7] h := by
        simp only [L_way_back_4, sSeq_eq, sSet_eq, eBin_eq, eVar_eq, eC_eq, get_0, get_S, Option.join_some, ofO_some, Res.bind_ok, ix, Res.thn_ok, List.set_cons_succ, List.set_cons_zero, SR.bind_nx, sAug_eq, oIAdd_int, i1, sFor_eq, iVal_eq, oIdx_tup, row_at vr, items_tup]
      have one := sWhile_eq (tVal (eBin oLt (eVar 4) (eCallB bLen (aCons (eVar 3) aNil)))) L_way_back_4 [some (.tup (gs.map rowV)), some (.int s), some (.ref B), some (.ref Qp), some (.int a), w5, w6, w7] h
      simp only [tVal_eq, eBin_eq, eCallB_eq, aCons_eq, aNil_eq, eVar_eq, get_0, get_S, Option.join_some, ofO_some, Res.bind_ok, le, oLt_int, decide_eq_true lt, Res.thn_ok, if_true] at one
      rw [st] at one
      rw [one]
      rcases rq with ⟨p, h', e, g⟩ | ⟨q', dd', d', u6, u7, h', e, I', eB', eQ'⟩
      · rw [e]
        exact ⟨_, rfl, .inl ⟨p, h', rfl, g⟩⟩
      · rw [e]
        exact ih (a + 1) q' dd' d' h' (some (.int v)) u6 u7 (by omega) I' eB' eQ'
    · have e : a = q.length := by omega
      subst e
      refine ⟨_, rfl, .inr ⟨[some (.tup (gs.map rowV)), some (.int s), some (.ref B), some (.ref Qp), some (.int q.length), w5, w6, w7], h, ?_, bi_none I⟩⟩
      have nl : ¬ ((q.length : Nat) : Int) < q.length := by omega
      rw [sWhile_eq]
      simp only [tVal_eq, eBin_eq, eCallB_eq, aCons_eq, aNil_eq, eVar_eq, get_0, get_S, Option.join_some, ofO_some, Res.bind_ok, le, oLt_int, decide_eq_false nl, Res.thn_ok, Bool.false_eq_true, if_false]
end
theorem way_ok {gs : List (List Int)} (G : Gr gs) (gz : gs.length ≤ 40) {s : Int} (hs : InR gs s) (h : Hep) : ∃ (p : List Int) (h' : Hep), M_way_back [.tup (gs.map rowV), .int s] h = .ok (.tup (p.map .int)) h' ∧ (GoodC gs s p ∨ (p = [] ∧ NoWay gs s)) := by
  have eB : (h ++ [Obj.dct []] ++ [Obj.lst [.int s]])[h.length]? = some (.dct (dV [])) := by
    rw [List.append_assoc, List.getElem?_append_right (Nat.le_refl _), Nat.sub_self]; rfl
  obtain ⟨r, e, c⟩ := way_loop (B := h.length) (Qp := (h ++ [Obj.dct []]).length) G gz (by simp) gs.length 0 [s] [] (fun _ => 0) (h ++ [.dct []] ++ [.lst [.int s]]) none none none (by omega) (bi_start hs) eB (get_new _ _)
  have z0 : ((0 : Nat) : Int) = 0 := rfl
  rw [z0] at e
  have start : M_way_back [.tup (gs.map rowV), .int s] h = (r.bind fun η h => SR.ret (.tup []) h).res := by
    rw [← e]
    simp only [M_way_back, B_way_back, T_way_back_1, fn_2, List.replicate, sSeq_eq, sSet_eq, eDNew_eq, Res.thn_ok, List.set_cons_succ, List.set_cons_zero, SR.bind_nx, eLst_eq, aCons_eq, aNil_eq, eVar_eq, eC_eq, get_0, get_S, Option.join_some, ofO_some, Res.bind_ok, List.length_cons, List.length_nil, szOk_iff, show (0 + 1 ≤ 16777216) = True by decide, if_true, sRet_eq, eTup_eq, Nat.zero_le]
  rcases c with ⟨p, h', rfl, g⟩ | ⟨η, h', rfl, n⟩
  · exact ⟨p, h', start, .inl g⟩
  · exact ⟨[], h', start, .inr ⟨rfl, n⟩⟩
end Law

set_option maxRecDepth 100000
set_option maxHeartbeats 1000000
set_option linter.all false
namespace Law
open Cd Mir
theorem rsls_ints (h : Hep) (n : Nat) : ∀ L : List Int, rsls h n (L.map .int) = some (L.map .int)
  | [] => by simp [rsls]
  | s :: L => by
    have ih := rsls_ints h n L
    have e : rsl h n (.int s) = some (.int s) := by
      cases n <;> unfold rsl <;> rfl
    rw [List.map_cons, rsls, e]
    simp only [ih]
    rfl
/-- way != () -/
theorem ne_tup (h : Hep) (p : List Int) : oNe h (.tup (p.map .int)) (.tup []) = some (.bl (!p.isEmpty)) := by
  have r1 : rsl h 40 (.tup (p.map .int)) = some (.tup (p.map .int)) := by rw [rsl, rsls_ints]; rfl
  have r2 : rsl h 40 (.tup []) = some (.tup []) := by simp [rsl, rsls]
  refine oNe_of ?_
  unfold vEq
  rw [show scl (.tup (p.map .int)) (.tup []) = none from rfl, r1, r2]
  simp only
  congr 1
  rw [Dat.eqv]
  cases p with
  | nil => simp [Dat.eqvs]
  | cons a l => simp [Dat.eqvs]
/-- what circle finds -/
def Circ (gs : List (List Int)) (p : List Int) : Prop := (∃ s : Nat, s < gs.length ∧ GoodC gs s p ∧ ∀ j : Nat, j < s → NoWay gs j) ∨ (p = [] ∧ ∀ j : Nat, j < gs.length → NoWay gs j)
theorem circle_ok {gs : List (List Int)} (G : Gr gs) (gz : gs.length ≤ 40) (h : Hep) : ∃ (p : List Int) (h' : Hep), M_circle [.tup (gs.map rowV)] h = .ok (.tup (p.map .int)) h' ∧ Circ gs p := by
  let Q : SR → Prop := fun r => ∃ h', (∃ p, r = .ret (.tup (p.map .int)) h' ∧ Circ gs p) ∨ (∃ η, r = .nx η h' ∧ ∀ j : Nat, j < gs.length → NoWay gs j)
  have loop : Q (forL (gNam 1) (fun _ => true) L_circle_1 (rng 0 gs.length) [some (.tup (gs.map rowV)), none, none] h) := by
    refine forL_gen Q _ (fun i η h' => (∃ u1 u2, η = [some (.tup (gs.map rowV)), u1, u2]) ∧ ∀ j : Nat, j < i → NoWay gs j) _ _ ⟨⟨_, _, rfl⟩, fun j hj => by omega⟩ ?_ ?_
    · rintro i x η h1 hx ⟨⟨u1, u2, rfl⟩, no⟩
      obtain ⟨hi, rfl⟩ := rng_get hx
      obtain ⟨p, h2, e, c⟩ := way_ok G gz (s := (i : Int)) ⟨by omega, by omega⟩ h1
      refine ⟨rfl, _, rfl, ?_⟩
      simp only [List.set_cons_succ, List.set_cons_zero, Int.zero_add]
      have nt := ne_tup h2 p
      rcases c with g | ⟨rfl, n⟩
      · have pn : (!p.isEmpty) = true := by
          cases p with
          | nil => have := g.hd; simp at this
          | cons a l => rfl
        rw [pn] at nt
        have st : L_circle_1 [some (.tup (gs.map rowV)), some (.int i), u2] h1 = .ret (.tup (p.map .int)) h2 := by
          simp only [L_circle_1, sSeq_eq, sSet_eq, eCall_eq, aCons_eq, aNil_eq, eVar_eq, get_0, get_S, Option.join_some, ofO_some, Res.bind_ok, e, Res.thn_ok, List.set_cons_succ, List.set_cons_zero, SR.bind_nx, sIf_eq, tVal_eq, eBin_eq, eTup_eq, List.length_nil, szOk_iff, Nat.zero_le, if_true, nt, sRet_eq]
        rw [st]
        exact ⟨h2, .inl ⟨p, rfl, .inl ⟨i, hi, g, no⟩⟩⟩
      · have st : L_circle_1 [some (.tup (gs.map rowV)), some (.int i), u2] h1 = .nx [some (.tup (gs.map rowV)), some (.int i), some (.tup [])] h2 := by
          have nt' : oNe h2 (.tup []) (.tup []) = some (.bl false) := nt
          simp only [L_circle_1, sSeq_eq, sSet_eq, eCall_eq, aCons_eq, aNil_eq, eVar_eq, get_0, get_S, Option.join_some, ofO_some, Res.bind_ok, e, Res.thn_ok, List.set_cons_succ, List.set_cons_zero, SR.bind_nx, sIf_eq, tVal_eq, eBin_eq, eTup_eq, List.length_nil, szOk_iff, Nat.zero_le, if_true, List.map_nil, nt', Bool.false_eq_true, if_false, sNop_eq]
        rw [st]
        refine ⟨⟨_, _, rfl⟩, fun j hj => ?_⟩
        by_cases z : j = i
        · rw [z]; exact n
        · exact no j (by omega)
    · rintro η h1 ⟨⟨u1, u2, rfl⟩, no⟩
      rw [rng_length] at no
      exact ⟨rfl, h1, .inr ⟨_, rfl, no⟩⟩
  have start : ∀ r, forL (gNam 1) (fun _ => true) L_circle_1 (rng 0 gs.length) [some (.tup (gs.map rowV)), none, none] h = r → gs.length ≤ 40 → M_circle [.tup (gs.map rowV)] h = (r.bind fun η h => SR.ret (.tup []) h).res := by
    rintro r rfl gz
    simp (disch := omega) only [M_circle, B_circle, fn_1, List.replicate, sSeq_eq, sFor_eq, iArgs_eq, aCons_eq, aNil_eq, eCallB_eq, eVar_eq, get_0, Option.join_some, ofO_some, Res.bind_ok, bLen_tup, List.length_map, fRng1_s, Int.toNat_natCast, Res.thn_ok, sRet_eq, eTup_eq, List.length_nil, szOk_iff, Nat.zero_le, if_true]
  obtain ⟨h', ⟨p, e, c⟩ | ⟨η, e, n⟩⟩ := loop
  · exact ⟨p, h', by rw [start _ e gz]; rfl, c⟩
  · exact ⟨[], h', by rw [start _ e gz]; rfl, .inr ⟨rfl, n⟩⟩
theorem in_row (h : Hep) (v : Int) (row : List Int) (m : v ∈ row) : oNin h (.int v) (.tup (row.map .int)) = some (.bl false) := by
  have e : isIn h (.int v) (.tup (row.map .int)) = if flat (.int v) && (row.map Val.int).all flat then some ((row.map Val.int).any fun y => eqF y (.int v)) else none := rfl
  have f : (row.map Val.int).all flat = true := by simp [flat]
  have g : ((row.map Val.int).any fun y => eqF y (.int v)) = true := by
    rw [List.any_map, List.any_eq_true]
    exact ⟨v, m, by simp [eqF]⟩
  unfold oNin
  rw [e, f, g]
  rfl
theorem check_loop {gs : List (List Int)} {s : Int} {p : List Int} (g : GoodC gs s p) (gz : gs.length ≤ 40) (v0 v1 v4 v6 : Option Val) (h : Hep) : ∃ v6', forL (gNam 6) (fun _ => true) L_law_1 (rng 0 p.length) [v0, v1, some (.tup (gs.map rowV)), some (.tup (p.map .int)), v4, some (.int p.length), v6] h = .nx [v0, v1, some (.tup (gs.map rowV)), some (.tup (p.map .int)), v4, some (.int p.length), v6'] h := by
  refine forL_gen (fun r => ∃ v6', r = .nx [v0, v1, some (.tup (gs.map rowV)), some (.tup (p.map .int)), v4, some (.int p.length), v6'] h) _ (fun i η h' => h' = h ∧ ∃ v6, η = [v0, v1, some (.tup (gs.map rowV)), some (.tup (p.map .int)), v4, some (.int p.length), v6]) _ _ ⟨rfl, _, rfl⟩ ?_ ?_
  · rintro i x η h1 hx ⟨rfl, u6, rfl⟩
    obtain ⟨hi, rfl⟩ := rng_get hx
    have at_ : ∀ j : Nat, j < p.length → atI (p.map Val.int) (j : Int) = some (.int (p.getD j 0)) := fun j hj => atI_of (by omega) (by rw [Int.toNat_natCast, List.getElem?_map, List.getD_eq_getElem?_getD, List.getElem?_eq_getElem hj]; rfl)
    have gt : ∀ j : Nat, j < p.length → p[j]? = some (p.getD j 0) := fun j hj => by rw [List.getD_eq_getElem?_getD, List.getElem?_eq_getElem hj]; rfl
    have ml : (i + 1) % p.length < p.length := Nat.mod_lt _ (by omega)
    have a1 := at_ i hi
    have a2 := at_ ((i + 1) % p.length) ml
    have ir := g.inr (p.getD i 0) (List.mem_iff_getElem?.mpr ⟨i, gt i hi⟩)
    have ed := g.ed i _ _ (gt i hi) (gt _ ml)
    have rw_ := row_at ir
    have ni := in_row h1 _ _ ed
    have n0 : ¬ p.getD i 0 < 0 := by have := ir.1; omega
    have n1 : ¬ (gs.length : Int) ≤ p.getD i 0 := by have := ir.2; omega
    have t1 : isT "int" "int" = true := by decide
    have t2 : isT "int" "bool" = false := by decide
    have md : oMod h1 (.int ((i : Int) + 1)) (.int p.length) = some (.int (((i + 1) % p.length : Nat) : Int)) := by
      rw [oMod_s (by omega)]
      congr 2
    refine ⟨rfl, _, rfl, ?_⟩
    have st : L_law_1 [v0, v1, some (.tup (gs.map rowV)), some (.tup (p.map .int)), v4, some (.int p.length), some (.int i)] h1 = .nx [v0, v1, some (.tup (gs.map rowV)), some (.tup (p.map .int)), v4, some (.int p.length), some (.int i)] h1 := by
      simp only [L_law_1, sSeq_eq, sIf_eq, tOr_eq, tNot_eq, tTru_eq, eUn_eq, eBin_eq, eVar_eq, eC_eq, get_0, get_S, Option.join_some, ofO_some, Res.bind_ok, oIdx_tup, a1, oIsi_eq, typ_int, Option.map_some, t1, t2, truth_bl, Bool.not_true, Bool.false_eq_true, if_false, Res.thn_ok, sNop_eq, SR.bind_nx, tVal_eq, oLt_int, decide_eq_false n0, oGe_int, eCallB_eq, aCons_eq, aNil_eq, bLen_tup, List.length_map, decide_eq_false n1, oAdd_int, bInt_int, md, a2, rw_, ni]
    simp only [List.set_cons_succ, List.set_cons_zero, Int.zero_add, st, SR.turn_nx]
    exact ⟨trivial, _, rfl⟩
  · rintro η h1 ⟨rfl, u6, rfl⟩
    exact ⟨rfl, _, rfl⟩
theorem turn_ok {gs : List (List Int)} (G : Gr gs) (gz : gs.length ≤ 40) (rl : ∀ r ∈ gs, r.length ≤ 500) {p : List Int} (i : Nat) (hi : i < gs.length) (c : GoodC gs i p ∨ NoWay gs i) (v0 v1 u5 u6 : Option Val) (h : Hep) :
    ∃ h', (GoodC gs i p → L_law_2 [v0, v1, some (.tup (gs.map rowV)), some (.tup (p.map .int)), some (.int i), u5, u6] h = .ret (.bl true) h') ∧
      (NoWay gs i → L_law_2 [v0, v1, some (.tup (gs.map rowV)), some (.tup (p.map .int)), some (.int i), u5, u6] h = .nx [v0, v1, some (.tup (gs.map rowV)), some (.tup (p.map .int)), some (.int i), some (.int 0), u6] h') := by
  obtain ⟨m, h1, e, cm⟩ := law_way_ok G gz rl (s := (i : Int)) ⟨by omega, by omega⟩ h
  refine ⟨h1, fun g => ?_, fun n => ?_⟩
  · have ml : m = p.length := by
      rcases cm with s | ⟨_, n⟩
      · obtain ⟨a1, a2, a3⟩ := s
        obtain ⟨b1, b2, b3⟩ := g.sh
        rcases Nat.lt_trichotomy m p.length with l | l | l
        · exact absurd a2 (b3 m a1 l)
        · exact l
        · exact absurd b2 (a3 _ b1 l)
      · exact absurd g.sh.2.1 (n _ g.sh.1)
    subst ml
    obtain ⟨v6', ck⟩ := check_loop g gz v0 v1 (some (.int i)) u6 h1
    have pl : 0 < p.length := g.sh.1
    have pz := g.ln
    have gp : (0 : Int) < p.length := by omega
    have a0 : atI (p.map Val.int) 0 = some (.int i) := atI_of (by decide) (by rw [List.getElem?_map]; show (p[0]?).map _ = _; rw [g.hd]; rfl)
    have sm := same_ok (v := .int i) trivial h1
    have ee : ((p.length : Int) == p.length) = true := by simp
    simp (disch := omega) only [L_law_2, sSeq_eq, sSet_eq, eCall_eq, aCons_eq, aNil_eq, eVar_eq, eC_eq, get_0, get_S, Option.join_some, ofO_some, Res.bind_ok, e, Res.thn_ok, List.set_cons_succ, List.set_cons_zero, SR.bind_nx, sIf_eq, tVal_eq, eBin_eq, oGt_int, decide_eq_true gp, if_true, tOr_eq, eCallB_eq, bLen_tup, List.length_map, oNe_int, ee, Bool.not_true, Bool.false_eq_true, if_false, tNot_eq, tTru_eq, oIdx_tup, a0, sm, truth_bl, sNop_eq, sFor_eq, iArgs_eq, fRng1_s, Int.toNat_natCast, ck, sRet_eq]
  · have m0 : m = 0 := by
      rcases cm with s | ⟨z, _⟩
      · exact absurd s.2.1 (n _ s.1)
      · exact z
    subst m0
    have z : ¬ (0 : Int) < ((0 : Nat) : Int) := by omega
    simp only [L_law_2, sSeq_eq, sSet_eq, eCall_eq, aCons_eq, aNil_eq, eVar_eq, eC_eq, get_0, get_S, Option.join_some, ofO_some, Res.bind_ok, e, Res.thn_ok, List.set_cons_succ, List.set_cons_zero, SR.bind_nx, sIf_eq, tVal_eq, eBin_eq, oGt_int, decide_eq_false z, Bool.false_eq_true, if_false, sNop_eq]
    rfl
theorem law_true (ns : List Int) (hl : ns.length ≤ 63) : ∃ h, Mir.M_law [.fl (ns.map .int)] [] = .ok (.bl true) h := by
  obtain ⟨h1, d, p0, e1, D1⟩ := draws_ok ns []
  obtain ⟨h2, gs, e2, gz, rb, rl⟩ := graph_ok h1 D1
  have G : Gr gs := rb
  obtain ⟨p, h3, e3, c⟩ := circle_ok G gz h2
  have t1 : isT "tuple" "tuple" = true := by decide
  let Q : SR → Prop := fun r => ∃ h', r = .ret (.bl true) h' ∨ (p = [] ∧ ∃ u4 u5 u6, r = .nx [some (.fl (ns.map .int)), some (.ref d), some (.tup (gs.map rowV)), some (.tup (p.map .int)), u4, u5, u6] h')
  have start : ∀ r, forL (gNam 4) (fun _ => true) L_law_2 (rng 0 gs.length) [some (.fl (ns.map .int)), some (.ref d), some (.tup (gs.map rowV)), some (.tup (p.map .int)), none, none, none] h3 = r → M_law [.fl (ns.map .int)] [] = (r.bind fun η h => (sRet (eBin oEq (eCallB bLen (aCons (eVar 3) aNil)) (eC (.int 0)))) η h).res := by
    rintro r rfl
    simp (disch := omega) only [M_law, B_law, T_law_3, fn_1, List.replicate, sSeq_eq, sSet_eq, eCall_eq, aCons_eq, aNil_eq, eVar_eq, get_0, get_S, Option.join_some, ofO_some, Res.bind_ok, e1, Res.thn_ok, SR.bind_nx, List.set_cons_succ, List.set_cons_zero, e2, e3, sIf_eq, tNot_eq, tTru_eq, eUn_eq, oIsi_eq, typ_tup, Option.map_some, t1, truth_bl, Bool.not_true, Bool.false_eq_true, if_false, sNop_eq, sFor_eq, iArgs_eq, eCallB_eq, bLen_tup, List.length_map, fRng1_s, Int.toNat_natCast]
  have loop : Q (forL (gNam 4) (fun _ => true) L_law_2 (rng 0 gs.length) [some (.fl (ns.map .int)), some (.ref d), some (.tup (gs.map rowV)), some (.tup (p.map .int)), none, none, none] h3) := by
    refine forL_gen Q _ (fun i η h' => (∃ u4 u5 u6, η = [some (.fl (ns.map .int)), some (.ref d), some (.tup (gs.map rowV)), some (.tup (p.map .int)), u4, u5, u6]) ∧ ∀ j : Nat, j < i → j < gs.length → ¬ GoodC gs j p) _ _ ⟨⟨_, _, _, rfl⟩, fun j hj => by omega⟩ ?_ ?_
    · rintro i x η h5 hx ⟨⟨u4, u5, u6, rfl⟩, no⟩
      obtain ⟨hi, rfl⟩ := rng_get hx
      have ci : GoodC gs i p ∨ NoWay gs i := by
        rcases c with ⟨s, s1, g, n⟩ | ⟨_, n⟩
        · rcases Nat.lt_trichotomy i s with l | l | l
          · exact .inr (n i l)
          · exact .inl (l ▸ g)
          · exact absurd g (no s l s1)
        · exact .inr (n i hi)
      obtain ⟨h6, t1, t2⟩ := turn_ok G gz rl i hi ci (some (.fl (ns.map .int))) (some (.ref d)) u5 u6 h5
      refine ⟨rfl, _, rfl, ?_⟩
      simp only [List.set_cons_succ, List.set_cons_zero, Int.zero_add]
      rcases ci with g | n
      · rw [t1 g]; exact ⟨h6, .inl rfl⟩
      · rw [t2 n]
        refine ⟨⟨_, _, _, rfl⟩, fun j hj jl g => ?_⟩
        by_cases z : j = i
        · subst z; exact n _ g.sh.1 g.sh.2.1
        · exact no j (by omega) jl g
    · rintro η h5 ⟨⟨u4, u5, u6, rfl⟩, no⟩
      rw [rng_length] at no
      refine ⟨rfl, h5, .inr ⟨?_, u4, u5, u6, rfl⟩⟩
      rcases c with ⟨s, s1, g, n⟩ | ⟨e, _⟩
      · exact absurd g (no s s1 s1)
      · exact e
  obtain ⟨h', e | ⟨pe, u4, u5, u6, e⟩⟩ := loop
  · exact ⟨h', by rw [start _ e]; rfl⟩
  · refine ⟨h', ?_⟩
    rw [start _ e, pe]
    rfl
end Law

set_option Elab.async false
set_option linter.all false
set_option maxRecDepth 100000
set_option maxHeartbeats 4000000
namespace Ok
open PySem PySem.Spec PyProof.Rows L2 Cb Mir
def top (i : Nat) : Stmt := PySem.Challenge.pw_cardhouse_k42_circles.main.body.getD i (.Pass ⟨0, 0, 0, 0⟩)
abbrev s_v_law_draws : Stmt := top 4
theorem sc_v_law_draws : FnScope ["script"] ["script"] (defScope s_v_law_draws) := ⟨rfl, rfl, rfl, by decide +kernel, rfl, by decide +kernel, by decide +kernel⟩
abbrev s_v_law_draw : Stmt := top 5
theorem sc_v_law_draw : FnScope ["draws", "limit", "cell", "value"] ["draws", "limit"] (defScope s_v_law_draw) := ⟨rfl, rfl, rfl, by decide +kernel, rfl, by decide +kernel, by decide +kernel⟩
abbrev s_v_law_graph : Stmt := top 7
theorem sc_v_law_graph : FnScope ["draws", "count", "heights", "upward", "most", "rows", "k", "row", "j", "other"] ["draws"] (defScope s_v_law_graph) := ⟨rfl, rfl, rfl, by decide +kernel, rfl, by decide +kernel, by decide +kernel⟩
abbrev s_v_law_same : Stmt := top 6
theorem sc_v_law_same : FnScope ["actual", "expected", "k"] ["actual", "expected"] (defScope s_v_law_same) := ⟨rfl, rfl, rfl, by decide +kernel, rfl, by decide +kernel, by decide +kernel⟩
abbrev s_v_law_way_back : Stmt := top 8
theorem sc_v_law_way_back : FnScope ["graph", "start", "reached", "seen", "k", "more", "vertex", "other"] ["graph", "start"] (defScope s_v_law_way_back) := ⟨rfl, rfl, rfl, by decide +kernel, rfl, by decide +kernel, by decide +kernel⟩
abbrev s_way_back : Stmt := top 1
theorem sc_way_back : FnScope ["graph", "start", "before", "queue", "at", "index", "other", "way"] ["graph", "start"] (defScope s_way_back) := ⟨rfl, rfl, rfl, by decide +kernel, rfl, by decide +kernel, by decide +kernel⟩
abbrev s_circle : Stmt := top 2
theorem sc_circle : FnScope ["graph", "start", "way"] ["graph"] (defScope s_circle) := ⟨rfl, rfl, rfl, by decide +kernel, rfl, by decide +kernel, by decide +kernel⟩
abbrev s_law : Stmt := top 9
theorem sc_law : FnScope ["script", "draws", "graph", "found", "start", "size", "k"] ["script"] (defScope s_law) := ⟨rfl, rfl, rfl, by decide +kernel, rfl, by decide +kernel, by decide +kernel⟩
structure Txt (K : PySem.W.Frag) (mg : Str → Option Value) (w : World) : Type where
  f_v_law_draws : Addr
  fd_v_law_draws : FuncData
  F_v_law_draws : Fun K "_law_draws" "_law_draws" s_v_law_draws f_v_law_draws fd_v_law_draws
  g_v_law_draws : mg "_law_draws" = some (.ref f_v_law_draws)
  b_v_law_draws : Binds K fd_v_law_draws ["script"] []
  f_v_law_draw : Addr
  fd_v_law_draw : FuncData
  F_v_law_draw : Fun K "_law_draw" "_law_draw" s_v_law_draw f_v_law_draw fd_v_law_draw
  g_v_law_draw : mg "_law_draw" = some (.ref f_v_law_draw)
  b_v_law_draw : Binds K fd_v_law_draw ["draws", "limit"] []
  f_v_law_graph : Addr
  fd_v_law_graph : FuncData
  F_v_law_graph : Fun K "_law_graph" "_law_graph" s_v_law_graph f_v_law_graph fd_v_law_graph
  g_v_law_graph : mg "_law_graph" = some (.ref f_v_law_graph)
  b_v_law_graph : Binds K fd_v_law_graph ["draws"] []
  f_v_law_same : Addr
  fd_v_law_same : FuncData
  F_v_law_same : Fun K "_law_same" "_law_same" s_v_law_same f_v_law_same fd_v_law_same
  g_v_law_same : mg "_law_same" = some (.ref f_v_law_same)
  b_v_law_same : Binds K fd_v_law_same ["actual", "expected"] []
  f_v_law_way_back : Addr
  fd_v_law_way_back : FuncData
  F_v_law_way_back : Fun K "_law_way_back" "_law_way_back" s_v_law_way_back f_v_law_way_back fd_v_law_way_back
  g_v_law_way_back : mg "_law_way_back" = some (.ref f_v_law_way_back)
  b_v_law_way_back : Binds K fd_v_law_way_back ["graph", "start"] []
  f_way_back : Addr
  fd_way_back : FuncData
  F_way_back : Fun K "way_back" "way_back" s_way_back f_way_back fd_way_back
  g_way_back : mg "way_back" = some (.ref f_way_back)
  b_way_back : Binds K fd_way_back ["graph", "start"] []
  f_circle : Addr
  fd_circle : FuncData
  F_circle : Fun K "circle" "circle" s_circle f_circle fd_circle
  g_circle : mg "circle" = some (.ref f_circle)
  b_circle : Binds K fd_circle ["graph"] []
  f_law : Addr
  fd_law : FuncData
  F_law : Fun K "law" "law" s_law f_law fd_law
  g_law : mg "law" = some (.ref f_law)
  b_law : Binds K fd_law ["script"] []
  m_bool : mg "bool" = none
  m_int : mg "int" = none
  m_isinstance : mg "isinstance" = none
  m_len : mg "len" = none
  m_list : mg "list" = none
  m_range : mg "range" = none
  m_sorted : mg "sorted" = none
  m_str : mg "str" = none
  m_tuple : mg "tuple" = none
def ca {K : PySem.W.Frag} {mg : Str → Option Value} {w : World} (T : Txt K mg w) : String → Value := fun s =>  .none
section
variable {P : Program} {w : World} {K : PySem.W.Frag} {mg : Str → Option Value} {base : Heap}
theorem ok_v_law_draws (T : Txt K mg w) : FnOk P w K mg base (L2.CX P w) 1 T.f_v_law_draws T.fd_v_law_draws ["script"] (spF K (ca T) 1 M_v_law_draws) :=
  k_def (N := ["script"]) (body := B_v_law_draws) T.F_v_law_draws sc_v_law_draws (fun cdv A outer s H E hr tk po => (kss_one (ks_ret (k_lst (ka_cons (k_callTy call_list_of bf_list T.m_list (ka_cons (k_var 0) ka_nil)) (ka_cons k_int (ka_cons k_int (ka_cons k_int ka_nil))))))))
theorem ok_v_law_draw (T : Txt K mg w) : FnOk P w K mg base (L2.CX P w) 1 T.f_v_law_draw T.fd_v_law_draw ["draws", "limit"] (spF K (ca T) 2 M_v_law_draw) :=
  k_def (N := ["draws", "limit", "cell", "value"]) (body := B_v_law_draw) T.F_v_law_draw sc_v_law_draw (fun cdv A outer s H E hr tk po => (kss_cons (ks_if (kt_pw (kw_and (kt_cmp (op_eqA hr.units) bf_eq (k_idx (k_var 0) k_int) k_int (nomark _)) (kw_and1 (kt_cmp op_ltA bf_lt (k_idx (k_var 0) k_int) (k_callB call_len bf_len T.m_len (ka_cons (k_idx (k_var 0) k_int) ka_nil)) (nomark _))))) (kss_cons (ks_set 2 sc_v_law_draw.nd (k_idx (k_idx (k_var 0) k_int) (k_idx (k_var 0) k_int))) (kss_cons (ks_setIx (k_bin op_addA bf_add (k_idx (k_var 0) k_int) k_int) (k_var 0) k_int (pg := pg_sub (k_var 0) k_int set_list)) (kss_cons (ks_if (kt_cmp op_geA bf_ge (k_var 2) (k_bin op_pow bf_pow k_int k_int) (nomark _)) (kss_one (ks_setIx (k_var 2) (k_var 0) k_int (pg := pg_sub (k_var 0) k_int set_list))) kss_nil) (kss_one (ks_setIx (k_bin op_mod bf_mod (k_callTy call_int1 bf_int T.m_int (ka_cons (k_bin op_addA bf_add (k_bin op_addA bf_add (k_bin op_mulA bf_mul (k_idx (k_var 0) k_int) k_int) (k_var 2)) k_int) ka_nil)) k_int) (k_var 0) k_int (pg := pg_sub (k_var 0) k_int set_list)))))) kss_nil) (kss_cons (ks_if (kt_cmp op_gtA bf_gt (k_idx (k_var 0) k_int) k_int (nomark _)) (kss_cons (ks_set 3 sc_v_law_draw.nd (k_bin op_mod bf_mod (k_callTy call_int1 bf_int T.m_int (ka_cons (k_idx (k_var 0) k_int) ka_nil)) (k_var 1))) (kss_cons (ks_setIx (k_bin op_fdivW bf_div (k_idx (k_var 0) k_int) (k_var 1)) (k_var 0) k_int (pg := pg_sub (k_var 0) k_int set_list)) (kss_one (ks_ret (k_var 3))))) kss_nil) (kss_cons (ks_setIx (k_bin op_mod bf_mod (k_callTy call_int1 bf_int T.m_int (ka_cons (k_bin op_addA bf_add (k_bin op_mulA bf_mul (k_idx (k_var 0) k_int) k_int) k_int) ka_nil)) k_int) (k_var 0) k_int (pg := pg_sub (k_var 0) k_int set_list)) (kss_one (ks_ret (k_bin op_mod bf_mod (k_callTy call_int1 bf_int T.m_int (ka_cons (k_bin op_fdivW bf_div (k_idx (k_var 0) k_int) k_int) ka_nil)) (k_var 1))))))))
theorem ok_v_law_graph (T : Txt K mg w) : FnOk P w K mg base (L2.CX P w) 2 T.f_v_law_graph T.fd_v_law_graph ["draws"] (spF K (ca T) 1 M_v_law_graph) :=
  k_def (N := ["draws", "count", "heights", "upward", "most", "rows", "k", "row", "j", "other"]) (body := B_v_law_graph) T.F_v_law_graph sc_v_law_graph (fun cdv A outer s H E hr tk po => (kss_cons (ks_set 1 sc_v_law_graph.nd (k_call (ok_v_law_draw T) tk (hr.mono (by decide)) (by rfl) T.g_v_law_draw T.F_v_law_draw.kp T.b_v_law_draw rfl (ka_cons (k_var 0) (ka_cons (k_idx (k_lst (ka_cons k_int (ka_cons k_int ka_nil))) (k_callTy call_int1 bf_int T.m_int (ka_cons (k_cmp (op_eqA hr.units) bf_eq (k_call (ok_v_law_draw T) tk (hr.mono (by decide)) (by rfl) T.g_v_law_draw T.F_v_law_draw.kp T.b_v_law_draw rfl (ka_cons (k_var 0) (ka_cons k_int ka_nil)) (al_cons (al_cons al_nil))) k_int (nomark _)) ka_nil))) ka_nil)) (al_cons (al_cons al_nil)))) (kss_cons (ks_setLc1 2 6 rfl sc_v_law_graph.nd (ki_rng1 T.m_range (ka_cons (k_var 1) ka_nil)) (by rfl) (sw_true rfl rfl rfl (by rfl)) (fun _ _ _ _ _ => kts_nil) (fun _ _ _ _ _ => (k_call (ok_v_law_draw T) takes0 (hr.mono (by decide)) (by rfl) T.g_v_law_draw T.F_v_law_draw.kp T.b_v_law_draw rfl (ka_cons (k_var 0) (ka_cons k_int ka_nil)) (al_cons (al_cons al_nil)))) (fun _ _ _ _ _ => pg_name (i := 6) sc_v_law_graph.nd rfl (Or.inl rfl))) (kss_cons (ks_set 3 sc_v_law_graph.nd (k_call (ok_v_law_draw T) tk (hr.mono (by decide)) (by rfl) T.g_v_law_draw T.F_v_law_draw.kp T.b_v_law_draw rfl (ka_cons (k_var 0) (ka_cons k_int ka_nil)) (al_cons (al_cons al_nil)))) (kss_cons (ks_set 4 sc_v_law_graph.nd (k_bin op_addA bf_add k_int (k_call (ok_v_law_draw T) tk (hr.mono (by decide)) (by rfl) T.g_v_law_draw T.F_v_law_draw.kp T.b_v_law_draw rfl (ka_cons (k_var 0) (ka_cons k_int ka_nil)) (al_cons (al_cons al_nil))))) (kss_cons (ks_set 5 sc_v_law_graph.nd (k_lst ka_nil)) (kss_cons (ks_for po rfl (ki_rng1 T.m_range (ka_cons (k_var 1) ka_nil)) (kg_name 6 sc_v_law_graph.nd) (kss_cons (ks_set 7 sc_v_law_graph.nd (k_lst ka_nil)) (kss_cons (ks_for po rfl (ki_rng1 T.m_range (ka_cons (k_call (ok_v_law_draw T) tk (hr.mono (by decide)) (by rfl) T.g_v_law_draw T.F_v_law_draw.kp T.b_v_law_draw rfl (ka_cons (k_var 0) (ka_cons (k_var 4) ka_nil)) (al_cons (al_cons al_nil))) ka_nil)) (kg_name 8 sc_v_law_graph.nd) (kss_cons (ks_set 9 sc_v_law_graph.nd (k_call (ok_v_law_draw T) tk (hr.mono (by decide)) (by rfl) T.g_v_law_draw T.F_v_law_draw.kp T.b_v_law_draw rfl (ka_cons (k_var 0) (ka_cons (k_var 1) ka_nil)) (al_cons (al_cons al_nil)))) (kss_one (ks_if (kt_pw (kw_and (kt_cmp op_ninA bf_nin (k_var 9) (k_var 7) (by rfl)) (kw_and1 (kt_pw (kw_or (kt_cmp (op_eqA hr.units) bf_eq (k_var 3) k_int (nomark _)) (kw_or1 (kt_cmp op_ltA bf_lt (k_idx (k_var 2) (k_var 6)) (k_idx (k_var 2) (k_var 9)) (nomark _)))))))) (kss_one (ks_expr (k_bm PySem.F.plainAttrs_list PySem.F.slot_list_append PySem.F.type_list_append mt_append mf_append (k_var 7) (ka_cons (k_var 9) ka_nil)))) kss_nil)))) (kss_one (ks_expr (k_bm PySem.F.plainAttrs_list PySem.F.slot_list_append PySem.F.type_list_append mt_append mf_append (k_var 5) (ka_cons (k_callTy call_tuple_of bf_tuple T.m_tuple (ka_cons (k_callB cr_sortedI bf_sortI T.m_sorted (ka_cons (k_var 7) ka_nil)) ka_nil)) ka_nil))))))) (kss_one (ks_ret (k_callTy call_tuple_of bf_tuple T.m_tuple (ka_cons (k_var 5) ka_nil)))))))))))
theorem okn_v_law_same (T : Txt K mg w) : ∀ n : Nat, FnOk P w K mg base (L2.CX P w) (0 + n) T.f_v_law_same T.fd_v_law_same ["actual", "expected"] (spF K (ca T) 2 (M_v_law_same_n n))
  | 0 => fnOk_stuck
  | n + 1 => by
    have ih_ := okn_v_law_same T n
    exact k_def (N := ["actual", "expected", "k"]) (body := B_v_law_same (M_v_law_same_n n)) T.F_v_law_same sc_v_law_same (fun cdv A outer s H E hr tk po => (kss_cons (ks_if (kt_tru (k_isi "tuple" T.m_isinstance T.m_tuple (k_var 1))) (kss_cons (ks_if (kt_pw (kw_or (kt_not (kt_tru (k_isi "tuple" T.m_isinstance T.m_tuple (k_var 0)))) (kw_or1 (kt_cmp (op_neA hr.units) bf_ne (k_callB call_len bf_len T.m_len (ka_cons (k_var 0) ka_nil)) (k_callB call_len bf_len T.m_len (ka_cons (k_var 1) ka_nil)) (nomark _))))) (kss_one (ks_ret k_bl)) kss_nil) (kss_cons (ks_for po rfl (ki_rng1 T.m_range (ka_cons (k_callB call_len bf_len T.m_len (ka_cons (k_var 1) ka_nil)) ka_nil)) (kg_name 2 sc_v_law_same.nd) (kss_one (ks_if (kt_not (kt_tru (k_call ih_ tk hr (by rfl) T.g_v_law_same T.F_v_law_same.kp T.b_v_law_same rfl (ka_cons (k_idx (k_var 0) (k_var 2)) (ka_cons (k_idx (k_var 1) (k_var 2)) ka_nil)) (al_cons (al_cons al_nil))))) (kss_one (ks_ret k_bl)) kss_nil))) (kss_one (ks_ret k_bl)))) kss_nil) (kss_cons (ks_if (kt_tru (k_isi "str" T.m_isinstance T.m_str (k_var 1))) (kss_one (ks_ret (k_and (k_isi "str" T.m_isinstance T.m_str (k_var 0)) (k_one (k_cmp (op_eqA hr.units) bf_eq (k_var 0) (k_var 1) (nomark _)))))) kss_nil) (kss_cons (ks_if (kt_cmp op_isN bf_isN (k_var 1) k_non (nomark _)) (kss_one (ks_ret (k_cmp op_isN bf_isN (k_var 0) k_non (nomark _)))) kss_nil) (kss_cons (ks_if (kt_pw (kw_or (kt_tru (k_isi "bool" T.m_isinstance T.m_bool (k_var 1))) (kw_or1 (kt_tru (k_isi "bool" T.m_isinstance T.m_bool (k_var 0)))))) (kss_one (ks_ret (k_and (k_isi "bool" T.m_isinstance T.m_bool (k_var 1)) (k_and (k_isi "bool" T.m_isinstance T.m_bool (k_var 0)) (k_one (k_cmp (op_eqA hr.units) bf_eq (k_var 0) (k_var 1) (nomark _))))))) kss_nil) (kss_one (ks_ret (k_and (k_isi "int" T.m_isinstance T.m_int (k_var 0)) (k_one (k_cmp (op_eqA hr.units) bf_eq (k_var 0) (k_var 1) (nomark _)))))))))))
theorem ok_v_law_same (T : Txt K mg w) : FnOk P w K mg base (L2.CX P w) 6 T.f_v_law_same T.fd_v_law_same ["actual", "expected"] (spF K (ca T) 2 M_v_law_same) := okn_v_law_same T 6
theorem ok_v_law_way_back (T : Txt K mg w) : FnOk P w K mg base (L2.CX P w) 1 T.f_v_law_way_back T.fd_v_law_way_back ["graph", "start"] (spF K (ca T) 2 M_v_law_way_back) :=
  k_def (N := ["graph", "start", "reached", "seen", "k", "more", "vertex", "other"]) (body := B_v_law_way_back) T.F_v_law_way_back sc_v_law_way_back (fun cdv A outer s H E hr tk po => (kss_cons (ks_set 2 sc_v_law_way_back.nd (k_callTy call_list_of bf_list T.m_list (ka_cons (k_idx (k_var 0) (k_var 1)) ka_nil))) (kss_cons (ks_set 3 sc_v_law_way_back.nd (k_callTy call_list_of bf_list T.m_list (ka_cons (k_var 2) ka_nil))) (kss_cons (ks_for po rfl (ki_rng1 T.m_range (ka_cons (k_callB call_len bf_len T.m_len (ka_cons (k_var 0) ka_nil)) ka_nil)) (kg_name 4 sc_v_law_way_back.nd) (kss_cons (ks_if (kt_cmp op_inA bf_in (k_var 1) (k_var 2) (by rfl)) (kss_one (ks_ret (k_bin op_addA bf_add (k_var 4) k_int))) kss_nil) (kss_cons (ks_set 5 sc_v_law_way_back.nd (k_lst ka_nil)) (kss_cons (ks_for po rfl (ki_val (k_var 2)) (kg_name 6 sc_v_law_way_back.nd) (kss_one (ks_for po rfl (ki_val (k_idx (k_var 0) (k_var 6))) (kg_name 7 sc_v_law_way_back.nd) (kss_one (ks_if (kt_cmp op_ninA bf_nin (k_var 7) (k_var 3) (by rfl)) (kss_cons (ks_expr (k_bm PySem.F.plainAttrs_list PySem.F.slot_list_append PySem.F.type_list_append mt_append mf_append (k_var 3) (ka_cons (k_var 7) ka_nil))) (kss_one (ks_expr (k_bm PySem.F.plainAttrs_list PySem.F.slot_list_append PySem.F.type_list_append mt_append mf_append (k_var 5) (ka_cons (k_var 7) ka_nil))))) kss_nil))))) (kss_cons (ks_set 2 sc_v_law_way_back.nd (k_var 5)) (kss_one (ks_if (kt_cmp (op_eqA hr.units) bf_eq (k_callB call_len bf_len T.m_len (ka_cons (k_var 2) ka_nil)) k_int (nomark _)) (kss_one ks_break) kss_nil))))))) (kss_one (ks_ret k_int))))))
theorem ok_way_back (T : Txt K mg w) : FnOk P w K mg base (L2.CX P w) 1 T.f_way_back T.fd_way_back ["graph", "start"] (spF K (ca T) 2 M_way_back) :=
  k_def (N := ["graph", "start", "before", "queue", "at", "index", "other", "way"]) (body := B_way_back) T.F_way_back sc_way_back (fun cdv A outer s H E hr tk po => (kss_cons (ks_set 2 sc_way_back.nd k_dnew) (kss_cons (ks_set 3 sc_way_back.nd (k_lst (ka_cons (k_var 1) ka_nil))) (kss_cons (ks_set 4 sc_way_back.nd k_int) (kss_cons (ks_while po (kt_cmp op_ltA bf_lt (k_var 4) (k_callB call_len bf_len T.m_len (ka_cons (k_var 3) ka_nil)) (nomark _)) (kss_cons (ks_set 5 sc_way_back.nd (k_idx (k_var 3) (k_var 4))) (kss_cons (ks_aug 4 iop_addB bf_iadd sc_way_back.nd k_int) (kss_one (ks_for po rfl (ki_val (k_idx (k_var 0) (k_var 5))) (kg_name 6 sc_way_back.nd) (kss_cons (ks_if (kt_cmp (op_eqA hr.units) bf_eq (k_var 6) (k_var 1) (nomark _)) (kss_cons (ks_set 7 sc_way_back.nd (k_lst (ka_cons (k_var 5) ka_nil))) (kss_cons (ks_while po (kt_cmp (op_neA hr.units) bf_ne (k_idx (k_var 7) (k_un un_neg uf_neg k_int)) (k_var 1) (nomark _)) (kss_one (ks_expr (k_bm PySem.F.plainAttrs_list PySem.F.slot_list_append PySem.F.type_list_append mt_append mf_append (k_var 7) (ka_cons (k_didx (room1 hr) (k_var 2) (k_idx (k_var 7) (k_un un_neg uf_neg k_int)) (fun _ _ => rfl)) ka_nil))))) (kss_one (ks_ret (k_callTy call_tuple_of bf_tuple T.m_tuple (ka_cons (k_rev (k_var 7)) ka_nil)))))) kss_nil) (kss_one (ks_if (kt_dnin (room1 hr) (k_var 6) (k_var 2) (by rfl)) (kss_cons (ks_setDx (k_var 5) (k_var 2) (k_var 6) (pg := pg_sub (k_var 2) (k_var 6) (set_dict (room1 hr)))) (kss_one (ks_expr (k_bm PySem.F.plainAttrs_list PySem.F.slot_list_append PySem.F.type_list_append mt_append mf_append (k_var 3) (ka_cons (k_var 6) ka_nil))))) kss_nil)))))))) (kss_one (ks_ret (k_tup ka_nil))))))))
theorem ok_circle (T : Txt K mg w) : FnOk P w K mg base (L2.CX P w) 2 T.f_circle T.fd_circle ["graph"] (spF K (ca T) 1 M_circle) :=
  k_def (N := ["graph", "start", "way"]) (body := B_circle) T.F_circle sc_circle (fun cdv A outer s H E hr tk po => (kss_cons (ks_for po rfl (ki_rng1 T.m_range (ka_cons (k_callB call_len bf_len T.m_len (ka_cons (k_var 0) ka_nil)) ka_nil)) (kg_name 1 sc_circle.nd) (kss_cons (ks_set 2 sc_circle.nd (k_call (ok_way_back T) tk (hr.mono (by decide)) (by rfl) T.g_way_back T.F_way_back.kp T.b_way_back rfl (ka_cons (k_var 0) (ka_cons (k_var 1) ka_nil)) (al_cons (al_cons al_nil)))) (kss_one (ks_if (kt_cmp (op_neA hr.units) bf_ne (k_var 2) (k_tup ka_nil) (nomark _)) (kss_one (ks_ret (k_var 2))) kss_nil)))) (kss_one (ks_ret (k_tup ka_nil)))))
theorem ok_law (T : Txt K mg w) : FnOk P w K mg base (L2.CX P w) 7 T.f_law T.fd_law ["script"] (spF K (ca T) 1 M_law) :=
  k_def (N := ["script", "draws", "graph", "found", "start", "size", "k"]) (body := B_law) T.F_law sc_law (fun cdv A outer s H E hr tk po => (kss_cons (ks_set 1 sc_law.nd (k_call (ok_v_law_draws T) tk (hr.mono (by decide)) (by rfl) T.g_v_law_draws T.F_v_law_draws.kp T.b_v_law_draws rfl (ka_cons (k_var 0) ka_nil) (al_cons al_nil))) (kss_cons (ks_set 2 sc_law.nd (k_call (ok_v_law_graph T) tk (hr.mono (by decide)) (by rfl) T.g_v_law_graph T.F_v_law_graph.kp T.b_v_law_graph rfl (ka_cons (k_var 1) ka_nil) (al_cons al_nil))) (kss_cons (ks_set 3 sc_law.nd (k_call (ok_circle T) tk (hr.mono (by decide)) (by rfl) T.g_circle T.F_circle.kp T.b_circle rfl (ka_cons (k_var 2) ka_nil) (al_cons al_nil))) (kss_cons (ks_if (kt_not (kt_tru (k_isi "tuple" T.m_isinstance T.m_tuple (k_var 3)))) (kss_one (ks_ret k_bl)) kss_nil) (kss_cons (ks_for po rfl (ki_rng1 T.m_range (ka_cons (k_callB call_len bf_len T.m_len (ka_cons (k_var 2) ka_nil)) ka_nil)) (kg_name 4 sc_law.nd) (kss_cons (ks_set 5 sc_law.nd (k_call (ok_v_law_way_back T) tk (hr.mono (by decide)) (by rfl) T.g_v_law_way_back T.F_v_law_way_back.kp T.b_v_law_way_back rfl (ka_cons (k_var 2) (ka_cons (k_var 4) ka_nil)) (al_cons (al_cons al_nil)))) (kss_one (ks_if (kt_cmp op_gtA bf_gt (k_var 5) k_int (nomark _)) (kss_cons (ks_if (kt_pw (kw_or (kt_cmp (op_neA hr.units) bf_ne (k_callB call_len bf_len T.m_len (ka_cons (k_var 3) ka_nil)) (k_var 5) (nomark _)) (kw_or1 (kt_not (kt_tru (k_call (ok_v_law_same T) tk (hr.mono (by decide)) (by rfl) T.g_v_law_same T.F_v_law_same.kp T.b_v_law_same rfl (ka_cons (k_idx (k_var 3) k_int) (ka_cons (k_var 4) ka_nil)) (al_cons (al_cons al_nil)))))))) (kss_one (ks_ret k_bl)) kss_nil) (kss_cons (ks_for po rfl (ki_rng1 T.m_range (ka_cons (k_var 5) ka_nil)) (kg_name 6 sc_law.nd) (kss_cons (ks_if (kt_pw (kw_or (kt_not (kt_tru (k_isi "int" T.m_isinstance T.m_int (k_idx (k_var 3) (k_var 6))))) (kw_or1 (kt_tru (k_isi "bool" T.m_isinstance T.m_bool (k_idx (k_var 3) (k_var 6))))))) (kss_one (ks_ret k_bl)) kss_nil) (kss_one (ks_if (kt_pw (kw_or (kt_cmp op_ltA bf_lt (k_idx (k_var 3) (k_var 6)) k_int (nomark _)) (kw_or (kt_cmp op_geA bf_ge (k_idx (k_var 3) (k_var 6)) (k_callB call_len bf_len T.m_len (ka_cons (k_var 2) ka_nil)) (nomark _)) (kw_or1 (kt_cmp op_ninA bf_nin (k_idx (k_var 3) (k_bin op_mod bf_mod (k_callTy call_int1 bf_int T.m_int (ka_cons (k_bin op_addA bf_add (k_var 6) k_int) ka_nil)) (k_var 5))) (k_idx (k_var 2) (k_idx (k_var 3) (k_var 6))) (by rfl)))))) (kss_one (ks_ret k_bl)) kss_nil)))) (kss_one (ks_ret k_bl)))) kss_nil)))) (kss_one (ks_ret (k_cmp (op_eqA hr.units) bf_eq (k_callB call_len bf_len T.m_len (ka_cons (k_var 3) ka_nil)) k_int (nomark _))))))))))
end
theorem all_mk {l : PySem.W.OpenLaw} {w : World} {K : PySem.W.Frag} {h : Heap} {mg : Str → Option Value} {fa : Addr} (X : K.In h) (G : h.Ns mainGlobals mg) (hfa : mg "law" = some (.ref fa))
    {f0 : Addr} {od0 an0 : Option Addr} {sl0 : Array (Option Value)} {oc0 kV0 dc0 pm0 cd0 ct0 : Value}
    (a0 : PySem.W.nsIn K mainGlobals "_law_draws" = some (some (.ref f0))) (l0 : K.lookup f0 = some ⟨oc0, od0, .func (PySem.W.fnOf "_law_draws" "_law_draws" (defArgs s_v_law_draws) (defBody s_v_law_draws) (defScope s_v_law_draws) .none kV0 dc0 pm0 an0 cd0 ct0), sl0⟩) (c0 : PySem.W.codeIn K cd0 "_law_draws" = true) (k0 : PySem.W.keepIn K (.ref f0) = true)
    {f1 : Addr} {od1 an1 : Option Addr} {sl1 : Array (Option Value)} {oc1 kV1 dc1 pm1 cd1 ct1 : Value}
    (a1 : PySem.W.nsIn K mainGlobals "_law_draw" = some (some (.ref f1))) (l1 : K.lookup f1 = some ⟨oc1, od1, .func (PySem.W.fnOf "_law_draw" "_law_draw" (defArgs s_v_law_draw) (defBody s_v_law_draw) (defScope s_v_law_draw) .none kV1 dc1 pm1 an1 cd1 ct1), sl1⟩) (c1 : PySem.W.codeIn K cd1 "_law_draw" = true) (k1 : PySem.W.keepIn K (.ref f1) = true)
    {f2 : Addr} {od2 an2 : Option Addr} {sl2 : Array (Option Value)} {oc2 kV2 dc2 pm2 cd2 ct2 : Value}
    (a2 : PySem.W.nsIn K mainGlobals "_law_graph" = some (some (.ref f2))) (l2 : K.lookup f2 = some ⟨oc2, od2, .func (PySem.W.fnOf "_law_graph" "_law_graph" (defArgs s_v_law_graph) (defBody s_v_law_graph) (defScope s_v_law_graph) .none kV2 dc2 pm2 an2 cd2 ct2), sl2⟩) (c2 : PySem.W.codeIn K cd2 "_law_graph" = true) (k2 : PySem.W.keepIn K (.ref f2) = true)
    {f3 : Addr} {od3 an3 : Option Addr} {sl3 : Array (Option Value)} {oc3 kV3 dc3 pm3 cd3 ct3 : Value}
    (a3 : PySem.W.nsIn K mainGlobals "_law_same" = some (some (.ref f3))) (l3 : K.lookup f3 = some ⟨oc3, od3, .func (PySem.W.fnOf "_law_same" "_law_same" (defArgs s_v_law_same) (defBody s_v_law_same) (defScope s_v_law_same) .none kV3 dc3 pm3 an3 cd3 ct3), sl3⟩) (c3 : PySem.W.codeIn K cd3 "_law_same" = true) (k3 : PySem.W.keepIn K (.ref f3) = true)
    {f4 : Addr} {od4 an4 : Option Addr} {sl4 : Array (Option Value)} {oc4 kV4 dc4 pm4 cd4 ct4 : Value}
    (a4 : PySem.W.nsIn K mainGlobals "_law_way_back" = some (some (.ref f4))) (l4 : K.lookup f4 = some ⟨oc4, od4, .func (PySem.W.fnOf "_law_way_back" "_law_way_back" (defArgs s_v_law_way_back) (defBody s_v_law_way_back) (defScope s_v_law_way_back) .none kV4 dc4 pm4 an4 cd4 ct4), sl4⟩) (c4 : PySem.W.codeIn K cd4 "_law_way_back" = true) (k4 : PySem.W.keepIn K (.ref f4) = true)
    {f5 : Addr} {od5 an5 : Option Addr} {sl5 : Array (Option Value)} {oc5 kV5 dc5 pm5 cd5 ct5 : Value}
    (a5 : PySem.W.nsIn K mainGlobals "way_back" = some (some (.ref f5))) (l5 : K.lookup f5 = some ⟨oc5, od5, .func (PySem.W.fnOf "way_back" "way_back" (defArgs s_way_back) (defBody s_way_back) (defScope s_way_back) .none kV5 dc5 pm5 an5 cd5 ct5), sl5⟩) (c5 : PySem.W.codeIn K cd5 "way_back" = true) (k5 : PySem.W.keepIn K (.ref f5) = true)
    {f6 : Addr} {od6 an6 : Option Addr} {sl6 : Array (Option Value)} {oc6 kV6 dc6 pm6 cd6 ct6 : Value}
    (a6 : PySem.W.nsIn K mainGlobals "circle" = some (some (.ref f6))) (l6 : K.lookup f6 = some ⟨oc6, od6, .func (PySem.W.fnOf "circle" "circle" (defArgs s_circle) (defBody s_circle) (defScope s_circle) .none kV6 dc6 pm6 an6 cd6 ct6), sl6⟩) (c6 : PySem.W.codeIn K cd6 "circle" = true) (k6 : PySem.W.keepIn K (.ref f6) = true)
    {f7 : Addr} {od7 an7 : Option Addr} {sl7 : Array (Option Value)} {oc7 kV7 dc7 pm7 cd7 ct7 : Value}
    (a7 : PySem.W.nsIn K mainGlobals "law" = some (some (.ref f7))) (l7 : K.lookup f7 = some ⟨oc7, od7, .func (PySem.W.fnOf "law" "law" (defArgs s_law) (defBody s_law) (defScope s_law) .none kV7 dc7 pm7 an7 cd7 ct7), sl7⟩) (c7 : PySem.W.codeIn K cd7 "law" = true) (k7 : PySem.W.keepIn K (.ref f7) = true)
    (z0 : PySem.W.nsIn K mainGlobals "bool" = some none)
    (z1 : PySem.W.nsIn K mainGlobals "int" = some none)
    (z2 : PySem.W.nsIn K mainGlobals "isinstance" = some none)
    (z3 : PySem.W.nsIn K mainGlobals "len" = some none)
    (z4 : PySem.W.nsIn K mainGlobals "list" = some none)
    (z5 : PySem.W.nsIn K mainGlobals "range" = some none)
    (z6 : PySem.W.nsIn K mainGlobals "sorted" = some none)
    (z7 : PySem.W.nsIn K mainGlobals "str" = some none)
    (z8 : PySem.W.nsIn K mainGlobals "tuple" = some none)
    : ∃ fd : FuncData, (∀ (s : Shared) (v : Value), BindsTo s fd ⟨[v], []⟩ [("script", v)]) ∧ ∀ base : Heap, K.In base → base.Ns mainGlobals mg → FnOk l.prog w K mg base (L2.CX l.prog w) 7 fa fd ["script"] (spO K 1 M_law) := by
  have e := hfa.symm.trans (PySem.W.mg_of X G a7)
  cases e
  have F0 := fun_mk (st := s_v_law_draws) l0 c0 k0
  have F1 := fun_mk (st := s_v_law_draw) l1 c1 k1
  have F2 := fun_mk (st := s_v_law_graph) l2 c2 k2
  have F3 := fun_mk (st := s_v_law_same) l3 c3 k3
  have F4 := fun_mk (st := s_v_law_way_back) l4 c4 k4
  have F5 := fun_mk (st := s_way_back) l5 c5 k5
  have F6 := fun_mk (st := s_circle) l6 c6 k6
  have F7 := fun_mk (st := s_law) l7 c7 k7
  let T : Txt K mg w := {
    f_v_law_draws := f0,
    fd_v_law_draws := _,
    F_v_law_draws := F0,
    g_v_law_draws := PySem.W.mg_of X G a0,
    b_v_law_draws := (F0.binds (ps := ["script"]) (fun _ _ _ _ _ _ us hl => match us, hl with | [_], _ => rfl)),
    f_v_law_draw := f1,
    fd_v_law_draw := _,
    F_v_law_draw := F1,
    g_v_law_draw := PySem.W.mg_of X G a1,
    b_v_law_draw := (F1.binds (ps := ["draws", "limit"]) (fun _ _ _ _ _ _ us hl => match us, hl with | [_, _], _ => rfl)),
    f_v_law_graph := f2,
    fd_v_law_graph := _,
    F_v_law_graph := F2,
    g_v_law_graph := PySem.W.mg_of X G a2,
    b_v_law_graph := (F2.binds (ps := ["draws"]) (fun _ _ _ _ _ _ us hl => match us, hl with | [_], _ => rfl)),
    f_v_law_same := f3,
    fd_v_law_same := _,
    F_v_law_same := F3,
    g_v_law_same := PySem.W.mg_of X G a3,
    b_v_law_same := (F3.binds (ps := ["actual", "expected"]) (fun _ _ _ _ _ _ us hl => match us, hl with | [_, _], _ => rfl)),
    f_v_law_way_back := f4,
    fd_v_law_way_back := _,
    F_v_law_way_back := F4,
    g_v_law_way_back := PySem.W.mg_of X G a4,
    b_v_law_way_back := (F4.binds (ps := ["graph", "start"]) (fun _ _ _ _ _ _ us hl => match us, hl with | [_, _], _ => rfl)),
    f_way_back := f5,
    fd_way_back := _,
    F_way_back := F5,
    g_way_back := PySem.W.mg_of X G a5,
    b_way_back := (F5.binds (ps := ["graph", "start"]) (fun _ _ _ _ _ _ us hl => match us, hl with | [_, _], _ => rfl)),
    f_circle := f6,
    fd_circle := _,
    F_circle := F6,
    g_circle := PySem.W.mg_of X G a6,
    b_circle := (F6.binds (ps := ["graph"]) (fun _ _ _ _ _ _ us hl => match us, hl with | [_], _ => rfl)),
    f_law := fa,
    fd_law := _,
    F_law := F7,
    g_law := PySem.W.mg_of X G a7,
    b_law := (F7.binds (ps := ["script"]) (fun _ _ _ _ _ _ us hl => match us, hl with | [_], _ => rfl)),
    m_bool := PySem.W.mg_none_of X G z0,
    m_int := PySem.W.mg_none_of X G z1,
    m_isinstance := PySem.W.mg_none_of X G z2,
    m_len := PySem.W.mg_none_of X G z3,
    m_list := PySem.W.mg_none_of X G z4,
    m_range := PySem.W.mg_none_of X G z5,
    m_sorted := PySem.W.mg_none_of X G z6,
    m_str := PySem.W.mg_none_of X G z7,
    m_tuple := PySem.W.mg_none_of X G z8 }
  exact ⟨PySem.W.fnOf "law" "law" (defArgs s_law) (defBody s_law) (defScope s_law) .none kV7 dc7 pm7 an7 cd7 ct7, fun s v => .of_eq rfl, fun base _ _ => (ok_law T).imp spO_of⟩
theorem walk {l : PySem.W.OpenLaw} {q : Program} {loose : List Str} {XP : (Str → Option Value) → Heap → Prop} {YP : World → Heap → Prop} {d : DefRec} {K : Params → PySem.W.Frag} (hn : l.most = some 63) (hdf : d.params.defaults = [])
    (hY : ∀ (w : World) (h : Heap), YP w h → (K w.params).In h)
    (F : ∀ (w : World) (mg : Str → Option Value) (fa : Addr) (h : Heap), (K w.params).In h → h.Ns mainGlobals mg → mg d.name = some (.ref fa) →
      ∃ fd : FuncData, (∀ (s : Shared) (u : Value), BindsTo s fd ⟨[u], []⟩ [("script", u)]) ∧ ∀ base : Heap, (K w.params).In base → base.Ns mainGlobals mg → FnOk l.prog w (K w.params) mg base (L2.CX l.prog w) 7 fa fd ["script"] (spO (K w.params) 1 M_law))
    (hlaw : ∀ ns : List Int, ns.length ≤ 63 → ∃ h, M_law [.fl (ns.map .int)] [] = .ok (.bl true) h) :
    PySem.W.WalkO q loose XP YP l.row.toRowW d [] (fun f vs => PySem.call f vs) := by
  refine L2.walk_of (n := 63) (k := 7) (x := "script") (CX := fun w => L2.CX l.prog w) (sp := fun w => spO (K w.params) 1 M_law) hn (by decide) hdf ⟨rfl, by decide, by decide⟩ hY F (fun w H a ns hl hO hS => ?_) (fun w H s e s' h => ?_)
  · obtain ⟨h, e⟩ := hlaw ns hl
    exact law_spO hO hS e
  · exact cx_no h
end Ok

set_option Elab.async false
open PySem PySem.W PyProof.Rows in
set_option maxRecDepth 100000 in
set_option maxHeartbeats 0 in
theorem PySem.Challenge.cw_cardhouse_k42_circles_holds : PySem.Challenge.rw_cardhouse_k42_circles.Holds := by
  w_on; o_law; k_head; (case hw => w_witness2)
  k_fill
  refine Ok.walk (l := PySem.Challenge.rw_cardhouse_k42_circles) rfl rfl (fun w h Y => PySem.W.kIn_of Y) ?F Law.law_true
  case F =>
    intro w mg fa h KX G hmg
    refine' Ok.all_mk KX G hmg ?a0 ?l0 ?c0 ?k0 ?a1 ?l1 ?c1 ?k1 ?a2 ?l2 ?c2 ?k2 ?a3 ?l3 ?c3 ?k3 ?a4 ?l4 ?c4 ?k4 ?a5 ?l5 ?c5 ?k5 ?a6 ?l6 ?c6 ?k6 ?a7 ?l7 ?c7 ?k7 ?z0 ?z1 ?z2 ?z3 ?z4 ?z5 ?z6 ?z7 ?z8
    (case a0 => k_is)
    (case l0 => k_is)
    (case c0 => k_is)
    (case k0 => k_is)
    (case a1 => k_is)
    (case l1 => k_is)
    (case c1 => k_is)
    (case k1 => k_is)
    (case a2 => k_is)
    (case l2 => k_is)
    (case c2 => k_is)
    (case k2 => k_is)
    (case a3 => k_is)
    (case l3 => k_is)
    (case c3 => k_is)
    (case k3 => k_is)
    (case a4 => k_is)
    (case l4 => k_is)
    (case c4 => k_is)
    (case k4 => k_is)
    (case a5 => k_is)
    (case l5 => k_is)
    (case c5 => k_is)
    (case k5 => k_is)
    (case a6 => k_is)
    (case l6 => k_is)
    (case c6 => k_is)
    (case k6 => k_is)
    (case a7 => k_is)
    (case l7 => k_is)
    (case c7 => k_is)
    (case k7 => k_is)
    (case z0 => k_is)
    (case z1 => k_is)
    (case z2 => k_is)
    (case z3 => k_is)
    (case z4 => k_is)
    (case z5 => k_is)
    (case z6 => k_is)
    (case z7 => k_is)
    (case z8 => k_is)
#print axioms PySem.Challenge.cw_cardhouse_k42_circles_holds

